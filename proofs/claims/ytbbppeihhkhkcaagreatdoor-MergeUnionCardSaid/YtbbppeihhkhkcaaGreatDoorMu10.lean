/- 10 -/
import Derived.Test.YtbbppeihhkhkcaaGreatDoorMu09
import Derived.Test.YtbbppeihhkhkcaaGreatDoorMu08
import Derived.Test.YtbbppeihhkhkcaaGreatDoorMu06
import Derived.Test.YtbbppeihhkhkcaaGreatDoorMu04
import Derived.RangeFuncLeaves
import Derived.RangeFuncRecord
import Derived.RangeFuncSeq
import Derived.OrdersIn
import Derived.TacticsIn
import Derived.Test.YtbbppeihhkhkcaaGreatDoorMu05
import Derived.Laws.BytesString
import Derived.Laws.Strings
import Derived.Test.YtbbppeihhkhkcaaGreatDoorMu02
import Derived.Shelf.Strings.Trim
import Derived.Test.YtbbppeihhkhkcaaGreatDoorMu03
import Derived.ChangeKeysEq
import Derived.Test.YtbbppeihhkhkcaaGreatDoorMu07
set_option linter.unusedSimpArgs false
set_option linter.unusedVariables false
namespace Go.Proofs.YtbbppeihhkhkcaaGreatDoor
open _root_.Go.Proofs.Tryz _root_.Go.Proofs.YtbbppeihhkhkcaaGreatDoor.Tryz
open Go Go.Sy Go.Pl Go.Proofs
def inner (tl:List Cl)(x:ah)(r:Int):Int:=((aq tl x).map fun q=>if q.cell=r then x.sign * q.sign else 0).sum
theorem jv (tl:List Cl)(l:List ah)(r:Int):vn tl l r=(l.map fun x=>inner tl x r).sum:=by
 unfold vn;induction l with
 | nil=>rfl
 | cons x q ih=>simp only[zh3,List.sum_append,zg2,List.sum_cons,ih]; rfl
theorem zL {tl:List Cl}{l m:List ah}(h:l.Perm m)(r:Int):vn tl l r=vn tl m r:=by
 rw[jv,jv];exact na (h.map _)
theorem AF {tl:List Cl}{l m:List ah}(h:l.Perm m)(r:Int):cntR tl l r=cntR tl m r:=z8 (h.map _)
def sgn (b:Bool):Int:=if b then -1 else 1
theorem rM (b:Bool){a:Int}(h:a=1∨a = -1):sV b a=sgn b * a∧(sV b a=1∨sV b a = -1):=by
 rcases h with rfl | rfl <;> cases b <;> exact⟨by decide,by decide⟩
theorem kK {α:Type}{l:List α}{f g:α→Int}{K:Int}(h:∀ x∈l,f x=K * g x):(l.map f).sum=K * (l.map g).sum:=by
 induction l with
 | nil=>simp
 | cons x r ih =>
  simp only[zg2,List.sum_cons];rw[h x (by simp),ih fun y hy=>h y (by simp[hy]),Int.mul_add]
structure Nm (l:List Cl)(k:Int):Prop where
 inj:∀ a∈l,∀ b∈l,dK a.id k=dK b.id k→a=b
 pos:∀ a∈l,0<dK a.id k
section
variable {l:List Cl}(h:Rt l){k:Int}(hn:Nm l k)(t:Int)
include h hn
omit hn in
theorem fz (c:Cl)(hc:c∈l){x:ah}(hx:x∈c.sides):∃ d∈l,d.id=x.cell∧ab l x.cell=some d∧d.dim=c.dim - 1:=by
 obtain ⟨d,hd,hdd⟩:=(h.form c hc).found x hx;obtain ⟨h1,h2⟩:=ar hd;exact⟨d,h1,h2,hd,hdd⟩
theorem Dw:((l.map (aI k t)).map Cl.id).Nodup:=by
 rw[zi3,List.Nodup,zk2];refine List.Pairwise.imp_of_mem ?_ h.asc;intro a b ha hb hlt e;have:=hn.inj a ha b hb e;subst this;omega
theorem rK:((aa (l.map (aI k t))).map Cl.id).Nodup:=by
 have h1:=Dw h hn t;have h2:((aa (l.map (aI k t))).map Cl.id).Perm ((l.map (aI k t)).map Cl.id):=by
  rw[pH];exact (dV _).map _
 exact h2.symm.nodup h1
omit h hn in
theorem Dv {c:Cl}(hc:c∈l):bo (aI k t c)∈aa (l.map (aI k t)) :=
 ze9.2 ⟨_,(ec _ _).2 (ze9.2 ⟨c,hc,rfl⟩),rfl⟩
omit h hn in
theorem mT {c':Cl}(hc:c'∈aa (l.map (aI k t))):∃ c∈l,c'=bo (aI k t c):=by
 obtain ⟨d,hd,rfl⟩:=ze9.1 hc;obtain ⟨c,hc',rfl⟩:=ze9.1 ((ec _ _).1 hd);exact⟨c,hc',I⟩
theorem mE {c:Cl}(hc:c∈l):ab (aa (l.map (aI k t))) (dK c.id k)=some (bo (aI k t c)) :=
 mH (x:=bo (aI k t c)) (rK h hn t) (Dv t hc)
omit h hn in
theorem ep (c:Cl):(bo (aI k t c)).sides.Perm (c.sides.map (bd k t c)):=dV _
omit hn in
theorem mD {c:Cl}(hc:c∈l){x:ah}(hx:x∈c.sides):(bd k t c x).sign=sgn (ij t c x.cell) * (sgn (iI t c) * x.sign)∧((bd k t c x).sign=1∨(bd k t c x).sign = -1):=by
 have h1:=rM (iI t c) ((h.form c hc).sg x hx);have h2:=rM (ij t c x.cell) h1.2;exact⟨by rw[← h1.1]; exact h2.1,h2.2⟩
theorem vE {c:Cl}(hc:c∈l):Fm (aa (l.map (aI k t))) (bo (aI k t c)):=by
 have hf:=h.form c hc;have hlen:(bo (aI k t c)).sides.length=c.sides.length:=by rw[(ep t c).length_eq,ze4]
 have hmem:∀ x',x'∈(bo (aI k t c)).sides↔∃ x∈c.sides,bd k t c x=x':=fun x'=>by rw[(ep t c).mem_iff,ze9]
 refine⟨hf.dim,?_,fun x' hx'=>?_,?_,fun x' hx'=>?_,fun hd=>?_⟩
 ·have:=hf.cnt;unfold aU at this ⊢;rw[hlen];exact this
 ·obtain ⟨x,hx,rfl⟩:=(hmem x').1 hx';obtain ⟨d,hd,hid,_,hdd⟩:=fz h c hc hx;have:=mE h hn t hd;rw[hid] at this;exact⟨_,this,hdd⟩
 ·have h1:(bo (aI k t c)).sides.Pairwise fun a b=>a.cell≤b.cell:=bQ _;have h2:((bo (aI k t c)).sides.map ah.cell).Nodup:=by
   refine ((ep t c).map ah.cell).symm.nodup ?_;rw[zi3,List.Nodup,zk2];refine List.Pairwise.imp_of_mem ?_ hf.asc;intro a b ha hb hlt e;obtain ⟨d,hd,hid,_⟩:=fz h c hc ha;obtain ⟨d',hd',hid',_⟩:=fz h c hc hb;have e:dK a.cell k=dK b.cell k:=e;rw[← hid,← hid'] at e;have:=hn.inj d hd d' hd' e;subst this;omega
  rw[List.Nodup,zk2] at h2;exact (h1.and h2).imp fun ⟨h3,h4⟩=>by omega
 ·obtain ⟨x,hx,rfl⟩:=(hmem x').1 hx';exact (mD h t hc hx).2
 ·have hd:c.dim=1:=hd;have h1:=hf.one hd;unfold mo at h1 ⊢;rw[na ((ep t c).map ah.sign),zi3];rw[kK (g:=ah.sign) (K:=sgn (iI t c)) fun x hx=>?_,h1,Int.mul_zero];have h2:=(mD (k:=k) h t hc hx).1;have h3:ij t c x.cell=false:=by unfold ij; simp[hd]
  rw[h3] at h2;show (bd k t c x).sign=_;rw[h2];unfold sgn;simp
theorem qu {c:Cl}(hc:c∈l){x:ah}(hx:x∈c.sides){e:Cl}(he:e∈l):jF (aa (l.map (aI k t))) (bd k t c x) (dK e.id k)=jF l x e.id:=by
 obtain ⟨d,hd,hid,hfd,_⟩:=fz h c hc hx;unfold jF aq;rw[hfd,show (bd k t c x).cell=dK d.id k by rw[hid]; rfl,mE h hn t hd];show ((bo (aI k t d)).sides.filter _).length=_;rw[((ep t d).filter _).length_eq,List.filter_map,ze4];congr 1;refine List.filter_congr fun q hq=>?_;obtain ⟨u,hu,hui,_⟩:=fz h d hd hq;show decide (dK q.cell k=dK e.id k)=decide (q.cell=e.id);rw[decide_eq_decide,← hui];by_cases hue:u=e
 ·subst hue; simp
 ·have h1:¬ dK u.id k=dK e.id k:=fun e'=>hue (hn.inj u hu e he e');have h2:¬ u.id=e.id:=fun e'=>hue (by have a1:=h.find hu; have a2:=h.find he; rw[e',a2] at a1; injection a1 with a1; exact a1.symm);simp[h1,h2]
theorem nH {c:Cl}(hc:c∈l){x:ah}(hx:x∈c.sides){r:Int}(hr:∀ e∈l,dK e.id k≠r):jF (aa (l.map (aI k t))) (bd k t c x) r=0:=by
 obtain ⟨d,hd,hid,hfd,_⟩:=fz h c hc hx;unfold jF aq;rw[show (bd k t c x).cell=dK d.id k by rw[hid]; rfl,mE h hn t hd];show ((bo (aI k t d)).sides.filter _).length=_;rw[((ep t d).filter _).length_eq,List.length_eq_zero_iff,List.filter_eq_nil_iff];intro q' hq';obtain ⟨q,hq,rfl⟩:=ze9.1 hq';obtain ⟨u,hu,hui,_⟩:=fz h d hd hq;have:=hr u hu;rw[hui] at this;show ¬ decide (dK q.cell k=r)=true;simpa using this
theorem zZ {c:Cl}(hc:c∈l)(hd1:c.dim>1){x:ah}(hx:x∈c.sides){e:Cl}(he:e∈l) :
  inner (aa (l.map (aI k t))) (bd k t c x) (dK e.id k)=sgn (iI t c) * sgn ((decide (t>1)&&decide (c.dim - 1>1))&&decide (e.id.tmod t=1)) * inner l x e.id:=by
 obtain ⟨d,hd,hid,hfd,hdd⟩:=fz h c hc hx;have hsx:=(mD (k:=k) h t hc hx).1;unfold inner aq;rw[hfd,show (bd k t c x).cell=dK d.id k by rw[hid]; rfl,mE h hn t hd];show ((bo (aI k t d)).sides.map _).sum=_;rw[na ((ep t d).map _),zi3];show _=_ * (d.sides.map _).sum;refine kK fun q hq=>?_;obtain ⟨u,hu,hui,_⟩:=fz h d hd hq;have hsq:=(mD (k:=k) h t hd hq).1;simp only[Function.comp_def];show (if dK q.cell k=dK e.id k then (bd k t c x).sign * (bd k t d q).sign else 0)=_;by_cases hue:u=e
 ·subst hue;rw[hui,zf8 rfl,zf8 rfl,hsx,hsq];have h1:ij t c x.cell=iI t d:=by
   unfold ij iI;rw[hid];simp[hd1]
  have h2:ij t d q.cell=((decide (t>1)&&decide (c.dim - 1>1))&&decide (q.cell.tmod t=1)):=by
   unfold ij;rw[hdd]
  rw[h1,h2];generalize iI t d=b1;generalize iI t c=b2;generalize ((decide (t>1)&&decide (c.dim - 1>1))&&decide (q.cell.tmod t=1))=b3;cases b1 <;> cases b2 <;> cases b3 <;> simp[sgn,Int.neg_mul,Int.mul_neg]
 ·have h1:¬ dK q.cell k=dK e.id k:=fun e'=>hue (hn.inj u hu e he (by rw[hui]; exact e'));have h2:¬ q.cell=e.id:=fun e'=>hue (by have a1:=h.find hu; have a2:=h.find he; rw[hui,e',a2] at a1; injection a1 with a1; exact a1.symm);rw[zf7 h1,zf7 h2,Int.mul_zero]
omit h hn in
theorem B4 {tl:List Cl}{x:ah}{r:Int}(h0:jF tl x r=0):inner tl x r=0:=by
 unfold jF at h0;rw[List.length_eq_zero_iff,List.filter_eq_nil_iff] at h0;unfold inner;have:((aq tl x).map fun q=>if q.cell=r then x.sign * q.sign else 0)=(aq tl x).map fun _=>(0:Int):=zc7 fun q hq=>zf7 (by simpa using h0 q hq);rw[this];generalize aq tl x=m;induction m with
 | nil=>rfl
 | cons a b ih=>simpa using ih
theorem wY {c:Cl}(hc:c∈l)(hd1:c.dim>1):a6 (aa (l.map (aI k t))) (bo (aI k t c))=0:=by
 have hf:=h.form c hc;have hf':=vE h hn t hc;have hn0:0<c.sides.length:=by
  have:=hf.cnt;simp[aU] at this;have:=this.2 hd1;omega
 have hlen:(bo (aI k t c)).sides.length=c.sides.length:=by rw[(ep t c).length_eq,ze4]
 have nd:∀ {c:Cl},(c.sides.Pairwise fun a b=>a.cell<b.cell)→(c.sides.map ah.cell).Nodup:=fun h=>by
  rw[List.Nodup,zk2];exact h.imp fun h=>by omega
 obtain ⟨a1,a2,a3⟩:=(jz hn0 (nd hf.asc)).1 (h.around c hc hd1);refine (jz (by rw[hlen]; exact hn0) (nd hf'.asc)).2 ⟨fun r=>?_,fun r=>?_,fun x' hx' y' hy'=>?_⟩
 ·rw[zL (ep t c),jv,zi3];simp only[Function.comp_def];by_cases hr:∃ e∈l,dK e.id k=r
  ·obtain ⟨e,he,rfl⟩:=hr;have h1:=a1 e.id;rw[jv] at h1;rw[kK (g:=fun x=>inner l x e.id) (K:=sgn (iI t c) * sgn ((decide (t>1)&&decide (c.dim - 1>1))&&decide (e.id.tmod t=1))) fun x hx=>zZ h hn t hc hd1 hx he,h1,Int.mul_zero]
  ·have hr:∀ e∈l,dK e.id k≠r:=fun e he e'=>hr ⟨e,he,e'⟩;rw[kK (g:=fun _=>(0:Int)) (K:=0) fun x hx=>by
    rw[B4 (nH h hn t hc hx hr)];rfl,Int.zero_mul]
 ·rw[AF (ep t c)];unfold cntR;rw[zi3];simp only[Function.comp_def];by_cases hr:∃ e∈l,dK e.id k=r
  ·obtain ⟨e,he,rfl⟩:=hr;have h1:=a2 e.id;unfold cntR at h1;rw[zc7 (g:=fun x=>jF l x e.id) fun x hx=>qu h hn t hc hx he];exact h1
  ·have hr:∀ e∈l,dK e.id k≠r:=fun e he e'=>hr ⟨e,he,e'⟩;left;rw[zc7 (g:=fun _=>0) fun x hx=>nH h hn t hc hx hr];generalize c.sides=m;induction m with
   | nil=>rfl
   | cons a b ih=>simpa using ih
 ·have hmem:∀ x',x'∈(bo (aI k t c)).sides↔x'∈c.sides.map (bd k t c):=fun x'=>(ep t c).mem_iff;obtain ⟨x,hx,rfl⟩:=ze9.1 ((hmem x').1 hx');obtain ⟨y,hy,rfl⟩:=ze9.1 ((hmem y').1 hy');have hm:∀ x∈c.sides,bd k t c x∈(bo (aI k t c)).sides:=fun x hx=>(hmem _).2 (ze9.2 ⟨x,hx,rfl⟩);refine (a3 x hx y hy).map (f:=fun a=>dK a k) fun a b=>?_;rintro ⟨u,hu,v,hv,rfl,rfl,r,h1,h2⟩;obtain ⟨du,hdu,hidu,hfu,_⟩:=fz h c hc hu;have hr:∃ e∈l,e.id=r:=by
   unfold jF aq at h1;rw[hfu] at h1;obtain ⟨q,hq⟩:=List.exists_mem_of_length_pos h1;obtain ⟨hq1,hq2⟩:=zh2.1 hq;obtain ⟨e,he,hei,_⟩:=fz h du hdu (x:=q) hq1;exact⟨e,he,by rw[hei]; simpa using hq2⟩
  obtain ⟨e,he,rfl⟩:=hr;exact .one ⟨_,hm u hu,_,hm v hv,I,I,dK e.id k,by rw[qu h hn t hc hu he]; exact h1,by rw[qu h hn t hc hv he]; exact h2⟩
theorem zY:Rt (aa (l.map (aI k t))):=by
 refine⟨by rw[ax,ze4]; exact h.few,?_,fun x' hx'=>?_,fun x' hx'=>?_,fun x' hx' hd=>?_⟩
 ·have h1:=iH (l.map (aI k t));have h2:=rK h hn t;rw[zk2] at h1;rw[List.Nodup,zk2] at h2;exact (h1.and h2).imp fun ⟨h3,h4⟩=>by omega
 ·obtain ⟨c,hc,rfl⟩:=mT t hx';exact hn.pos c hc
 ·obtain ⟨c,hc,rfl⟩:=mT t hx';exact vE h hn t hc
 ·obtain ⟨c,hc,rfl⟩:=mT t hx';exact wY h hn t hc hd
end
set_option maxRecDepth 100000
def Bd (l:List Cl):Prop:=∀ c∈l,c.id≤l.length
theorem yT (ls:List (List Int)):Rt (cy ls)∧Bd (cy ls):=by
 have h1:=jW (l:=cy ls) (by rw[ue]);have h2:aa (cy ls)=cy ls:=by
  unfold cy;cases aV [] ls with
  | none=>rfl
  | some all=>exact ix _
 rw[h2] at h1;refine⟨h1,?_⟩;unfold cy;cases h:aV [] ls with
 | none=>intro c hc; simp at hc
 | some all =>
  obtain ⟨hg,_⟩:=gn ls [] h gv.nil (by simp);dsimp only;rw[hg.cells];intro c hc;obtain ⟨s,hs,rfl⟩:=ze9.1 hc;have:=(zf3.1 (hg.get_lb hs)).1;show ixC all s≤_;unfold ixC;rw[ze4];omega
theorem CF {l:List Int}{x:Int}(h:x∈l):lbI l x<l.length:=by
 unfold lbI;induction l with
 | nil=>simp at h
 | cons a r ih =>
  rw[zi5]
  rcases ze8.1 h with rfl | h
  ·have:=zc4 (fun y=>decide (y<x)) r;simp;omega
  ·have:=ih h;split
   ·simp only[ze6]; omega
   ·simp only[ze6]; omega
theorem tw (a b:List Cl):Rt (bZ a b)∧Bd (bZ a b)∧(bZ a b).length≤a.length * b.length:=by
 rw[BE];unfold CZ;split
 ·exact⟨⟨by simp,List.Pairwise.nil,by simp,by simp,by simp⟩,fun c hc=>by simp at hc,by simp⟩
 ·rename_i hbad;split
  ·rename_i hok;have hlen:(aa (de a b)).length=a.length * b.length:=by
    rw[ax];unfold de;rw[iu,ax,ax]
   refine⟨jW hok,fun c hc=>?_,by rw[hlen]; exact Nat.le_refl _⟩;rw[hlen];obtain ⟨h1,h2,_⟩:=w8 (by simpa using hbad);have ta:=bD (cH (kA h1)).1;have tb:=bD (cH (kA h2)).1;obtain ⟨d,hd,rfl⟩:=ze9.1 hc;have hd:=(ec _ _).1 hd;unfold de at hd;rw[ta,tb] at hd;obtain ⟨x,hx,hd⟩:=List.mem_flatMap.1 hd;obtain ⟨y,hy,rfl⟩:=ze9.1 hd;have l1:=CF (ze9.2 ⟨x,hx,rfl⟩:x.id∈(aa a).map Cl.id);have l2:=CF (ze9.2 ⟨y,hy,rfl⟩:y.id∈(aa b).map Cl.id);rw[ze4,ax] at l1 l2;show aW (aa a) (aa b) x.id y.id≤_;unfold aW;rw[ax];have h3:(lbI ((aa a).map Cl.id) x.id+1) * b.length≤a.length * b.length:=Nat.mul_le_mul_right _ l1;rw[Nat.succ_mul] at h3;have h4:((lbI ((aa a).map Cl.id) x.id * b.length:Nat):Int)=(lbI ((aa a).map Cl.id) x.id:Int) * (b.length:Int):=Int.natCast_mul _ _;rw[← h4];omega
  ·exact⟨⟨by simp,List.Pairwise.nil,by simp,by simp,by simp⟩,fun c hc=>by simp at hc,by simp⟩
theorem xa:∀ n,n<7→2≤n→(au (un n)).2=0∧∀ c∈un n,c.id≤90:=by decide +kernel
theorem jT:∀ (ls acc:List (List Int)) {all:List (List Int)},aV acc ls=some all→(∀ x∈ls,x.length≤2)→all.length≤acc.length+3 * ls.length
 | [],acc,all,h,_=>by cases h; simp
 | s::r,acc,all,h,hl=>by
  have hs:=hl s (by simp);have h3:(cG s).length≤s.length:=by
   unfold cG;exact zk5 (jO _ _) (by rw[fk]; exact Nat.le_refl _)
  simp only[ze6];unfold aV at h;split at h
  ·have:=jT r acc h fun x hx=>hl x (by simp[hx]);omega
  ·split at h
   ·cases h
   ·have h1:=jT r _ h fun x hx=>hl x (by simp[hx]);have h2:(dM acc (cG s)).length≤acc.length+3:=by
     unfold dM;refine zk5 (jO _ _) ?_;rw[(gP _).length_eq,ze3];have:2 ^ (cG s).length≤2 ^ 2:=Nat.pow_le_pow_right dC oM;simp[br];omega
    omega
theorem pF:(cy [[0,1],[1,2],[0,2]]).length≤9:=by
 unfold cy;cases h:aV [] [[0,1],[1,2],[0,2]] with
 | none=>simp
 | some all =>
  have:=jT _ _ h dC;dsimp only;rw[ax,bn];simpa using this
theorem p4 (m:Int)(ls:List (List Int))(y:Int):Rt (oz (m5 m ls y))∧∀ c∈oz (m5 m ls y),c.id≤90:=by
 have key:∀ l:List Cl,Rt l→(l.length≤45→∀ c∈l,c.id≤90)→Rt (oz l)∧∀ c∈oz l,c.id≤90:=by
  intro l h1 h2;unfold oz;split
  ·have h3:=tw (cy [[0,1],[1,2],[0,2]]) (cy [[0,1],[1,2],[0,2]]);refine⟨h3.1,fun c hc=>?_⟩;have h4:=h3.2.1 c hc;have h5:=h3.2.2;have h6:oh.length≤9 * 9:=zk5 h5 (Nat.mul_le_mul pF pF);have h7:c.id≤oh.length:=h4;omega
  ·exact⟨h1,h2 oM⟩
 have hS:∀ ls,Rt (oz (cy ls))∧∀ c∈oz (cy ls),c.id≤90:=fun ls=>key _ (yT ls).1 fun hl c hc=>by have:=(yT ls).2 c hc; omega
 have hP:∀ a b,Rt (oz (bZ a b))∧∀ c∈oz (bZ a b),c.id≤90:=fun a b=>key _ (tw a b).1 fun hl c hc=>by have:=(tw a b).2.1 c hc; omega
 have h5:=bU y 5 dC dC;unfold m5
 repeat' split
 ·exact hS _
 ·exact hP _ _
 ·have h6:=xa (2+bA y 5).toNat oM oM;have h7:=jW h6.1;rw[show aa (un (2+bA y 5).toNat)=un (2+bA y 5).toNat from ix _] at h7;exact key _ h7 fun _=>h6.2
 ·exact hP _ _
 ·exact hS _
 ·exact hS _
theorem DE:∀ k∈[1,3,5],∀ a,a<91→∀ b,b<91→dK (a:Nat) k=dK (b:Nat) k→a=b:=by decide +kernel
theorem DD:∀ k∈[1,3,5],∀ a,a<91→0<a→0<dK (a:Nat) k:=by decide +kernel
theorem lF (kd:Int)(ls:List (List Int))(y:Int):Rt (mZ kd ls y):=by
 obtain ⟨h1,h2⟩:=p4 (bA kd 8) ls y;have hk:ru y∈[(1:Int),3,5]:=by
  have:=bU (IntKind.i64.wrap (y.tdiv 7)) 3 dC dC;unfold ru;generalize bA (IntKind.i64.wrap (y.tdiv 7)) 3=q at *
  rcases (by omega:q=0∨q=1∨q=2) with rfl | rfl | rfl <;> decide
 refine zY h1 ⟨fun a ha b hb e=>?_,fun a ha=>?_⟩ _
 ·have p1:=h1.pos a ha;have p2:=h1.pos b hb;have q1:=h2 a ha;have q2:=h2 b hb;have e1:((a.id.toNat:Nat):Int)=a.id:=Int.toNat_of_nonneg oM;have e2:((b.id.toNat:Nat):Int)=b.id:=Int.toNat_of_nonneg oM;have:=DE _ hk a.id.toNat oM b.id.toNat oM (by rw[e1,e2]; exact e);have hid:a.id=b.id:=oM;have f1:=h1.find ha;have f2:=h1.find hb;rw[hid,f2] at f1;injection f1 with f1
  exact f1.symm
 ·have p1:=h1.pos a ha;have q1:=h2 a ha;have e1:((a.id.toNat:Nat):Int)=a.id:=Int.toNat_of_nonneg oM;have:=DD _ hk a.id.toNat oM oM;rw[e1] at this;exact this
theorem CA:∀ k∈[1,3,5],∀ a,a<91→dK (a:Nat) k≤300:=by decide +kernel
theorem BU (kd:Int)(ls:List (List Int))(y:Int):∀ c∈mZ kd ls y,bI c.id:=by
 intro c hc;have h0:=(lF kd ls y).pos c hc;obtain ⟨h1,h2⟩:=p4 (bA kd 8) ls y;have hk:ru y∈[(1:Int),3,5]:=by
  have:=bU (IntKind.i64.wrap (y.tdiv 7)) 3 dC dC;unfold ru;generalize bA (IntKind.i64.wrap (y.tdiv 7)) 3=q at *
  rcases (by omega:q=0∨q=1∨q=2) with rfl | rfl | rfl <;> decide
 obtain ⟨a,ha,rfl⟩:=mT (A6 y) hc;have p1:=h1.pos a ha;have q1:=h2 a ha;have e1:((a.id.toNat:Nat):Int)=a.id:=Int.toNat_of_nonneg oM;have:=CA _ hk a.id.toNat oM;rw[e1] at this;have h3:(bo (aI (ru y) (A6 y) a)).id=dK a.id (ru y):=rfl;rw[h3] at h0 ⊢;unfold bI;omega
theorem BV (kd:Int)(ls:List (List Int))(y:Int):(mZ kd ls y).length≤90:=by
 obtain ⟨h1,h2⟩:=p4 (bA kd 8) ls y;have hl:(mZ kd ls y).length=(oz (m5 (bA kd 8) ls y)).length:=by
  unfold mZ Ec;rw[ax,ze4]
 rw[hl];generalize oz (m5 (bA kd 8) ls y)=B at *;have hnd:(B.map Cl.id).Nodup:=by
  rw[List.nodup_iff_pairwise_ne,zk2];exact h1.asc.imp fun h=>by omega
 have:=qv hnd (m:=(List.range 90).map fun k=>((k:Nat):Int)+1) (fun x hx=>by
  obtain ⟨c,hc,rfl⟩:=ze9.1 hx;have p1:=h1.pos c hc;have p2:=h2 c hc;exact ze9.2 ⟨(c.id - 1).toNat,List.mem_range.2 oM,oM⟩)
 simpa using this
def part (l:List Cl)(p:Int→Bool):List Cl:=l.filter fun c=>p c.id
def ei (l:List Cl)(p:Int→Bool):Prop:=∀ c∈l,p c.id=true→∀ x∈c.sides,p x.cell=true
theorem fJ {l:List Cl}{p:Int→Bool}{id:Int}(hp:p id=true):ab (part l p) id=ab l id:=by
 unfold ab part;induction l with
 | nil=>rfl
 | cons c r ih =>
  rw[zi5];by_cases hc:c.id=id
  ·rw[zf8 (by rw[hc]; exact hp)];simp[hc]
  ·split
   ·simp only[zi4,hc,decide_false];exact ih
   ·simp only[zi4,hc,decide_false];exact ih
theorem ex {l:List Cl}{p:Int→Bool}{id:Int}(hp:p id=false):ab (part l p) id=none:=by
 unfold ab part;rw[List.find?_eq_none];intro c hc;have:=(zh2.1 hc).2;simp;intro e;rw[e,hp] at this;cases this
theorem eP {l:List Cl}(h:Rt l){p:Int→Bool}(hp:ei l p):Rt (part l p):=by
 have hsub:(part l p).Sublist l:=List.filter_sublist;refine⟨zk5 hsub.length_le h.few,h.asc.sublist hsub,fun x hx=>h.pos x (hsub.subset hx),fun c hc=>?_,fun c hc hd=>?_⟩
 ·obtain ⟨hc1,hc2⟩:=zh2.1 hc;have hf:=h.form c hc1;exact⟨hf.dim,hf.cnt,fun x hx=>by rw[fJ (hp c hc1 hc2 x hx)]; exact hf.found x hx,hf.asc,hf.sg,hf.one⟩
 ·obtain ⟨hc1,hc2⟩:=zh2.1 hc;rw[← h.around c hc1 hd,fK,fK];congr 1;unfold jA;refine zc7 fun x hx=>?_;unfold aq;rw[fJ (hp c hc1 hc2 x hx)]
theorem o3 {l F:List Cl}(hF:Rt F)(hp:l.Perm F):aa l=F:=by
 have hc:=hF.canon;have hs:sortBy Cl.id l=F:=by
  refine (a8 (hF.asc.imp fun h=>by omega) ⟨hp.length_eq.symm,fun k=>?_⟩).symm;have h1:(l.filter fun a=>a.id == k).Perm (F.filter fun a=>a.id == k):=hp.filter _;have h3:(F.filter fun a=>a.id == k).Pairwise fun a b=>a.id<b.id:=hF.asc.sublist List.filter_sublist;have h5:∀ a∈F.filter (fun a=>a.id == k),a.id=k:=fun a ha=>by simpa using (zh2.1 ha).2
  generalize F.filter (fun a=>a.id == k)=m at *
  match m,h1,h3,h5 with
  | [],h1,_,_=>exact (List.perm_nil.1 h1).symm
  | [a],h1,_,_=>exact (List.perm_singleton.1 h1).symm
  | a::b::r,_,h3,h5 =>
   have h4:=(zk1.1 h3).1 b (by simp);have h6:=h5 a (by simp);have h7:=h5 b (by simp);omega
 unfold aa at hc ⊢;rw[hs];have hs2:sortBy Cl.id F=F:=(a8 (key:=Cl.id) (hF.asc.imp fun h=>by omega) (aw.refl F)).symm;rw[hs2] at hc;exact hc
theorem Rt.nodup {l:List Cl}(h:Rt l):l.Nodup:=h.asc.imp fun h e=>by subst e; omega
theorem Rt.same {l:List Cl}(h:Rt l){a b:Cl}(ha:a∈l)(hb:b∈l)(e:a.id=b.id):a=b:=by
 have f1:=h.find ha;have f2:=h.find hb;rw[e,f2] at f1;injection f1 with f1
 exact f1.symm
section
variable {l:List Cl}(h:Rt l){p q:Int→Bool}(hp:ei l p)(hq:ei l q)
include h hp hq
omit h in
theorem AG:ei l fun k=>p k||q k:=fun c hc hpc x hx=>by
 have hpc:(p c.id||q c.id)=true:=hpc;show (p x.cell||q x.cell)=true;rw[zj2] at hpc ⊢
 rcases hpc with h1 | h1
 ·exact .inl (hp c hc h1 x hx)
 ·exact .inr (hq c hc h1 x hx)
omit h in
theorem xK:ei l fun k=>p k&&q k:=fun c hc hpc x hx=>by
 have hpc:(p c.id&&q c.id)=true:=hpc;show (p x.cell&&q x.cell)=true;rw[zj1] at hpc ⊢;exact⟨hp c hc hpc.1 x hx,hq c hc hpc.2 x hx⟩
theorem xg:jr (part l p) (part l q)=(part l fun k=>p k||q k,true):=by
 have hcl:(part l q).any (ik (part l p))=false:=by
  rw[zk3];intro c hc;obtain ⟨hc1,_⟩:=zh2.1 hc;unfold ik;cases hpc:p c.id with
  | false=>rw[ex hpc]; simp
  | true=>rw[fJ hpc,h.find hc1]; simp
 unfold jr;rw[hcl];refine zd9 (·,true) (o3 (eP h (AG hp hq)) ?_);have hn:=h.nodup;refine (List.perm_ext_iff_of_nodup ?_ (hn.sublist List.filter_sublist)).2 fun c=>?_
 ·rw[List.nodup_append];refine⟨hn.sublist List.filter_sublist,(hn.sublist List.filter_sublist).sublist List.filter_sublist,fun a ha b hb e=>?_⟩;subst e;obtain ⟨ha1,ha2⟩:=zh2.1 ha;have:=(zh2.1 hb).2;unfold j4 at this;rw[fJ ha2,h.find ha1] at this;cases this
 ·unfold part;simp only[zf1,zh2];constructor
  ·rintro (⟨h1,h2⟩ | ⟨⟨h1,h2⟩,_⟩)
   ·exact⟨h1,by simp[h2]⟩
   ·exact⟨h1,by simp[h2]⟩
  ·rintro ⟨h1,h2⟩;cases hpc:p c.id with
   | true=>exact .inl ⟨h1,rfl⟩
   | false =>
    refine .inr ⟨⟨h1,by simpa [hpc] using h2⟩,?_⟩;unfold j4;rw[show ab (List.filter (fun c=>p c.id) l) c.id=none from ex hpc];rfl
end
set_option maxHeartbeats 1000000
end Go.Proofs.YtbbppeihhkhkcaaGreatDoor
namespace Go.Sy
open Go
structure Md where
 ro:Option Nat
 ds:List Deferred
def wf (ro:Option Nat):Fence:={ fn:=fun _=>True,depth:=none,alive:=false,round:=ro }
def iX (a:Act):Act:={ a with defers:=[] }
theorem np (a:Act):(iX a).eval=a.eval:=by funext x; cases x <;> rfl
theorem Cg (a:Act)(d:Option Tmp)(v:Value):iX (a.put d v)=(iX a).put d v:=by cases d <;> rfl
theorem oW (a:Act)(d:Option Tmp)(v:Value):(a.put d v).defers=a.defers:=by cases d <;> rfl
def Okd (ds:List Deferred)(N:Nat)(f:Fr)(a:Act):Prop:=a.defers=ds∧Ok N f (iX a)
section
variable {P:Program}{M:Md}{N:Nat}{E:World}{Q:Exit→Act→World→Prop}{f f':Fr}{g g':PH}{s s':Own}{ops:Array Oper}
theorem Okd.put {ds:List Deferred}{a:Act}(h:Okd ds N f a){d:Nat}(hlt:d<N)(v:Value):Okd ds N ((d,v)::f) (a.put (some d) v):=⟨h.1,by rw[Cg]; exact h.2.put hlt v⟩
theorem Okd.sub {ds:List Deferred}{a:Act}(h:Okd ds N f a)(hs:Sub f' f):Okd ds N f' a:=⟨h.1,h.2.sub hs⟩
theorem Okd.ev {ds:List Deferred}{a:Act}(h:Okd ds N f a){x:Operand}{v:Value}(hx:Sy.ev f x=some v):a.eval x=v:=by rw[← np]; exact h.2.ev hx
def XC (P:Program)(M:Md)(N:Nat)(E:World)(c:Code)(Q:Exit→Act→World→Prop)(f:Fr)(g:PH)(s:Own):Prop:=∀ a w,Okd M.ds N f a→At E g s w→c.wpIn (wf M.ro) 0 P Q a w
def XT (M:Md)(N:Nat)(E:World)(Q:Exit→Act→World→Prop)(e:Exit)(f:Fr)(g:PH)(s:Own):Prop:=∀ a w,Okd M.ds N f a→At E g s w→Q e a w
def XL (P:Program)(M:Md)(N:Nat)(E:World)(ops:Array Oper)(Q:Exit→Act→World→Prop)(l:List Oper)(f:Fr)(g:PH)(s:Own):Prop:=∀ a w,Okd M.ds N f a→At E g s w→wpListIn (wf M.ro) 0 P ops Q l a w
def XO (P:Program)(M:Md)(N:Nat)(E:World)(o:Oper)(f:Fr)(g:PH)(s:Own)(K:Value→PH→Own→Prop):Prop :=
 ∀ a w,Okd M.ds N f a→At E g s w→∀ (Q:Exit→Act→World→Prop) (next:Act→World→Prop),
  (∀ v g' s' w',K v g' s'→At E g' s' w'→next (a.put o.dst v) w')→o.wpIn (wf M.ro) 0 P a w next Q
theorem XC.to {c:Code}(h:∀ w,At E g s w→At E g' s' w)(hc:XC P M N E c Q f g' s'):XC P M N E c Q f g s:=fun a w ha hw=>hc a w ha (h w hw)
theorem XT.drop {e:Exit}(hs:s'.Sublist s)(h:XT M N E Q e f g s'):XT M N E Q e f g s:=fun a w ha hw=>h a w ha (hw.sublist hs)
theorem XT.to {e:Exit}(h:∀ w,At E g s w→At E g' s' w)(hc:XT M N E Q e f g' s'):XT M N E Q e f g s:=fun a w ha hw=>hc a w ha (h w hw)
theorem XL.to {l:List Oper}(h:∀ w,At E g s w→At E g' s' w)(hc:XL P M N E ops Q l f g' s'):XL P M N E ops Q l f g s:=fun a w ha hw=>hc a w ha (h w hw)
theorem XC.facts {c:Code}(h:(∃ w,At E g s w)→XC P M N E c Q f g s):XC P M N E c Q f g s:=fun a w ha hw=>h ⟨w,hw⟩ a w ha hw
theorem XL.facts {l:List Oper}(h:(∃ w,At E g s w)→XL P M N E ops Q l f g s):XL P M N E ops Q l f g s:=fun a w ha hw=>h ⟨w,hw⟩ a w ha hw
theorem XT.facts {e:Exit}(h:(∃ w,At E g s w)→XT M N E Q e f g s):XT M N E Q e f g s:=fun a w ha hw=>h ⟨w,hw⟩ a w ha hw
theorem XC.skip (h:XT M N E Q .normal f g s):XC P M N E .skip Q f g s:=fun a w ha hw=>wpIn_skip (h a w ha hw)
theorem XC.ret (h:XT M N E Q .ret f g s):XC P M N E .ret Q f g s:=fun a w ha hw=>wpIn_ret (h a w ha hw)
theorem XC.exit {id:Nat}(h:XT M N E Q (.exit id) f g s):XC P M N E (.exit id) Q f g s:=fun a w ha hw=>wpIn_exit (h a w ha hw)
theorem XC.label {l:Nat}(h:XT M N E Q .normal f g s):XC P M N E (.label l) Q f g s:=fun a w ha hw=>wpIn_label (h a w ha hw)
theorem XC.seq {x y:Code}(h:XC P M N E x (Exit.then (y.wpIn (wf M.ro) 0 P Q) Q) f g s):XC P M N E (.seq x y) Q f g s:=fun a w ha hw=>wpIn_seq (h a w ha hw)
theorem XC.block {id:Nat}{c:Code}(h:XC P M N E c (Exit.inBlock id Q) f g s):XC P M N E (.block id c) Q f g s:=fun a w ha hw=>wpIn_block (h a w ha hw)
theorem XC.cond {c:Operand}{x y:Code}{t:Bool}(hc:ev f c=some (.bool t))(h:XC P M N E (if t then x else y) Q f g s):XC P M N E (.cond c x y) Q f g s :=
 fun a w ha hw=>wpIn_cond (ha.ev hc) (h a w ha hw)
theorem XC.condT {c:Operand}{x y:Code}(hc:ev f c=some (.bool true))(h:XC P M N E x Q f g s):XC P M N E (.cond c x y) Q f g s:=XC.cond hc h
theorem XC.condF {c:Operand}{x y:Code}(hc:ev f c=some (.bool false))(h:XC P M N E y Q f g s):XC P M N E (.cond c x y) Q f g s:=XC.cond hc h
theorem XC.ifB {c:Operand}{x y:Code}{t:Bool}(hc:ev f c=some (.bool t))(h1:t=true→XC P M N E x Q f g s)(h2:t=false→XC P M N E y Q f g s) :
  XC P M N E (.cond c x y) Q f g s:=by
 cases t
 ·exact XC.condF hc (h2 I)
 ·exact XC.condT hc (h1 I)
theorem XC.ifP {c:Operand}{x y:Code}{p:Prop}[Decidable p](hc:ev f c=some (.bool (decide p)))(h1:p→XC P M N E x Q f g s)(h2:¬ p→XC P M N E y Q f g s) :
  XC P M N E (.cond c x y) Q f g s :=
 XC.ifB hc (fun h=>h1 (zg1 h)) (fun h=>h2 (of_decide_eq_false h))
theorem XT.thenN {c:Code}(h:XC P M N E c Q f g s):XT M N E (Exit.then (c.wpIn (wf M.ro) 0 P Q) Q) .normal f g s:=h
theorem XT.thenX {K:Act→World→Prop}{id:Nat}(h:XT M N E Q (.exit id) f g s):XT M N E (Exit.then K Q) (.exit id) f g s:=h
theorem XT.thenR {K:Act→World→Prop}(h:XT M N E Q .ret f g s):XT M N E (Exit.then K Q) .ret f g s:=h
theorem XT.blockN {id:Nat}(h:XT M N E Q .normal f g s):XT M N E (Exit.inBlock id Q) .normal f g s:=h
theorem XT.blockX {id:Nat}(h:XT M N E Q .normal f g s):XT M N E (Exit.inBlock id Q) (.exit id) f g s:=fun a w ha hw=>by simpa [Exit.inBlock] using h a w ha hw
theorem XT.blockO {id j:Nat}(hj:j≠id)(h:XT M N E Q (.exit j) f g s):XT M N E (Exit.inBlock id Q) (.exit j) f g s:=fun a w ha hw=>by
 simpa [Exit.inBlock,hj] using h a w ha hw
def Fg {ι:Type}(ds:List Deferred)(N:Nat)(E:World)(F:ι→Fr)(G:ι→PH)(S:ι→Own)(J:ι→Prop)(a:Act)(w:World):Prop:=∃ i,Okd ds N (F i) a∧At E (G i) (S i) w∧J i
theorem XC.cut {ι:Type}{x y:Code}(F:ι→Fr)(G:ι→PH)(S:ι→Own)(J:ι→Prop)(h1:XC P M N E x (Exit.then (Fg M.ds N E F G S J) Q) f g s)
  (h2:∀ i,J i→XC P M N E y Q (F i) (G i) (S i)):XC P M N E (.seq x y) Q f g s:=by
 refine XC.seq fun a w ha hw=>Code.wpIn_mono (fun e a' w' h=>?_) (h1 a w ha hw);cases e <;> first | exact h | (obtain ⟨i,h3,h4,h5⟩:=h; exact h2 i h5 a' w' h3 h4)
theorem XT.mid {ι:Type}{F:ι→Fr}{G:ι→PH}{S:ι→Own}{J:ι→Prop}(i:ι)(hf:Sub (F i) f)(hg:G i=g)(hs:S i=s)(hJ:J i) :
  XT M N E (Exit.then (Fg M.ds N E F G S J) Q) .normal f g s:=fun _ _ ha hw=>⟨i,ha.sub hf,by rw[hg,hs]; exact hw,hJ⟩
def CO {ι:Type}(ds:List Deferred)(N:Nat)(E:World)(F:ι→Fr)(G:ι→PH)(S:ι→Own)(J:ι→Prop)(μ:ι→Nat)(i:ι)(a:Act)(w:World):Prop :=
 ∃ j,Okd ds N (F j) a∧At E (G j) (S j) w∧J j∧μ j<μ i
theorem XT.again {ι:Type}{F:ι→Fr}{G:ι→PH}{S:ι→Own}{J:ι→Prop}{μ:ι→Nat}{i:ι}(j:ι)(hf:Sub (F j) f)(hg:G j=g)(hs:S j=s)(hJ:J j)(hμ:μ j<μ i) :
  XT M N E (Exit.then (CO M.ds N E F G S J μ i) Q) .normal f g s:=fun _ _ ha hw=>⟨j,ha.sub hf,by rw[hg,hs]; exact hw,hJ,hμ⟩
theorem XC.loop {ι:Type}{c:Code}(F:ι→Fr)(G:ι→PH)(S:ι→Own)(J:ι→Prop)(μ:ι→Nat)(i:ι)(hf:Sub (F i) f)(hg:G i=g)(hs:S i=s)(h0:J i)
  (round:∀ i,J i→XC P M N E c (Exit.then (CO M.ds N E F G S J μ i) Q) (F i) (G i) (S i)):XC P M N E (.loop c) Q f g s:=by
 intro a w ha hw;have key:∀ n,∀ (i:ι) (a:Act) (w:World),μ i=n→Okd M.ds N (F i) a→At E (G i) (S i) w→J i→∀ (b:Frame) (k:List Item) (cs:List Frame),b.roundOf=(wf M.ro).round→(wf M.ro).fn b.fn→(wf M.ro).room (cs.length+1+0) →
   ∃ e a' w',Q e a' w'∧ArrivesIn (Machine.fenced P (wf M.ro)) P (lone (b.atR a (.code c :: .inLoop c::k)) cs w) b k cs e a' w':=by
  intro n;induction n using Nat.strongRecOn with
  | _ n ih =>
   intro i a w hn ha hI hJ b k cs hro hb hr;obtain ⟨e,a₁,w₁,hq,harr⟩:=round i hJ a w ha hI b (.inLoop c::k) cs hro hb hr;cases e with
   | normal =>
    obtain ⟨j,hok,hI₁,hJ₁,hlt⟩:=hq;obtain ⟨e₂,a₂,w₂,hq₂,harr₂⟩:=ih (μ j) (hn ▸ hlt) j a₁ w₁ rfl hok hI₁ hJ₁ b k cs hro hb hr;exact⟨e₂,a₂,w₂,hq₂,.of_steps (StepsIn.trans harr (.one (fenced_calm hb hr I) stepR_inLoop)) harr₂⟩
   | exit id=>exact⟨_,a₁,w₁,hq,.pass (x:=.inLoop c) rfl (fun _ _=>.inl (by simp)) harr⟩
   | goto l=>exact⟨_,a₁,w₁,hq,.pass (x:=.inLoop c) rfl (fun _ _=>.inl (by simp)) harr⟩
   | ret=>exact⟨_,a₁,w₁,hq,.pass (x:=.inLoop c) rfl (fun _ _=>.inl (by simp)) harr⟩
   | panic ch=>exact⟨_,a₁,w₁,hq,.pass (x:=.inLoop c) rfl (fun _ _=>.inl (by simp)) harr⟩
   | outgrown=>exact⟨_,a₁,w₁,hq,.pass (x:=.inLoop c) rfl (fun _ _=>.inl (by simp)) harr⟩
 intro b k cs hro hb hr;obtain ⟨e,a',w',hq,harr⟩:=key _ i a w rfl (ha.sub hf) (by rw[hg,hs]; exact hw) h0 b k cs hro hb hr;exact⟨e,a',w',hq,.of_steps (.one (fenced_calm hb hr I) stepR_loop) harr⟩
theorem XC.region {id:Nat}(h:XL P M N E ops Q ops.toList f g s):XC P M N E (.region id ops false) Q f g s:=fun a w ha hw=>wpIn_region_list (h a w ha hw)
theorem XL.nil (h:XT M N E Q .normal f g s):XL P M N E ops Q [] f g s:=fun a w ha hw=>h a w ha hw
theorem SO.xo {o:Oper}{K:Value→PH→Own→Prop}(hno:∀ c,o.op ≠ .defer c)(h:SO P N E o f g s K):XO P M N E o f g s K:=by
 intro a w ha hw Q next hn;refine⟨fun _ _=>trivial,?_⟩;rw[Oper.semAt_eq _ _ _ hno];have h1:=h (iX a) w ha.2 hw (fun _ _ _=>False) (fun a' w'=>a'.defers=[]∧∃ v g' s',a'=(iX a).put o.dst v∧K v g' s'∧At E g' s' w') (fun v g' s' w' hK hw'=>⟨oW _ _ _,v,g',s',rfl,hK,hw'⟩);unfold Oper.wp at h1;rw[np] at h1;have key:∀ v w',(((iX a).put o.dst v).defers=[]∧∃ v' g' s',(iX a).put o.dst v=(iX a).put o.dst v'∧K v' g' s'∧At E g' s' w')→next (a.put o.dst v) w':=by
  rintro v w' ⟨_,v',g',s',he,hK,hw'⟩;have:a.put o.dst v=a.put o.dst v':=by
   cases hd:o.dst with
   | none=>rfl
   | some d =>
    rw[hd] at he;have h2:=zd9 Act.tmps he;cases a;simp only[Act.put,iX] at h2 ⊢;rw[h2]
  rw[this];exact hn v' g' s' w' hK hw'
 generalize (execOp a.eval o).run P w=r at h1;cases r with
 | ok n w' =>
  cases n <;> simp only[Oper.upon] at h1 <;> first | exact h1.elim | skip
  ·exact key _ _ h1
  ·exact key _ _ h1
  ·rename_i f' args;exact⟨fun h=>(by cases h),(CallsIn.more (n:=0) ((callsIn_wide (n:=0)).2 (Calls.mono h1 (fun e w'' he=>by cases e with | returned v=>exact key _ _ he | panicked c=>exact he.elim | outgrown=>obtain ⟨_,_,h2⟩:=he; exact h2.elim))) (zf4 _))⟩
  ·exact absurd h1.1 (by rw[oW]; simp)
  ·exact⟨fun h=>(by cases h),fun c cs _=>let ⟨v,w'',r,st⟩:=h1 c cs; ⟨v,w'',key _ _ r,stepsIn_wide.2 st⟩⟩
 | halt x w'=>cases x <;> simp only[Oper.upon] at h1 <;> exact h1.elim
theorem XL.step {o:Oper}{l:List Oper}{K:Value→PH→Own→Prop}(hg:Gd N ops f o true)(ho:XO P M N E o f g s K)
  (h:∀ v g' s' a,K v g' s'→Okd M.ds N f a→∃ f',Okd M.ds N f' (a.put o.dst v)∧XL P M N E ops Q l f' g' s'):XL P M N E ops Q (o::l) f g s:=by
 intro a w ha hw;unfold wpListIn;have hwt:Region.wanted o (yielded ops a.tmps)=true:=hg (iX a) ha.2;rw[zf8 hwt];refine ho a w ha hw Q _ fun v g' s' w' hK hw'=>?_;obtain ⟨f',hf',hn⟩:=h v g' s' a hK ha;exact hn _ _ hf' hw'
theorem XL.x {d:Nat}{op:Op}{ty:TypeId}{pos:String}{af:Array Edge}{l:List Oper}{K:Value→PH→Own→Prop}(ho:XO P M N E ⟨some d,op,ty,pos,af,none⟩ f g s K)(hd:d<N)
  (h:∀ v g' s',K v g' s'→XL P M N E ops Q l ((d,v)::f) g' s'):XL P M N E ops Q (⟨some d,op,ty,pos,af,none⟩::l) f g s :=
 XL.step (Gd.none rfl) ho fun v g' s' _ hK ha=>⟨_,ha.put hd v,h v g' s' hK⟩
theorem XL.go {d:Nat}{op:Op}{ty:TypeId}{pos:String}{af:Array Edge}{gd:Option (Nat×Bool)}{l:List Oper}{K:Value→PH→Own→Prop}(hg:Gd N ops f ⟨some d,op,ty,pos,af,gd⟩ true)(ho:SO P N E ⟨some d,op,ty,pos,af,gd⟩ f g s K)(hd:d<N)
  (h:∀ v g' s',K v g' s'→XL P M N E ops Q l ((d,v)::f) g' s') (hno:∀ c,op ≠ .defer c:=by intro _ h; cases h):XL P M N E ops Q (⟨some d,op,ty,pos,af,gd⟩::l) f g s :=
 XL.step hg (ho.xo hno) fun v g' s' _ hK ha=>⟨_,ha.put hd v,h v g' s' hK⟩
theorem XL.o {d:Nat}{op:Op}{ty:TypeId}{pos:String}{af:Array Edge}{l:List Oper}{K:Value→PH→Own→Prop}(ho:SO P N E ⟨some d,op,ty,pos,af,none⟩ f g s K)(hd:d<N)
  (h:∀ v g' s',K v g' s'→XL P M N E ops Q l ((d,v)::f) g' s') (hno:∀ c,op ≠ .defer c:=by intro _ h; cases h):XL P M N E ops Q (⟨some d,op,ty,pos,af,none⟩::l) f g s :=
 XL.go (Gd.none rfl) ho hd h hno
theorem XL.on {op:Op}{ty:TypeId}{pos:String}{af:Array Edge}{l:List Oper}{K:Value→PH→Own→Prop}(ho:SO P N E ⟨none,op,ty,pos,af,none⟩ f g s K)
  (h:∀ v g' s',K v g' s'→XL P M N E ops Q l f g' s') (hno:∀ c,op ≠ .defer c:=by intro _ h; cases h):XL P M N E ops Q (⟨none,op,ty,pos,af,none⟩::l) f g s :=
 XL.step (Gd.none rfl) (ho.xo hno) fun v g' s' _ hK ha=>⟨f,ha,h v g' s' hK⟩
theorem XL.gq {d:Nat}{op:Op}{ty:TypeId}{pos:String}{af:Array Edge}{gd:Option (Nat×Bool)}{l:List Oper}{v:Value}(hg:Gd N ops f ⟨some d,op,ty,pos,af,gd⟩ true)(hq:SQ P N E ⟨some d,op,ty,pos,af,gd⟩ f g s v)(hd:d<N)
  (h:XL P M N E ops Q l ((d,v)::f) g s) (hno:∀ c,op ≠ .defer c:=by intro _ h; cases h):XL P M N E ops Q (⟨some d,op,ty,pos,af,gd⟩::l) f g s :=
 XL.go hg hq.so hd (fun v' g' s' ⟨e1,e2,e3⟩=>by subst e1; subst e2; subst e3; exact h) hno
theorem XL.q {d:Nat}{op:Op}{ty:TypeId}{pos:String}{af:Array Edge}{l:List Oper}{v:Value}(hq:SQ P N E ⟨some d,op,ty,pos,af,none⟩ f g s v)(hd:d<N)
  (h:XL P M N E ops Q l ((d,v)::f) g s) (hno:∀ c,op ≠ .defer c:=by intro _ h; cases h):XL P M N E ops Q (⟨some d,op,ty,pos,af,none⟩::l) f g s:=XL.gq (Gd.none rfl) hq hd h hno
theorem XL.gu {d:Nat}{op:Op}{ty:TypeId}{pos:String}{af:Array Edge}{gd:Option (Nat×Bool)}{l:List Oper}{v:Value}(hg:Gd N ops f ⟨some d,op,ty,pos,af,gd⟩ true)(hq:SU P N ⟨some d,op,ty,pos,af,gd⟩ f v)(hd:d<N)
  (h:XL P M N E ops Q l ((d,v)::f) g s) (hno:∀ c,op ≠ .defer c:=by intro _ h; cases h):XL P M N E ops Q (⟨some d,op,ty,pos,af,gd⟩::l) f g s:=XL.gq hg hq.sq hd h hno
theorem XL.u {d:Nat}{op:Op}{ty:TypeId}{pos:String}{af:Array Edge}{l:List Oper}{v:Value}(hq:SU P N ⟨some d,op,ty,pos,af,none⟩ f v)(hd:d<N)
  (h:XL P M N E ops Q l ((d,v)::f) g s) (hno:∀ c,op ≠ .defer c:=by intro _ h; cases h):XL P M N E ops Q (⟨some d,op,ty,pos,af,none⟩::l) f g s:=XL.q hq.sq hd h hno
theorem XL.off {d:Nat}{op:Op}{ty:TypeId}{pos:String}{af:Array Edge}{gd:Option (Nat×Bool)}{l:List Oper}(hg:Gd N ops f ⟨some d,op,ty,pos,af,gd⟩ false)(hd:d<N)
  (h:XL P M N E ops Q l ((d,undef)::f) g s):XL P M N E ops Q (⟨some d,op,ty,pos,af,gd⟩::l) f g s:=by
 intro a w ha hw;unfold wpListIn;have hwt:Region.wanted (⟨some d,op,ty,pos,af,gd⟩:Oper) (yielded ops a.tmps)=false:=hg (iX a) ha.2;rw[zf7 (by rw[hwt]; simp)];exact⟨fun _ _=>trivial,h _ _ (ha.put hd undef) hw⟩
theorem At.obj {w:World}{b i:Nat}{o o':Obj}(h:At E g s w)(hi:s[i]?=some (pt b o)):At E g (s.set i (pt b o')) (w.putObj b o'):=by
 have h2:=h.fresh _ (zf9 hi) b rfl;refine h.turn hi I ⟨I,Nat.le_refl _⟩ I (by simp[World.putObj]) (fun k _ hk=>World.putObj_heap_other (fun e=>hk (by simp[pt,e]))) ?_ (fun b' hb'=>?_)
 ·simp only[pt,Option.bind_some];exact World.putObj_heap_same h2.2
 ·simp only[pt,zg5] at hb';subst hb';exact⟨by simpa [World.putObj] using h2.2,.inl I⟩
theorem At.here {w:World}{b i:Nat}{o:Obj}(h:At E g s w)(hi:s[i]?=some (pt b o)):w.heap[b]?=some o:=by
 have:=h.own _ (zf9 hi);simpa [pt] using this
end
def tK (P:Program)(E:World)(l:Nat)(args:Array Value)(g:PH)(s:Own)(R:Value→PH→Own→Prop):Prop :=
 ∀ w,At E g s w→YieldAt Fence.wide 0 P l args w fun e w'=>∃ v g' s',e = .returned v∧At E g' s' w'∧R v g' s'
def D9 (P:Program)(E:World)(gf:FuncId)(lb:List Value){α:Type}(encs:α→List Value)(xs:List α)(g0:PH):Prop :=
 ∀ (l:Nat) (ι:Type) (G:ι→PH) (S:ι→Own) (J:List α→ι→Prop) (i0:ι),J [] i0→(∀ pre i,J pre i→Le g0 (G i)) →
  (∀ pre x suf i sx,xs=pre++x::suf→J pre i→tK P E l (encs x).toArray (G i) (S i++sx) (fun v g' s'=>v = .bool true∧∃ j,J (pre++[x]) j∧g'=G j∧s'=S j++sx)) →
  ∀ sx,Ctr P E gf (.func (.yield l) #[] #[]::lb).toArray (G i0) (S i0++sx) (fun _ g' s'=>∃ j,J xs j∧g'=G j∧s'=S j++sx)
section
variable {P:Program}{M:Md}{N:Nat}{E:World}{Q:Exit→Act→World→Prop}{f:Fr}{g:PH}{s:Own}{dst:Option Tmp}{ty:TypeId}{pos:String}{af:Array Edge}{gd:Option (Nat×Bool)}
theorem XO.yield {x:Operand}{l:List Operand}{tys:Array TypeId}{vs:List Value}{k:Nat}{R:Value→PH→Own→Prop}(hx:ev f x=some (.func (.yield k) #[] #[]))(hl:evs f l=some vs)(hY:tK P E k vs.toArray g s R) :
  XO P M N E ⟨dst,.call ⟨.value x,l.toArray,tys⟩,ty,pos,af,gd⟩ f g s R:=by
 intro a w ha hw Q next hn;refine⟨fun _ _=>trivial,?_⟩;rw[Oper.semAt_eq _ _ _ (fun _ h=>by cases h)];obtain ⟨fn,tmps,assign,body,hy,hR⟩:=hY w hw;have h1:a.eval x = .func (.yield k) #[] #[]:=ha.ev hx;have h2:l.map a.eval=vs:=by have:=ha.2.evs hl; rwa [np] at this
 have h3:(execOp a.eval ⟨dst,.call ⟨.value x,l.toArray,tys⟩,ty,pos,af,gd⟩).run P w = .ok (.round k fn tmps assign body) w:=by
  simp only[execOp,resolve,h1,List.map_toArray,h2];simp[Deferred.ofValue,Sem.run_bind,invoke,hy]
 rw[h3];refine⟨fun h=>(by cases h),RoundIn.mono hR fun e w' he=>?_⟩;obtain ⟨v,g',s',rfl,hat,hRR⟩:=he;exact hn v g' s' w' hRR hat
theorem Ctr.ofX {n:FuncId}{fn:Func}{c:Code}{args:List Value}{R:Value→PH→Own→Prop}
  (hf:P.funcs[n]?=some fn) (hb:fn.body=some c) (hN:fn.ntmps=N) (hle:args.length≤N)
  (h:XC P ⟨none,[]⟩ N E c (bodyPostM (wf none) 0 P fn (mO E R)) (ll 0 args) g s):Ctr P E n args.toArray g s R:=by
 intro w hw;refine (callsIn_wide (n:=0)).1 (callsIn_of_wp_marks (F:=wf none) hf hb trivial (h _ w ⟨I,⟨I,?_,fun t v hv=>?_⟩⟩ hw) I)
 ·simp[iX,hN]; omega
 ·obtain ⟨_,h2⟩:=jp args 0 t v hv;have hlt:t<args.length:=(zf3.1 (by simpa using h2)).1;simp only[Nat.sub_zero] at h2;obtain ⟨_,h3⟩:=zf3.1 h2;simp[iX,Array.getElem?_append,hlt,h3]
theorem XT.leave0 {fn:Func}{R:Value→PH→Own→Prop}{e:Exit}(he:e = .ret∨e = .normal)(h:ST N E (bodyPost P fn (mO E R)) e f g s):XT ⟨none,[]⟩ N E (bodyPostM (wf none) 0 P fn (mO E R)) e f g s:=by
 intro a w ha hw;have h1:=h (iX a) w ha.2 hw
 rcases he with rfl | rfl
 all_goals
  obtain ⟨_,v,h2,h3⟩:=h1;show LeavesInM _ _ _ _ _ _ a.defers _ _;rw[ha.1];exact⟨v,h2,h3⟩
theorem XT.leave1 {fn:Func}{R:Value→PH→Own→Prop}{e:Exit}{D:Nat}(he:e = .ret∨e = .normal)(h:ST N E (bodyPost P fn (mO E R)) e f g s) :
  XT ⟨none,[⟨.collected D,#[]⟩]⟩ N E (bodyPostM (wf none) 0 P fn (mO E R)) e f g (pt D (.deferred (some []))::s):=by
 intro a w ha hw;have hD:w.heap[D]?=some (.deferred (some [])):=At.here (i:=0) hw rfl;have hw2:=(At.obj (i:=0) (o':=.deferred none) hw rfl).sublist (zi8 _ _);have h1:=h (iX a) _ ha.2 hw2
 rcases he with rfl | rfl
 all_goals
  obtain ⟨_,v,h2,h3⟩:=h1;show LeavesInM _ _ _ _ _ _ a.defers _ _;rw[ha.1];exact⟨by simp,.inl ⟨D,_,I,run_takeDeferred hD,v,h2,h3⟩⟩
theorem qd {a:Act}{t:Nat}{u:Value}(h:Ok N f (iX a))(ht:t<N):Ok N ((t,u)::f) { tmps:=((#[t]:Array Tmp).zip [u].toArray).foldl (fun t (p,v)=>t.setIfInBounds p v) a.tmps,defers:=[] }:=by
 have:=h.put ht u;simpa [Act.put,iX] using this
theorem DA {a:Act}{t t':Nat}{u u':Value}(h:Ok N f (iX a))(ht:t<N)(ht':t'<N):Ok N ((t',u')::(t,u)::f) { tmps:=((#[t,t']:Array Tmp).zip [u,u'].toArray).foldl (fun t (p,v)=>t.setIfInBounds p v) a.tmps,defers:=[] }:=by
 have:=(h.put ht u).put ht' u';simpa [Act.put,iX] using this
def wz {α ι:Type}(E:World)(G:ι→PH)(S:ι→Own)(J:List α→ι→Prop)(pre:List α)(x:α)(sx:Own):Exit→Act→World→Prop:=fun e _ w'=>e = .normal∧∃ j,At E (G j) (S j++sx) w'∧J (pre++[x]) j
def sN {N:Nat}(E:World)(g:PH)(s:Own)(fb:Fr):Exit→Act→World→Prop:=fun e a' w'=>e = .normal∧Okd [] N fb a'∧At E g s w'
theorem XT.roundEnd {α ι:Type}{G:ι→PH}{S:ι→Own}{J:List α→ι→Prop}{pre:List α}{x:α}{sx:Own}(j:ι)(hg:G j=g)(hs:S j++sx=s)(hj:J (pre++[x]) j):XT M N E (wz E G S J pre x sx) .normal f g s:=fun _ _ _ hw=>⟨rfl,j,by rw[hg,hs]; exact hw,hj⟩
theorem XT.assignEnd {fb:Fr}{ro:Option Nat}(hf:Sub fb f):XT ⟨ro,[]⟩ N E (sN (N:=N) E g s fb) .normal f g s:=fun _ _ ha hw=>⟨rfl,ha.sub hf,hw⟩
theorem XC.rangeFunc {α ι:Type}{gop:Operand}{ps:Array Tmp}{assign body:Code}{gf:FuncId}{lb:List Value}{encs:α→List Value}{xs:List α}{g0:PH}(G:ι→PH)(S:ι→Own)(J:List α→ι→Prop)(i0:ι)(sx0:Own)(fa:α→Fr)(fb:List α→α→ι→Fr)
  (hro:M.ro=none) (hg:ev f gop=some (.func (.func gf) #[] lb.toArray)) (eg:∀ args w,(callFunc gf args).run P w = .ok (.enter gf args) w) (hps:∀ x,(encs x).length=ps.size)
  (hG:G i0=g) (hS:S i0++sx0=s) (hseq:D9 P E gf lb encs xs g0) (hmono:∀ pre i,J pre i→Le g0 (G i)) (h0:J [] i0)
  (hfa:∀ x a,Ok N f (iX a)→Ok N (fa x) { tmps:=(ps.zip (encs x).toArray).foldl (fun t (p,v)=>t.setIfInBounds p v) a.tmps,defers:=[] })
  (hassign:∀ l pre x i sx,J pre i→XC P ⟨some l,[]⟩ N E assign (sN (N:=N) E (G i) (S i++sx) (fb pre x i)) (fa x) (G i) (S i++sx))
  (hbody:∀ l pre x suf i sx,xs=pre++x::suf→J pre i→XC P ⟨some l,[]⟩ N E body (wz E G S J pre x sx) (fb pre x i) (G i) (S i++sx))
  (hdone:∀ D j,J xs j→XT ⟨none,⟨.collected D,#[]⟩::M.ds⟩ N E Q .normal f (G j) (pt D (.deferred (some []))::(S j++sx0))):XC P M N E (.rangeFunc gop ps assign body) Q f g s:=by
 subst hG hS;intro a w ha hw;rw[hro];refine wpIn_rangeFunc ?_;intro fn _;obtain ⟨rec,hrec⟩:∃ rec:LoopState→Option Code→Loop,rec=fun st pe=>{ state:=st,pending:=pe,fn,tmps:=a.tmps,params:=ps,assign,body,defers:=w.heap.size }:=⟨_,rfl⟩;obtain ⟨L,hL⟩:∃ L,L=w.heap.size+1:=⟨_,rfl⟩;obtain ⟨D,hD⟩:∃ D,D=w.heap.size:=⟨_,rfl⟩;obtain ⟨W1,hW1⟩:∃ W1,(w.alloc (.deferred (some []))).alloc (.loop (rec .ready none))=W1:=⟨_,rfl⟩;have hA:At E (G i0) (pt L (.loop (rec .ready none))::pt D (.deferred (some []))::(S i0++sx0)) W1:=by
  rw[← hW1,hL,hD];have h1:At E (G i0) (pt w.heap.size (.deferred (some []))::(S i0++sx0)) (w.alloc (.deferred (some []))):=hw.alloc (e:=pt w.heap.size (.deferred (some []))) rfl rfl;have h2:=h1.alloc (e:=pt (w.alloc (.deferred (some []))).heap.size (.loop (rec .ready none))) rfl rfl;rw[World.size_alloc] at h2;exact h2
 obtain ⟨S2,hS2⟩:∃ S2:ι→Own,S2=fun i=>S i++(pt L (.loop (rec .ready none))::pt D (.deferred (some []))::sx0):=⟨_,rfl⟩;have hA2:At E (G i0) (S2 i0++[]) W1:=by
  rw[hS2,zc5];dsimp only;refine hA.perm ?_;have h1:(pt L (.loop (rec .ready none))::pt D (.deferred (some []))::(S i0++sx0))=[pt L (.loop (rec .ready none)),pt D (.deferred (some []))]++(S i0++sx0):=rfl;have h2:S i0++(pt L (.loop (rec .ready none))::pt D (.deferred (some []))::sx0)=S i0++([pt L (.loop (rec .ready none)),pt D (.deferred (some []))]++sx0):=rfl;rw[h1,h2,← zg6,← zg6];exact List.perm_append_comm.append_right _
 refine⟨L,[{ target:=.collected D,args:=#[] }],W1,{ target:=.fn (.func gf) lb.toArray,args:=#[.func (.yield L) #[] #[]] },W1,gf,(.func (.yield L) #[] #[]::lb).toArray,W1,?_,?_,fun _ _=>trivial,?_,fun h=>(by cases h),?_⟩
 ·rw[← hW1,hrec,hL,hD]; exact run_enterLoop_outer _ _ _ _ _
 ·have h1:a.eval gop = .func (.func gf) #[] lb.toArray:=ha.ev hg;simp only[resolve,h1];simp[go_sem]
 ·have:(#[.func (.yield L) #[] #[]]++lb.toArray:Array Value)=(.func (.yield L) #[] #[]::lb).toArray:=by simp
  simp[invoke,go_sem,eg]
 ·refine (callsIn_wide (n:=0 - 1)).2 ((hseq L ι G S2 J i0 h0 hmono ?_ [] W1 hA2).mono ?_)
  ·intro pre x suf i sx hxs hJ W hW;rw[hS2] at hW;simp only[zg6,List.cons_append] at hW;have hlen:(S i).length=(S i).length:=rfl;have gl:∀ (i:ι) (u u':Ent) (r:Own),(S i++u::u'::r)[(S i).length]?=some u:=fun i u u' r=>by simp
   have hl:=hW.here (gl i _ _ _);have hy:=run_yield (P:=P) (args:=(encs x).toArray) hl (by rw[hrec]; simpa using hps x);rw[hrec] at hy;refine⟨fn,_,assign,body,hy,roundIn_of_wpIn trivial ?_⟩;refine Code.wpIn_mono (fun e a1 w1 h1=>?_) (hassign L pre x i _ hJ { tmps:=(ps.zip (encs x).toArray).foldl (fun t (p,v)=>t.setIfInBounds p v) a.tmps,defers:=[] } W ⟨I,hfa x a ha.2⟩ hW);obtain ⟨rfl,ha1,hw1⟩:=h1;have hl1:=hw1.here (gl i _ _ _);refine⟨_,run_beginRound hl1 (by rw[hrec]),?_⟩;have hset:∀ (i:ι) (u u' v:Ent) (r:Own),(S i++u::u'::r).set (S i).length v=S i++v::u'::r:=fun i u u' v r=>by simp
   have hw2:=hw1.obj (o':=.loop { rec .ready none with state:=.busy }) (gl i _ _ _);rw[hset] at hw2;refine Code.wpIn_mono (fun e a3 w3 h3=>?_) (hbody L pre x suf i _ hxs hJ a1 _ ha1 hw2);obtain ⟨rfl,j,hw3,hJ3⟩:=h3;have hl3:=hw3.here (gl j _ _ _);have he:=run_endRound (P:=P) none hl3;have hw4:=hw3.obj (o':=.loop { (rec .ready none) with state:=.ready,pending:=none }) (gl j _ _ _);rw[hset] at hw4;refine⟨_,_,he,.bool true,G j,S2 j++sx,I,?_,I,j,hJ3,I,I⟩;rw[hS2];simp only[zg6,List.cons_append];rw[hrec] at hw4 ⊢;exact hw4
  ·rintro e W2 ⟨v,g',s',rfl,hat,j,hJ,rfl,rfl⟩;rw[hS2,zc5] at hat;have gl:∀ (i:ι) (u u':Ent) (r:Own),(S i++u::u'::r)[(S i).length]?=some u:=fun i u u' r=>by simp
   have hl:=hat.here (gl j _ _ _);have he:=run_endLoop (P:=P) hl (by rw[hrec]; simp);have h2:=hat.obj (o':=.loop { (rec .ready none) with state:=.exhausted }) (gl j _ _ _);have hset:∀ (i:ι) (u u' v:Ent) (r:Own),(S i++u::u'::r).set (S i).length v=S i++v::u'::r:=fun i u u' v r=>by simp
   rw[hset] at h2;have hpn:(rec .ready none).pending=none:=by rw[hrec]
   refine⟨none,_,he.trans (zd9 (fun p=>Result.ok p _) hpn),?_⟩;refine hdone D j hJ _ _ ⟨by rw[← ha.1]; rfl,ha.2⟩ ?_;have h3:=(h2.sublist (s':=S j++pt D (.deferred (some []))::sx0) (by exact (zc2 _).append (zi8 _ _))).perm List.perm_middle;exact h3
end
end Go.Sy
namespace Go.Sy
open Go
section
variable {P:Program}{M:Md}{N:Nat}{E:World}{Q:Exit→Act→World→Prop}{f:Fr}{g:PH}{s:Own}{dst:Option Tmp}{ty:TypeId}{pos:String}{af:Array Edge}{gd:Option (Nat×Bool)}
end
end Go.Sy
namespace Go.Sy
open Go
section
variable {P:Program}{M:Md}{N:Nat}{E:World}{Q:Exit→Act→World→Prop}{f:Fr}{g:PH}{s:Own}{dst:Option Tmp}{ty:TypeId}{pos:String}{af:Array Edge}{gd:Option (Nat×Bool)}
def l5 {κ:Type}{N:Nat}(E:World)(g:PH)(s:Own)(fb:κ→Fr)(X:κ→Own):Exit→Act→World→Prop:=fun e a' w'=>e = .normal∧∃ q,Okd [] N (fb q) a'∧At E g (X q++s) w'
theorem XT.assignEndA {κ:Type}{fb:κ→Fr}{X:κ→Own}{ro:Option Nat}{s0:Own}(q:κ)(hf:Sub (fb q) f)(hs:X q++s0=s):XT ⟨ro,[]⟩ N E (l5 (N:=N) E g s0 fb X) .normal f g s:=fun _ _ ha hw=>⟨rfl,q,ha.sub hf,by rw[hs]; exact hw⟩
end
end Go.Sy
namespace Go.Sy
open Go
def ext (ds:List Deferred)(b:Act):Act:={ b with defers:=b.defers++ds }
theorem lk (ds:List Deferred)(b:Act)(d:Option Tmp)(v:Value):ext ds (b.put d v)=(ext ds b).put d v:=by cases d <;> rfl
theorem Cb (ds:List Deferred)(b:Act):(ext ds b).eval=b.eval:=by funext x; cases x <;> rfl
def mR (ops:Array Oper):Bool:=ops.toList.all fun o=>match o.op with | .defer _=>false | _=>true
theorem xk {ops:Array Oper}(h:mR ops=true){i:Nat}{o:Oper}(hi:ops[i]?=some o):∀ c,o.op ≠ .defer c:=by
 intro c hc;unfold mR at h;rw[zj7] at h;have hm:o∈ops.toList:=by
  rw[Array.getElem?_eq_some_iff] at hi;obtain ⟨hlt,rfl⟩:=hi;simp
 have:=h o hm;rw[hc] at this;exact absurd this (by simp)
section
variable {P:Program}{ops:Array Oper}{ro:Option Nat}{ds:List Deferred}{Q Q0:Exit→Act→World→Prop}
theorem wD {o:Oper}{b:Act}{w:World}{K0 K:Act→World→Prop}(hno:∀ c,o.op ≠ .defer c)(hQ0:∀ e b w,Q0 e b w→e = .normal)(hK:∀ b' w',K0 b' w'→K (ext ds b') w')
  (h1:o.wp P b w K0 Q0):o.wpIn (wf ro) 0 P (ext ds b) w K Q:=by
 refine⟨fun _ _=>trivial,?_⟩;rw[Oper.semAt_eq _ _ _ hno,Cb];unfold Oper.wp at h1;generalize (execOp b.eval o).run P w=r at h1;cases r with
 | ok n w' =>
  cases n <;> simp only[Oper.upon] at h1 <;> first | exact h1.elim | skip
  ·have:=hK _ _ h1;rw[lk] at this;exact this
  ·have:=hK _ _ h1;rw[lk] at this;exact this
  ·refine⟨fun h=>(by cases h),(CallsIn.more (n:=0) ((callsIn_wide (n:=0)).2 (Calls.mono h1 (fun e w'' he=>?_))) (zf4 _))⟩;cases e with
   | returned v =>
    have:=hK _ _ he;rw[lk] at this;exact this
   | panicked c=>exact absurd (hQ0 _ _ _ he) (by simp)
   | outgrown =>
    obtain ⟨_,_,h2⟩:=he;exact absurd (hQ0 _ _ _ h2) (by simp)
  ·have:=hK _ _ h1;rw[lk] at this;exact this
  ·exact⟨fun h=>(by cases h),fun c cs _=>let ⟨v,w'',r,st⟩:=h1 c cs; ⟨v,w'',(by have:=hK _ _ r; rw[lk] at this; exact this),stepsIn_wide.2 st⟩⟩
 | halt x w' =>
  cases x <;> simp only[Oper.upon] at h1 <;> first | exact h1.elim | exact absurd (hQ0 _ _ _ h1) (by simp)
theorem oA {i:Nat}{b:Act}{w:World}{K0 K:Act→World→Prop}(hnd:mR ops=true)(hQ0:∀ e b w,Q0 e b w→e = .normal)(hK:∀ b' w',K0 b' w'→K (ext ds b') w')
  (h1:wpOp P ops Q0 i K0 b w):wpOpIn (wf ro) 0 P ops Q i K (ext ds b) w:=by
 unfold wpOp at h1;unfold wpOpIn;cases hi:ops[i]? with
 | none =>
  rw[hi] at h1;exact hK _ _ h1
 | some o =>
  rw[hi] at h1;dsimp only at h1 ⊢;have ht:(ext ds b).tmps=b.tmps:=rfl;rw[ht];split at h1
  ·rename_i hw;rw[zf8 hw]
   rcases h1 with h1 | ⟨_,a',w',h2⟩
   ·exact wD (xk hnd hi) hQ0 hK h1
   ·exact absurd (hQ0 _ _ _ h2) (by simp)
  ·rename_i hw;rw[zf7 hw];refine⟨fun _ _=>trivial,?_⟩;have:=hK _ _ h1;rw[lk] at this;exact this
theorem iU (hnd:mR ops=true)(hQ0:∀ e b w,Q0 e b w→e = .normal∧Q .normal (ext ds b) w):∀ (fuel:Nat) (L:Array Bool) (b:Act) (w:World),wpAny P .any ops Q0 fuel L b w→wpAnyIn (wf ro) 0 P .any ops Q fuel L (ext ds b) w
 | 0,_,_,_,h=>⟨h.1,(hQ0 _ _ _ h.2).2⟩
 | fuel+1,L,b,w,h=>⟨fun hr=>(hQ0 _ _ _ (h.1 hr)).2,fun i hi=>oA hnd (fun e b w h=>(hQ0 e b w h).1) (fun b' w' hb=>iU hnd hQ0 fuel _ b' w' hb) (h.2 i hi)⟩
end
section
variable {P:Program}{M:Md}{N:Nat}{E:World}{Q:Exit→Act→World→Prop}{f:Fr}{g:PH}{s:Own}{ops:Array Oper}
def Qx (ds:List Deferred)(Q:Exit→Act→World→Prop):Exit→Act→World→Prop:=fun e b w=>e = .normal∧Q .normal (ext ds b) w
instance (ds:List Deferred):Quiet (Qx ds Q):=⟨fun _ _ _ _ _ h=>absurd h.1 (by simp)⟩
theorem ST.ofXT (h:XT M N E Q .normal f g s):ST N E (Qx M.ds Q) .normal f g s:=fun a w ha hw=>⟨rfl,h _ _ ⟨by simp[ext,ha.defers],by
 have:iX (ext M.ds a)=a:=by
  obtain ⟨t,d⟩:=a;have hd:d=[]:=ha.defers;subst hd;rfl
 rw[this]; exact ha⟩ hw⟩
end
end Go.Sy
namespace Go.Proofs.YtbbppeihhkhkcaaGreatDoor
open _root_.Go.Proofs.Tryz _root_.Go.Proofs.YtbbppeihhkhkcaaGreatDoor.Tryz
open Go Go.Sy Go.Pl Go.Proofs
set_option maxRecDepth 100000
set_option maxHeartbeats 1000000
theorem AB {α β:Type}{l:List α}{k:Nat}(h:k<l.length)(p:α→Bool)(f:α→β):((l.take (k+1)).filter p).map f=((l.take k).filter p).map f++(if p l[k] then [f l[k]] else []):=by
 rw[tS h,zh4,zg3];congr 1;simp only[zi5,List.filter_nil];split <;> rfl
theorem DJ {α β:Type}(l:List α)(k:Nat)(p:α→Bool)(f:α→β):(((l.take k).filter p).map f).length≤k:=by
 rw[ze4];refine zk5 (zc4 _ _) ?_;rw[ze2]; omega
theorem Tryz.buildE56 (w:World):(Instr.build 56 #[]).run Tryz.prog w = .ok (.agg #[vi 0,vi 0,.slice none 0 0]) w:=by
 simp[Instr.build,Instr.fill];rfl
def A9 (l:List Cl)(d:Int):List Int:=((ai l).filter fun c=>decide (c.dim=d)).map Cl.id
theorem SU.maxI {P:Program}{N:Nat}{f:Fr}{dst:Option Tmp}{ty:TypeId}{pos:String}{af:Array Edge}{gd:Option (Nat×Bool)}{x y:Operand}{T U:TypeId}{m n:Int}(hx:ev f x=some (vi m))(hy:ev f y=some (vi n)) :
  SU P N ⟨dst,.call ⟨.builtin .max,#[x,y],#[T,U]⟩,ty,pos,af,gd⟩ f (vi (max m n)):=fun a w ha=>by
 have h:=run_max_int2 (P:=P) (w:=w) #[T,U] ty .i64 .i64 m n;have h2:(if m<n then n else m)=max m n:=by split <;> omega
 rw[h2] at h;simp[execOp,resolve,invoke,builtin,ha.ev hx,ha.ev hy,h]
theorem nI (E:World)(g:PH)(s:Own)(v:Value)(l:List Cl)(d:Int)(hv:aj g v l)(hf:aY l) :
  Ctr Tryz.prog E 45 #[.agg #[v],vi d] g s (fun r g' s'=>s=s'∧Le g g'∧df g' r (A9 l d)):=by
 have hft:=dz hf;have hfl:=hft.1;obtain ⟨p,c,rfl⟩:=hv.form;refine zb1 (args:=[.agg #[.slice p l.length c],vi d]) func45 I ntmps45 (bE I) ?_;refine rZ (bW (bO I) fun b2=>?_);refine aT I (rZ (aT I (rZ (lK (qV 0 aA an I I I) (lW (SO.call call96 I (eF E g _ _ l hv hf)) ?_)))));rintro v9 g1 _ ⟨rfl,hle,hc⟩;obtain ⟨rs,hrs,hall⟩:=hc;obtain ⟨q,dd,rfl⟩:=hrs.form;refine aT I (sQ (rZ (aT I (bK ?_))));have hrl:=hall.length;unfold A9;generalize ai l=A at *;refine zb5 3 1 ?_;refine oP (ι:=Value×Nat) (fun i=>[(1,vi d),(5,i.1),(6,.slice q rs.length dd),(7,vi i.2)]) (fun _=>g1) (fun i=>rowA encInt 3 i.1 (((A.take i.2).filter fun c=>decide (c.dim=d)).map Cl.id)::pt b2 (.cells #[.slice p l.length c] 29 (0,0))::s)
  (fun i=>i.2≤A.length) (fun i=>A.length - i.2) (.slice none 0 0,0) sB rfl rfl (zf4 _) ?_
 rintro ⟨ov,k⟩ hk;dsimp only at hk ⊢;refine sQ (sW I (lM I (lU (eN aC I) (yL I (tZ ?_)))));refine iP I (fun hlt=>?_) (fun hlt=>?_)
 ·have hkl:k<A.length:=oM;have hkr:k<rs.length:=oM;have hb1:=hrs.based oM;have hcr:=hall.get (List.getElem?_eq_getElem hkl) (List.getElem?_eq_getElem hkr);have hgr:rs[((k:Nat):Int).toNat]?=some rs[k]:=List.getElem?_eq_getElem hkr;have hsucc:=AB hkl (fun c=>decide (c.dim=d)) Cl.id;have hlek:=DJ A k (fun c=>decide (c.dim=d)) Cl.id;have hxl:=hft.2 _ (gM hkl);generalize A[k]=x at *;generalize rs[k]=r at *;refine kP (tN (sQ (bK (sW I (lM I (lU (iA aC ao I I hb1 oM sL) (lU (fC ay I zT3 I hb1) (lK (aZ (e:=encCell) (o:=1) (u:=vi x.dim) iT3 I hrs.rd hgr (by rw[← hcr.2.1]; rfl)) ?_))))))));refine lM I (yE I (tZ ?_));refine iP I (fun hd=>?_) (fun hd=>?_)
  ·refine rG (lM I (lM I (lM I (lU (iA aC ao I I hb1 oM sL) (lU (fC ay I zT3 I hb1) (lK (aZ (e:=encCell) (o:=0) (u:=vi x.id) iT3 I hrs.rd hgr (by rw[← hcr.1]; rfl)) ?_))))));refine lW (bS sty52 I I I (ag sB) dC) ?_;rintro _ _ _ ⟨b29,rfl,rfl,rfl⟩;refine lW (aP (e:=encInt) 0 x.id sty52 I I I I I oM oM) ?_;rintro ov' _ _ ⟨rfl,rfl⟩;refine lA I (nL (bN (tN (rG (lM I (yD I (lA I (nL ?_))))))));refine ST.to (fun w hw=>?_) (g':=g1) (s':=rowA encInt 3 ov' (((A.take (k+1)).filter fun c=>decide (c.dim=d)).map Cl.id)::pt b2 (.cells #[.slice p l.length c] 29 (0,0))::s) ?_
   ·rw[hsucc,zf8 (zf6 hd)]; exact hw
   exact ST.again (ov',k+1) sB I I (by dsimp only; omega) lN
  ·refine kP (bN (tN (rG (lM I (yD I (lA I (nL ?_)))))));refine ST.to (fun w hw=>?_) (g':=g1) (s':=rowA encInt 3 ov (((A.take (k+1)).filter fun c=>decide (c.dim=d)).map Cl.id)::pt b2 (.cells #[.slice p l.length c] 29 (0,0))::s) ?_
   ·rw[hsucc,zf7 (by rw[zf5 hd]; simp),zc5]; exact hw
   exact ST.again (ov,k+1) sB I I (by dsimp only; omega) lN
 ·have hkk:A.take k=A:=tL oM;rw[hkk];refine xI (tX (tX (bX (tN (sW I (aT I (rE (fT fun g2 hle2 hs2=>?_))))))));refine dR (s':=s) uR ?_;exact za7 (.inl I) results45 I ⟨I,hle.trans hle2,hs2⟩
theorem gr (E:World)(g:PH)(s:Own)(v:Value)(l:List Cl)(id:Int)(hv:aj g v l)(hf:aY l) :
  Ctr Tryz.prog E 48 #[.agg #[v],vi id] g s (fun r g' s'=>s=s'∧Le g g'∧∃ x,r = .tuple #[rcv x,vb (findC l id).isSome]∧ak g' ((findC l id).getD bi) x):=by
 have hft:=dz hf;have hfl:=hft.1;obtain ⟨p,c,rfl⟩:=hv.form;have hsrt:=fN l;have hnd:=dZ l;refine zb1 (args:=[.agg #[.slice p l.length c],vi id]) func48 I ntmps48 (bE I) ?_;refine rZ (bW (bO I) fun b2=>?_);refine bW (aL zl2) fun b4=>?_;refine aT I (rZ (lK (qV 1 aA an I I I) (lW (SO.call call96 I (eF E g _ _ l hv hf)) ?_)));rintro v9 g1 _ ⟨rfl,hle,hc⟩;obtain ⟨rs,hrs,hall⟩:=hc;have hcs:aj g1 _ (ai l):=⟨rs,hrs,hall⟩;obtain ⟨q,dd,rfl⟩:=hrs.form;refine aT I (sW I (lM I (lW (SO.call call101 I (iV E g1 _ _ (ai l) id hcs hfl hsrt)) ?_)));rintro _ _ _ ⟨rfl,rfl,rfl⟩;refine aT I (sQ (sW I (yL I (tZ ?_))));have hrl:=hall.length;unfold findC;generalize ai l=A at *;have haf:=tD hsrt id;refine iP I (fun hneg=>?_) (fun hneg=>?_)
 ·rcases haf with ⟨h1,h2⟩ | ⟨x,k,h1,h2,h3⟩
  ·have hno:(A.find? fun c=>decide (c.id=id))=none:=h1;refine rZ (lU (za2 I (buildE56)) (oZ (sK 0 ao I I I I I sB) ?_));refine aT I (rE (tR ?_));exact ST.retCD1 0 s (.inl I) results48 I I ct ao I I uR ⟨I,hle,xZ,by rw[hno]; rfl,by rw[hno]; exact eU g1⟩
  ·rw[h2] at hneg; omega
 ·rcases haf with ⟨h1,h2⟩ | ⟨x,k,h1,h2,h3⟩
  ·rw[h2] at hneg; omega
  ·have hyes:(A.find? fun c=>decide (c.id=id))=some x:=h1;rw[h2];have hkl:k<A.length:=(zf3.1 h3).1;have hkr:k<rs.length:=oM;have hb1:=hrs.based oM;have hcr:=hall.get h3 (List.getElem?_eq_getElem hkr);have hgr:rs[((k:Nat):Int).toNat]?=some rs[k]:=List.getElem?_eq_getElem hkr;generalize rs[k]=r at *;obtain ⟨ri,rd,⟨rp,rn,rc⟩⟩:=r;refine kP (tN (sW I (lM I (lU (iA aC ao I I hb1 oM sL) (lK (SQ.elemA ct ao I hrs.rd hgr) (oZ (sK 0 ao I I I I I sB) ?_))))));refine aT I (rE ?_);exact ST.retCD1 0 s (.inl I) results48 I I ct ao I I uR ⟨I,hle,⟨ri,rd,⟨rp,rn,rc⟩⟩,by rw[hyes]; rfl,by rw[hyes]; exact hcr⟩
end Go.Proofs.YtbbppeihhkhkcaaGreatDoor
namespace Go.Sy
open Go
section
variable {α:Type}{k:Nat}{P:Program}{N:Nat}{E:World}{f:Fr}{g:PH}{s:Own}{dst:Option Tmp}{ty:TypeId}{pos:String}{af:Array Edge}{gd:Option (Nat×Bool)}
theorem SO.makeC {x y:Operand}{t T:TypeId}{bytes n:Nat}{z:Value}(e:Enc α k)(hT:STy P t T k bytes z)(hx:ev f x=some (vi 0))(hy:ev f y=some (vi n))(hb:n * bytes≤140737488355328)(hlen:n≤4611686018427387904) :
  SO P N E ⟨dst,.makeSlice t x y,ty,pos,af,gd⟩ f g s fun v' g' s'=>g=g'∧s'=rowA e T v' []::s :=
 SO.of_run fun ac w ha hw=>by
  obtain ⟨ti,ht1,ht2,ht3,ht4⟩:=hT.info;have hbi:(ti.bytes:Int) * ((n:Nat):Int)≤281474976710656:=by
   rw[ht4,← Int.natCast_mul,Nat.mul_comm]; omega
  have h5:=run_make (P:=P) w t T ti z hT.und ht1 ht2 .i64 .i64 0 n oM oM hbi oM;simp only[Int.toNat_natCast] at h5;rw[ht3] at h5;have hrun:(execOp ac.eval ⟨dst,.makeSlice t x y,ty,pos,af,gd⟩).run P w = .ok (.value (.slice (some ⟨w.heap.size,0,none⟩) 0 n)) (w.alloc (.cells (madeCells z.cells (n * k)) T)):=by
   simp[execOp,ha.ev hx,ha.ev hy,h5]
  have hnew:(w.alloc (.cells (madeCells z.cells (n * k)) T)).heap[w.heap.size]?=some (.cells (madeCells z.cells (n * k)) T (0,0)):=heap_alloc_new w _;refine⟨_,_,g,_,hrun,?_,I,I⟩;cases n with
  | zero =>
   have h6:=hw.emptyRow T k (some ⟨w.heap.size,0,none⟩);have h7:=h6.alloc (e:=pt w.heap.size (.cells (madeCells z.cells (0 * k)) T (0,0))) (o:=.cells (madeCells z.cells (0 * k)) T (0,0)) rfl rfl;exact h7.sublist (zi8 _ _)
  | succ n =>
   have hsz:(madeCells z.cells ((n+1) * k)).size=(n+1) * k:=by simp[madeCells]
   exact hw.alloc (e:=rowA e T (.slice (some ⟨w.heap.size,0,none⟩) 0 (n+1)) []) (o:=.cells (madeCells z.cells ((n+1) * k)) T (0,0)) I ⟨by simp,.inr ⟨_,n,_,I,I,by simp,by unfold maxLen; omega,hsz,by simp⟩⟩
def wB:Enc Int 1:=⟨fun n=>[.int .u8 n],fun _=>rfl,fun _ u hu=>by simp at hu; subst hu; rfl,by decide⟩
def DU:Enc Int 1:=⟨fun n=>[.int .u64 n],fun _=>rfl,fun _ u hu=>by simp at hu; subst hu; rfl,by decide⟩
def byt (l:List Int):List UInt8:=l.map fun n=>UInt8.ofNat n.toNat
def txt (l:List UInt8):Value:=.string ⟨l.toArray⟩
theorem Az (l:List Int):∀ s:ByteArray,l.foldl (fun r n=>r.push (UInt8.ofNat n.toNat)) s=⟨s.data++(byt l).toArray⟩:=by
 induction l with
 | nil=>intro s; simp[byt]
 | cons a t ih =>
  intro s;simp only[zi6];rw[ih];simp[byt,ByteArray.push]
theorem xD (l:List Int):l.flatMap wB.enc=l.map (Value.int .u8):=by
 induction l with
 | nil=>rfl
 | cons a t ih=>simp only[zh3,zg2,ih]; rfl
theorem SQ.bytesText {x:Operand}{S D e:TypeId}{p:Option Addr}{c:Nat}{l:List Int}(hs:P.underlying S=some (.slice e))(he:P.underlying e=some (.int .u8))(hd:P.underlying D=some .string)
  (hx:ev f x=some (.slice p l.length c)) (hr:Rd g s (.slice p l.length c) (l.flatMap wB.enc)) :
  SQ P N E ⟨dst,.convert S D x,ty,pos,af,gd⟩ f g s (txt (byt l)):=fun a w ha hw=>by
 have h1:(convert S D (.slice p l.length c)).run P w = .ok (txt (byt l)) w:=by
  rw[run_convert_bytes_string w S D e p l.length c hs he hd];rw[xD] at hr;cases l with
  | nil =>
   cases p with
   | none=>simp[Conv.bytesToString,txt,byt]; rfl
   | some a =>
    have h2:=run_bytesToString (P:=P) w a 0 c [] (by simp[loadCells]; exact ci (P:=P) (w:=w) (b:=a.block) (o:=a.off) 0 0 [] #[] I (fun j y hy=>by simp at hy));rw[zc3,h2];rfl
  | cons n t =>
   obtain ⟨q,n',c',he1,hsp,hc0⟩:=hr E w hw 0 (.int .u8 n) rfl;injection he1 with he1 he2 he3
   subst he1;obtain ⟨qb,qo,qs⟩:=q;dsimp only at hsp;subst hsp;have h2:=run_bytesToString (P:=P) w ⟨qb,qo,none⟩ (n::t).length c (n::t) (by
    have:=ci (P:=P) (w:=w) (b:=qb) (o:=qo) (n::t).length 0 ((n::t).map (Value.int .u8)) #[] (by simp) (fun j y hy=>by
     obtain ⟨q',n2,c2,he4,_,hc1⟩:=hr E w hw j y hy;injection he4 with he4
     injection he4 with he4
     subst he4;simpa using hc1)
    simpa [loadCells] using this)
   rw[h2,Az];simp[txt]
 simp[execOp,ha.ev hx,h1]
theorem vu (l:List UInt8):(⟨l.toArray⟩:ByteArray).toList=l:=by rw[ByteArray.toList_eq]
theorem SU.neqT {x y:Operand}{T U:TypeId}{l m:List UInt8}(hx:ev f x=some (txt l))(hy:ev f y=some (txt m)) :
  SU P N ⟨dst,.binOp .neq T x y U,ty,pos,af,gd⟩ f (.bool (decide (l≠m))):=fun ac w ha=>by
 have hg:(eqGuard .neq T x y (txt l) (txt m)).run P w = .ok () w:=by simp[eqGuard,txt]
 have hb:(binOp .neq T (txt l) (txt m)).run P w = .ok (.bool (decide (l≠m))) w:=by
  unfold txt;rw[binOp_string_neq,vu,vu];by_cases h:l=m <;> simp[h,bne] <;> rfl
 simp only[execOp,ha.ev hx,ha.ev hy,Sem.run_bind,hg,zc9,hb];rfl
end
end Go.Sy
namespace Go.Sy
open Go
section
variable {P:Program}{N:Nat}{f:Fr}{dst:Option Tmp}{ty:TypeId}{pos:String}{af:Array Edge}{gd:Option (Nat×Bool)}
end
end Go.Sy
namespace Go.Proofs.YtbbppeihhkhkcaaGreatDoor
open _root_.Go.Proofs.Tryz _root_.Go.Proofs.YtbbppeihhkhkcaaGreatDoor.Tryz
open Go Go.Sy Go.Pl Go.Proofs Go.Shelf
set_option maxRecDepth 100000
set_option maxHeartbeats 1000000
theorem E4 {f:Fr}{t:Nat}{a b:Int}(h:aN f t=some (vi a))(e:a=b):aN f t=some (vi b):=e ▸ h
theorem Tryz.sty222:STy Tryz.prog 222 145 1 8 (.int .u64 0):=⟨underlying222,⟨t145,by kernel_rfl,by kernel_rfl,by kernel_rfl,by kernel_rfl⟩,rfl,by decide⟩
theorem Tryz.sty208:STy Tryz.prog 208 5 1 1 (.int .u8 0):=⟨underlying208,⟨t5,by kernel_rfl,by kernel_rfl,by kernel_rfl,by kernel_rfl⟩,rfl,by decide⟩
def fQ (l:List Int):List Int:=(l.reverse.dropWhile (· == 0)).reverse
theorem wK {m:List Int}(h:0<m.length)(h0:m.getD (m.length - 1) 1=0):fQ (m.take (m.length - 1))=fQ m:=by
 rcases List.eq_nil_or_concat m with rfl | ⟨a,x,rfl⟩
 ·simp at h
 ·have hx:x=0:=by simpa [zg8] using h0
  subst hx;simp[fQ]
theorem wJ {m:List Int}(h:(decide ((m.length:Int)>0)&&decide (m.getD (m.length - 1) 1=0))=false):fQ m=m:=by
 rcases List.eq_nil_or_concat m with rfl | ⟨a,x,rfl⟩
 ·rfl
 ·have hx:x≠0:=by simpa [zg8] using h
  simp[fQ,hx]
theorem Ae (E:World)(g:PH)(s:Own)(v:Value)(l:List Int)(hv:SlA DU g v l)(hl:l.length<1099511627776) :
  Ctr Tryz.prog E 232 #[v] g s (fun r g' s'=>g=g'∧s=s'∧SlA DU g r (fQ l)):=by
 refine zb1 (args:=[v]) func232 I ntmps232 (bE I) ?_;refine rZ (aT I (sQ (bK ?_)));refine oP (ι:=Value×List Int) (fun i=>[(0,i.1)]) (fun _=>g) (fun _=>s) (fun i=>SlA DU g i.1 i.2∧fQ i.2=fQ l∧i.2.length≤l.length) (fun i=>i.2.length) (v,l) ⟨I,trivial⟩ I I ⟨hv,I,Nat.le_refl _⟩ ?_;rintro ⟨v1,m⟩ ⟨hm,htr,hle⟩;dsimp only at hm htr hle ⊢;obtain ⟨p,c,rfl⟩:=za3 hm;have hcap:=(SlA.cap hm).2;have f1:(m.length:Int)>0→(decide ((m.length:Int)>0)&&decide (m.getD (m.length - 1) 1=0))=decide (m.getD (m.length - 1) 1=0):=fun h=>by rw[zf6 h,Bool.true_and]
 have f2:¬ (m.length:Int)>0→(decide ((m.length:Int)>0)&&decide (m.getD (m.length - 1) 1=0))=false:=fun h=>by simp only[h,decide_false,Bool.false_and]
 have hgl:(m.length:Int)>0→m[((m.length:Int) - 1).toNat]?=some (m.getD (m.length - 1) 1):=fun h=>by
  have h1:((m.length:Int) - 1).toNat=m.length - 1:=oM;have h2:m.length - 1<m.length:=oM;rw[h1,zg8,List.getElem?_eq_getElem h2]; rfl
 have hbs:(m.length:Int)>0→based (.slice p m.length c)=true:=fun h=>za5 hm oM;refine sQ ?_;refine SC.cutB 14 ((decide ((m.length:Int)>0)&&decide (m.getD (m.length - 1) 1=0))) ?_ ?_
 ·refine rG (lM I (lU (eN qK I) (lU (SU.gtr I I) (lM I ?_))));refine sP ?_ ?_
  ·intro h6;refine yC I (yC I (lY I I I (eN qK I) (lY I I I (sU I I oM) (lY I I I (iA qK sizeOf145 I I (hbs h6) oM sL) (SL.gq (gT I I I dC) (eB isAgg145 I (za6 hm) (hgl h6) I) dC (lY I I I (eQ I I) (yP I (nL ?_))))))));exact za9 (by (rw[f1 h6]; rfl)) mI
  ·intro h6;refine yA I (yA I (yA I (yA I (yA I (yA I (yA I (yF I (nL ?_))))))));exact za9 (by (rw[f2 h6]; rfl)) mI
 refine iQ I (fun hc=>?_) (fun hc=>?_)
 ·rw[zj1,zj4,zj4] at hc;obtain ⟨hpos,hlast⟩:=hc;have h1:((m.length:Int) - 1).toNat=m.length - 1:=oM;refine kP (tN (bK (rG (lM I (lM I (lU (eN qK I) (lU (sU I I oM) (lU (SU.sliceH qK sizeOf145 I I oM oM) (lA I (nL (bN ?_)))))))))));refine ST.again (sliced p 0 ((m.length:Int) - 1).toNat c 1,m.take (m.length - 1)) ⟨I,trivial⟩ I I ⟨?_,?_,?_⟩ (by dsimp only; rw[ze2]; omega)
  ·have:=SlA.cut hm (l:=0) (m:=m.length - 1) (zf4 _) oM;dsimp only;rw[h1];simpa using this
  ·dsimp only; rw[wK oM hlast]; exact htr
  ·dsimp only; rw[ze2]; omega
 ·refine xI (tX (tX (bX (tN (sW I (aT I (rE ?_)))))));exact za7 (.inl I) results232 I ⟨I,I,by rw[← htr,wJ hc]; exact hm⟩
theorem rh (E:World)(g:PH)(s:Own)(v:Value)(hv:v.cells = #[v]) :
  Ctr Tryz.prog E 233 #[v] g s (fun r g' s'=>s=s'∧Le g g'∧∃ b,r = .func (.func 271) #[] #[pp b 0]∧g' b=some (.cells #[v] 222 (0,0))):=by
 refine zb1 (args:=[v]) func233 I ntmps233 (bE I) ?_;refine rZ (bW (bO I) fun b1=>?_);refine aT I (rZ (lU (SU.mkFunc I) (aT I (rE ?_))));rw[hv];refine ST.freeze fun g1 hle hb=>?_;exact za7 (.inl I) results233 I ⟨I,hle,_,I,hb⟩
def rq (l:List Int):List (Nat×Int):=(l.zipIdx.map fun p=>(p.2,p.1)).reverse
theorem nG (l:List Int):(rq l).length=l.length:=by simp[rq]
theorem BC {l:List Int}{k:Nat}(h:k<l.length):(rq l)[l.length - 1 - k]?=some (k,l[k]):=by
 unfold rq;rw[List.getElem?_reverse (by simp; omega)];simp only[ze4,List.length_zipIdx];rw[show l.length - 1 - (l.length - 1 - k)=k by omega];simp[h]
theorem oI (E:World)(g0:PH)(b:Nat)(v:Value)(l:List Int)(hb:g0 b=some (.cells #[v] 222 (0,0)))(hv:SlA DU g0 v l)(hl:l.length<1099511627776) :
  D9 Tryz.prog E 271 [pp b 0] (fun x:Nat×Int=>[vi x.1,.int .u64 x.2]) (rq l) g0:=by
 intro k ι G S J i0 h0 hmono hY sx;obtain ⟨p,c,rfl⟩:=za3 hv;refine Ctr.ofX (args:=[.func (.yield k) #[] #[],pp b 0]) func271 I ntmps271 (bE I) ?_;refine XC.seq ?_;refine XC.region ?_;refine XL.q (qL (v:=.slice p l.length c) isAgg222 I (cK (hmono _ _ h0 _ _ hb) I)) dC ?_;refine XL.u (eN qK I) dC ?_;refine XL.u (sU I I oM) dC ?_;refine XL.u (aS I) dC ?_;refine XL.nil ?_;refine XT.thenN ?_;refine XC.block ?_;refine XC.loop (ι:=ι×Nat) (fun i=>[(0,.func (.yield k) #[] #[]),(1,pp b 0),(3,vi ((i.2:Int) - 1))]) (fun i=>G i.1) (fun i=>S i.1++sx) (fun i=>i.2≤l.length∧J ((rq l).take (l.length - i.2)) i.1) (fun i=>i.2) (i0,l.length)
  sB rfl rfl ⟨Nat.le_refl _,by simpa using h0⟩ ?_
 rintro ⟨j,n⟩ ⟨hn,hJ⟩;dsimp only at hn hJ ⊢;have hle:=hmono _ _ hJ;refine XC.seq ?_;refine XC.seq ?_;refine XC.region ?_;refine XL.u (mV I) dC ?_;refine XL.u (gQ I I) dC ?_;refine XL.nil ?_;refine XT.thenN ?_;refine XC.ifP I (fun hge=>?_) (fun hge=>?_)
 ·have hn1:n - 1<l.length:=oM;have hv':=za4 hv hle;have hb1:=za5 hv' oM;have hgx:l[((n:Int) - 1).toNat]?=some l[n - 1]:=by rw[show ((n:Int) - 1).toNat=n - 1 by omega]; exact List.getElem?_eq_getElem hn1
  have hrg:=BC hn1;rw[show l.length - 1 - (n - 1)=l.length - n by omega] at hrg;have hsp:rq l=(rq l).take (l.length - n)++(n - 1,l[n - 1])::(rq l).drop (l.length - n+1):=by
   obtain ⟨h1,h2⟩:=zf3.1 hrg;rw[← h2,List.getElem_cons_drop,zi9]
  have hy:=hY _ _ _ j sx hsp hJ;have htk:(rq l).take (l.length - (n - 1))=(rq l).take (l.length - n)++[(n - 1,l[n - 1])]:=by
   obtain ⟨h1,h2⟩:=zf3.1 hrg;rw[show l.length - (n - 1)=l.length - n+1 by omega,tS h1,h2]
  generalize l[n - 1]=x at *;have hvn:vi ((n - 1:Nat):Int)=vi ((n:Int) - 1):=zd9 vi oM;dsimp only at hy;rw[hvn] at hy;refine XC.skip ?_;refine XT.thenN ?_;refine XC.seq ?_;refine XC.block ?_;refine XC.seq ?_;refine XC.region ?_;refine XL.u (mV I) dC ?_;refine XL.u (mV I) dC ?_;refine XL.q (qL (v:=.slice p l.length c) isAgg222 I (cK (hle _ _ hb) I)) dC ?_;refine XL.u (mV I) dC ?_;refine XL.u (iA qK sizeOf145 I I hb1 oM sL) dC ?_;refine XL.q (eB isAgg145 I (za6 hv') hgx I) dC ?_;refine XL.x (XO.yield I I hy) dC ?_;rintro _ _ _ ⟨rfl,j',hJ',rfl,rfl⟩;refine XL.u (SU.not I) dC ?_;refine XL.nil ?_;refine XT.thenN ?_;refine XC.condF I ?_;refine XC.skip ?_;refine XT.blockN ?_;refine XT.thenN ?_;refine XC.region ?_;refine XL.u (mV I) dC ?_;refine XL.u (sU I I oM) dC ?_;refine XL.u (aS I) dC ?_;refine XL.nil ?_;exact XT.again (j',n - 1) ⟨I,I,E4 I oM,trivial⟩ I I ⟨by dsimp only; omega,by dsimp only; rw[htk]; exact hJ'⟩ (by dsimp only; omega)
 ·have hn0:n=0:=oM;subst hn0;refine XC.exit ?_;refine XT.thenX ?_;refine XT.thenX ?_;refine XT.blockX ?_;exact XT.leave0 (.inr I) (ST.ret0 (.inr I) results271 ⟨j,by have:=hJ; rwa [tL (by rw[nG]; omega)] at this,I,I⟩)
def uH:Ren :=
 {
  f:=fun x =>
   match x with
   | 161=>234
   | 231=>272
   | 227=>273
   | 233=>274
   | 235=>275
   | 228=>293
   | 197=>294
   | 151=>295
   | 260=>302
   | 152=>303
   | 137=>305
   | 119=>306
   | 224=>307
   | 225=>308
   | 217=>309
   | 266=>310
   | n=>n,
  t:=fun x =>
   match x with
   | 9=>9
   | 4=>4
   | 3=>3
   | 5=>5
   | 117=>284
   | 116=>283
   | 0=>0
   | 124=>287
   | 105=>301
   | 21=>21
   | 119=>310
   | 46=>203
   | 139=>313
   | 138=>312
   | n=>n,
  g:=fun x =>
   match x with
   | 3=>0
   | 4=>1
   | n=>n }
theorem Tryz.lays161:Lays.n161 Tryz.prog uH :=
  {
  mixed:=Eq.refl true,f119:=zb7 func306 (zd9 some kR),
  f137:=zb7 func305 (zd9 some kR),
  f151:=zb7 func295 (zd9 some kR),
  f152:=zb7 func303 (zd9 some kR),
  f161:=zb7 func234 (zd9 some kR),
  f197:=zb7 func294 (zd9 some kR),
  f217:=zb7 func309 (zd9 some kR),
  f224:=zb7 func307 (zd9 some kR),
  f225:=zb7 func308 (zd9 some kR),
  f227:=zb7 func273 (zd9 some kR),
  f228:=zb7 func293 (zd9 some kR),
  f231:=zb7 func272 (zd9 some kR),
  f233:=zb7 func274 (zd9 some kR),
  f235:=zb7 func275 (zd9 some kR),
  f260:=zb7 func302 (zd9 some kR),
  f266:=zb7 func310 (zd9 some kR),t0:=uT0,
  a0:=isAgg0,z0:=sizeOf0,v0:=zl8,t3:=uT3,a3:=iT3,
  z3:=zT3,v3:=zk9,t4:=uT4,a4:=isAgg4,z4:=sizeOf4,
  v4:=zl3,t5:=uT5,a5:=isAgg5,z5:=sizeOf5,v5:=zeroValue5,
  t9:=underlying9,a9:=isAgg9,z9:=sizeOf9,v9:=zeroValue9,t21:=underlying21,
  a21:=isAgg21,z21:=sizeOf21,v21:=zeroValue21,t46:=e7,a46:=isAgg203,
  z46:=sizeOf203,v46:=zeroValue203,t105:=underlying301,a105:=isAgg301,
  z105:=sizeOf301,v105:=zeroValue301,t116:=underlying283,a116:=isAgg283,
  z116:=sizeOf283,t117:=underlying284,a117:=isAgg284,z117:=sizeOf284,
  v117:=zeroValue284,t119:=underlying310,a119:=isAgg310,z119:=sizeOf310,
  t124:=underlying287,a124:=isAgg287,z124:=sizeOf287,v124:=zeroValue287,
  t138:=underlying312,a138:=isAgg312,z138:=sizeOf312,v138:=zeroValue312,
  t139:=underlying313,a139:=isAgg313,z139:=sizeOf313,v139:=zeroValue313,
  g3:=kR,g4:=kR }
def uO (l:List UInt8):List UInt8:=l.dropWhile (· == 0)
theorem qQ (E:World)(g:PH)(s:Own)(l:List UInt8) :
  Ctr Tryz.prog E 234 #[txt l,txt [0]] g s (fun r g' s'=>r=txt (uO l)∧g=g'∧s=s'):=by
 intro w hw;refine (Any.strings_TrimLeft_one lays161 ⟨l.toArray⟩ 0 dC w).mono ?_;rintro e w' ⟨rfl,rfl⟩;exact⟨_,g,s,I,hw,I,I,I⟩
def by4 (x:Int):List Int:=[IntKind.u8.wrap (x.fdiv (2 ^ min (24:Int).toNat IntKind.u64.bits)),IntKind.u8.wrap (x.fdiv (2 ^ min (16:Int).toNat IntKind.u64.bits)),IntKind.u8.wrap (x.fdiv (2 ^ min (8:Int).toNat IntKind.u64.bits)),IntKind.u8.wrap x]
def byP (x:Nat×Int):List Int:=by4 x.2
theorem xM (l:List (Nat×Int)):(l.flatMap byP).length=4 * l.length:=by
 induction l with
 | nil=>rfl
 | cons a t ih=>simp only[zh3,ze3,ih,ze6,byP,by4,zc3]; omega
theorem Bi (l:List Int):(fQ l).length≤l.length:=by
 unfold fQ;rw[List.length_reverse];have:=(List.dropWhile_sublist (l:=l.reverse) (· == 0)).length_le;simpa using this
def mu (l:List Int):List UInt8:=uO (byt ((rq (fQ l)).flatMap byP))
def CX (neg:Bool)(bs:List UInt8):Value:=.agg #[vb (neg&&decide (bs≠[])),txt bs]
theorem Tryz.build80 (a:Bool)(l:List UInt8)(w:World):(Instr.build 80 #[(0,vb a),(1,txt l)]).run Tryz.prog w = .ok (.agg #[vb a,txt l]) w:=by
 have h1:(vb a).cells = #[vb a]:=rfl;have h2:(txt l).cells = #[txt l]:=rfl;simp[Instr.build,Instr.fill,h1,h2];rfl
theorem s6 (E:World)(g:PH)(s:Own)(v:Value)(l:List Int)(neg:Bool)(hv:SlA DU g v l)(hl:l.length<1099511627776) :
  Ctr Tryz.prog E 187 #[v,vb neg] g s (fun r g' s'=>r=CX neg (mu l)∧s=s'∧Le g g'):=by
 have htl:=Bi l;refine Ctr.ofX (args:=[v,vb neg]) func187 I ntmps187 (bE I) ?_;refine XC.seq ?_;refine XC.region ?_;refine XL.o (aL zeroValue80) dC ?_;rintro _ _ _ ⟨b4,rfl,rfl,rfl⟩;refine XL.nil ?_;refine XT.thenN ?_;refine XC.seq ?_;refine XC.region ?_;refine XL.u (mV I) dC ?_;refine XL.o (SO.call call232 I (Ae E g _ v l hv hl)) dC ?_;rintro v10 _ _ ⟨rfl,rfl,hm⟩;obtain ⟨q,d,rfl⟩:=za3 hm;refine XL.u (aS I) dC ?_;refine XL.nil ?_;refine XT.thenN ?_;refine XC.seq ?_;refine XC.region ?_;refine XL.u (mV I) dC ?_;refine XL.u (eN qK I) dC ?_;refine XL.u (SU.eq (v':=vi ((4 * (fQ l).length:Nat))) (SU.mul I I oM) (zd9 vi oM)) dC ?_;refine XL.o (SO.makeC wB sty208 I I oM oM) dC ?_;rintro v14 _ _ ⟨rfl,rfl⟩;refine XL.facts fun ⟨w0,hw0⟩=>?_;obtain ⟨p14,c14,rfl⟩:=ae (i:=0) hw0 rfl;clear hw0 w0;refine XL.o (aL zeroValue208) dC ?_;rintro _ _ _ ⟨b5,rfl,rfl,rfl⟩;refine XL.on (sK 0 sizeOf208 I I I I I sB) ?_;rintro _ _ _ ⟨rfl,rfl⟩;refine XL.nil ?_;refine XT.thenN ?_;refine XC.seq ?_;refine XC.seq ?_;refine XC.region ?_;refine XL.u (mV I) dC ?_;refine XL.o (SO.call call233 I (rh E _ _ _ I)) dC ?_;rintro _ g1 _ ⟨rfl,hle,bb,rfl,hbb⟩;refine XL.nil ?_;refine XT.thenN ?_;refine XC.block ?_;refine XC.to (g':=g1) (s':=rowA wB 5 (.slice p14 0 c14) []::pt b5 (.cells #[.slice p14 0 c14] 208 (0,0))::pt b4 (.cells #[vb false,txt []] 80 (0,0))::s) (fun w hw=>hw.perm (zj8 _ _ _)) ?_;refine XC.rangeFunc (α:=Nat×Int) (ι:=Value×List Int) (encs:=fun x=>[vi x.1,.int .u64 x.2]) (xs:=rq (fQ l)) (g0:=g1) (fun _=>g1) (fun i=>rowA wB 5 i.1 i.2::pt b5 (.cells #[i.1] 208 (0,0))::pt b4 (.cells #[vb false,txt []] 80 (0,0))::[]) (fun pre i=>i.2=pre.flatMap byP) (.slice p14 0 c14,[]) s
  (fun x=>[(18,.int .u64 x.2),(17,vi x.1),(5,pp b5 0)]) (fun _ x _=>[(7,.int .u64 x.2),(5,pp b5 0)]) rfl rfl call271 (fun _=>rfl) rfl rfl (oI E g1 bb _ _ hbb (za4 hm hle) oM) (fun _ _ _=>zb8 _) rfl
  (fun x a h=>DA (h.sub (g:=[(5,pp b5 0)]) ⟨rfl,trivial⟩) dC dC) ?_ ?_ ?_
 ·intro k pre x i sx hJ;refine XC.region ?_;refine XL.u (aS I) dC ?_;refine XL.nil ?_;exact XT.assignEnd sB
 ·rintro k pre ⟨xi,x⟩ suf ⟨bv,bs⟩ sx hxs hJ;dsimp only at hJ ⊢;have hpl:pre.length<(fQ l).length:=by
   have:=zd9 List.length hxs;rw[nG,ze3,ze6] at this;omega
  have hbl:bs.length=4 * pre.length:=by rw[hJ,xM]
  refine XC.facts fun ⟨w0,hw0⟩=>?_;obtain ⟨q2,d2,rfl⟩:=ae (i:=0) hw0 rfl;clear hw0 w0;refine XC.block ?_;refine XC.region ?_;refine XL.q (qL (v:=.slice q2 bs.length d2) isAgg208 I (cO 1 I I)) dC ?_;refine XL.u (mV I) dC ?_;refine XL.u (SU.shr I I dC) dC ?_;refine XL.u (zd8 oc uT5 I) dC ?_;refine XL.u (mV I) dC ?_;refine XL.u (SU.shr I I dC) dC ?_;refine XL.u (zd8 oc uT5 I) dC ?_;refine XL.u (mV I) dC ?_;refine XL.u (SU.shr I I dC) dC ?_;refine XL.u (zd8 oc uT5 I) dC ?_;refine XL.u (mV I) dC ?_;refine XL.u (zd8 oc uT5 I) dC ?_;refine XL.o (bS sty208 I I I (ag sB) dC) dC ?_;rintro _ _ _ ⟨b31,rfl,rfl,rfl⟩;refine XL.to (fun w hw=>At.litRow (e:=wB) (l:=by4 x) (n:=3) hw I I dC) ?_;refine XL.o (SO.appendE (m:=4) 1 (bs++by4 x).length ((bs++by4 x).flatMap wB.enc) sty208 I I I I I (zb6 0 I) (wB.length (by4 x)) (wB.ones _) (by simp[by4]) (by simp) (by simp[by4]; omega) (by simp[by4]; omega)) dC ?_;rintro v32 _ _ ⟨rfl,rfl⟩;refine XL.facts fun ⟨w0,hw0⟩=>?_;obtain ⟨q3,d3,rfl⟩:=ae (e:=wB) (l:=bs++by4 x) (i:=1) hw0 rfl;clear hw0 w0;refine XL.on (sK 2 sizeOf208 I I I I I sB) ?_;rintro _ _ _ ⟨rfl,rfl⟩;refine XL.nil ?_;refine XT.blockN ?_;refine XT.drop (zi8 _ _) ?_;exact XT.roundEnd (.slice q3 (bs++by4 x).length d3,bs++by4 x) I I (by dsimp only; rw[List.flatMap_append,hJ]; simp[byP])
 ·rintro D ⟨bv,bs⟩ hJ;dsimp only at hJ ⊢;refine XT.facts fun ⟨w0,hw0⟩=>?_;obtain ⟨q2,d2,rfl⟩:=ae (i:=1) hw0 rfl;clear hw0 w0;refine XT.blockN ?_;refine XT.thenN ?_;refine XC.seq ?_;refine XC.region ?_;refine XL.q (qL (v:=.slice q2 bs.length d2) isAgg208 I (cO 2 I I)) dC ?_;refine XL.q (SQ.bytesText underlying208 uT5 underlying9 I (zb6 1 I)) dC ?_;refine XL.o (SO.call call234 I (qQ E g1 _ (byt bs))) dC ?_;rintro _ _ _ ⟨rfl,rfl,rfl⟩;refine XL.u (aS I) dC ?_;refine XL.nil ?_;refine XT.thenN ?_;have hbs:uO (byt bs)=mu l:=by unfold mu; rw[hJ]
  rw[hbs];generalize mu l=T at *;cases neg
  ·refine XC.seq ?_;refine XC.region ?_;refine XL.u (mV I) dC ?_;refine XL.u (mV I) dC ?_;refine XL.off (gZ I I I dC) dC ?_;refine XL.off (gZ I I I dC) dC ?_;refine XL.u (wF I I) dC ?_;refine XL.u (mV I) dC ?_;refine XL.u (za2 I (build80 _ _)) dC ?_;refine XL.on (sK 3 sizeOf80 I I I I I sB) ?_;rintro _ _ _ ⟨rfl,rfl⟩;refine XL.nil ?_;refine XT.thenN ?_;refine XC.ret ?_;exact XT.leave1 (.inl I) (ST.retCD 2 s (.inl I) results187 I isAgg80 sizeOf80 I I (.cons _ (.cons _ (.cons _ (.refl _)))) ⟨I,I,hle⟩)
  ·refine XC.seq ?_;refine XC.region ?_;refine XL.u (mV I) dC ?_;refine XL.u (mV I) dC ?_;refine XL.gu (gT I I I dC) (mV I) dC ?_;refine XL.gu (gT I I I dC) (SU.neqT I I) dC ?_;refine XL.u (wT I I) dC ?_;refine XL.u (mV I) dC ?_;refine XL.u (za2 I (build80 _ _)) dC ?_;refine XL.on (sK 3 sizeOf80 I I I I I sB) ?_;rintro _ _ _ ⟨rfl,rfl⟩;refine XL.nil ?_;refine XT.thenN ?_;refine XC.ret ?_;exact XT.leave1 (.inl I) (ST.retCD 2 s (.inl I) results187 I isAgg80 sizeOf80 I I (.cons _ (.cons _ (.cons _ (.refl _)))) ⟨I,I,hle⟩)
open Go Go.Sy Go.Pl Go.Proofs
theorem SU.negK {P:Program}{N:Nat}{f:Fr}{dst:Option Tmp}{ty:TypeId}{pos:String}{af:Array Edge}{gd:Option (Nat×Bool)}{x:Operand}{T:TypeId}{k:IntKind}{n:Int}(hx:ev f x=some (.int k n)):SU P N ⟨dst,.unOp .neg T x,ty,pos,af,gd⟩ f (.int k (k.wrap (0 - n))):=fun a w ha=>by
 simp only[execOp,ha.ev hx]; rfl
theorem EN (n:Int):IntKind.u64.wrap n=n % 18446744073709551616:=by simp[IntKind.wrap,IntKind.bits,IntKind.signed]
theorem Ew (m:Nat)(h:m<18446744073709551616):IntKind.u64.wrap (BitVec.ofInt IntKind.u64.bits (m:Int) &&& BitVec.ofInt IntKind.u64.bits 4294967295).toNat=((m % 4294967296:Nat):Int):=by
 have h1:(BitVec.ofInt IntKind.u64.bits (m:Int) &&& BitVec.ofInt IntKind.u64.bits 4294967295).toNat=m % 4294967296:=by
  have hb:IntKind.u64.bits=64:=rfl;rw[hb,BitVec.toNat_and];have e1:(BitVec.ofInt 64 (m:Int)).toNat=m:=by
   rw[BitVec.toNat_ofInt];omega
  have e2:(BitVec.ofInt 64 4294967295).toNat=2 ^ 32 - 1:=by decide
  rw[e1,e2,Nat.and_two_pow_sub_one_eq_mod]
 rw[h1];exact IntWalk.u64_in _ oM
theorem EY (m:Nat):((m:Nat):Int).fdiv (2 ^ min (32:Int).toNat IntKind.u64.bits)=((m / 4294967296:Nat):Int):=by
 have h1:((2:Int) ^ min (32:Int).toNat IntKind.u64.bits)=4294967296:=by decide
 rw[h1,Int.fdiv_eq_ediv_of_nonneg _ dC];omega
def ya (n:Int):List Int:=[((n.natAbs % 4294967296:Nat):Int),((n.natAbs / 4294967296:Nat):Int)]
theorem B9 (E:World)(g:PH)(s:Own)(n:Int)(h0 : -9223372036854775808≤n)(h1:n<9223372036854775808) :
  Ctr Tryz.prog E 129 #[vi n] g s (fun r g' s'=>r=CX (decide (n<0)) (mu (ya n))∧s=s'∧Le g g'):=by
 refine zb1 (args:=[vi n]) func129 I ntmps129 (bE I) ?_;refine rZ (bW (aL zeroValue80) fun b2=>?_);refine tZ (sW I (lU (zd8 uT3 oc I) (aT I ?_)));refine SC.cut (ι:=Unit) (fun _=>[(0,vi n),(2,pp b2 0),(3,.int .u64 (n.natAbs:Int))]) (fun _=>g) (fun _=>pt b2 (.cells #[vb false,txt []] 80 (0,0))::s) (fun _=>True) ?_ ?_
 ·refine sW I (yL I (tZ ?_));refine iP I (fun hn=>?_) (fun hn=>?_)
  ·have hw:IntKind.u64.wrap (0 - IntKind.u64.wrap n)=(n.natAbs:Int):=by
    rw[EN,EN]; omega
   refine rG (lM I (lU (SU.negK I) (lA I (nL ?_))));exact za8 () ⟨I,I,by rw[← hw]; rfl,trivial⟩ rfl rfl trivial
  ·have hw:IntKind.u64.wrap n=(n.natAbs:Int):=by
    rw[EN]; omega
   refine kP ?_;exact za8 () ⟨I,I,by rw[← hw]; rfl,trivial⟩ rfl rfl trivial
 rintro _ -;try dsimp only
 refine sW I (lU (SU.eq (v':=.int .u64 ((n.natAbs % 4294967296:Nat):Int)) (SU.and I I) (zd9 _ (Ew _ oM))) (lM I (lU (SU.eq (v':=.int .u64 ((n.natAbs / 4294967296:Nat):Int)) (SU.shr I I dC) (zd9 _ (EY _))) (lW (bS sty222 I I I (ag sB) dC) ?_))));rintro _ _ _ ⟨b14,rfl,rfl,rfl⟩;refine zb4 fun g1 hle1 hb=>?_;refine lM I (yL I (lW (SO.call call187 I (s6 E g1 _ _ (ya n) _ (SlA.lit hb I I) (by simp[ya]))) ?_));rintro _ g2 _ ⟨rfl,rfl,hle2⟩;refine oZ (sK 0 sizeOf80 I I I I I sB) ?_;refine tZ (rE ?_);exact ST.retCD 0 s (.inl I) results129 I isAgg80 sizeOf80 I I uR ⟨I,I,hle1.trans hle2⟩
theorem nO {a b:Nat}(h:a % 256=b % 256):UInt8.ofNat a=UInt8.ofNat b:=by
 apply UInt8.toNat.inj;simpa using h
theorem u8w (k:Nat):IntKind.u8.wrap (k:Int)=((k % 256:Nat):Int):=by simp[IntKind.wrap,IntKind.bits,IntKind.signed]
theorem BJ (k:Nat):UInt8.ofNat (IntKind.u8.wrap (k:Int)).toNat=UInt8.ofNat k:=by
 rw[u8w,Int.toNat_natCast]; exact nO oM
theorem qB (k e:Nat):(k:Int).fdiv ((e:Nat):Int)=((k / e:Nat):Int):=by
 rw[Int.fdiv_eq_ediv_of_nonneg _ oM]; simp
theorem zt (k:Nat):byt (by4 (k:Int))=[UInt8.ofNat (k / 16777216),UInt8.ofNat (k / 65536),UInt8.ofNat (k / 256),UInt8.ofNat k]:=by
 have h1:((2:Int) ^ min (24:Int).toNat IntKind.u64.bits)=((16777216:Nat):Int):=by decide
 have h2:((2:Int) ^ min (16:Int).toNat IntKind.u64.bits)=((65536:Nat):Int):=by decide
 have h3:((2:Int) ^ min (8:Int).toNat IntKind.u64.bits)=((256:Nat):Int):=by decide
 unfold by4;rw[h1,h2,h3,qB,qB,qB];simp only[byt,zg2,List.map_nil,BJ]
def beK:Nat→Nat→List UInt8
 | 0,_=>[]
 | k+1,m=>beK k (m / 65536)++[UInt8.ofNat (m / 256),UInt8.ofNat m]
def A8 (m:Nat):List UInt8:=uO (beK 4 m)
theorem El {a:Int}(h:a≠0):fQ [a,0]=[a]:=by simp[fQ,h]
theorem Ek {a b:Int}(h:b≠0):fQ [a,b]=[a,b]:=by simp[fQ,h]
theorem tQ (n:Int)(h:n.natAbs<18446744073709551616):mu (ya n)=A8 n.natAbs:=by
 obtain ⟨m,hm⟩:∃ m,m=n.natAbs:=⟨_,rfl⟩;unfold ya;rw[← hm] at h ⊢;have hlo:=zt (m % 4294967296);have hhi:=zt (m / 4294967296);have hbe:beK 4 m=[UInt8.ofNat (m / 4294967296 / 16777216),UInt8.ofNat (m / 4294967296 / 65536),UInt8.ofNat (m / 4294967296 / 256),UInt8.ofNat (m / 4294967296),UInt8.ofNat (m % 4294967296 / 16777216),UInt8.ofNat (m % 4294967296 / 65536),UInt8.ofNat (m % 4294967296 / 256),UInt8.ofNat (m % 4294967296)]:=by
  simp only[beK,List.nil_append,List.cons_append];refine congr (zd9 List.cons ?_) (congr (zd9 List.cons ?_) (congr (zd9 List.cons ?_) (congr (zd9 List.cons ?_) (congr (zd9 List.cons ?_) (congr (zd9 List.cons ?_) (congr (zd9 List.cons ?_) (congr (zd9 List.cons ?_) I)))))))
  all_goals exact nO oM
 unfold A8 mu;rw[hbe];by_cases h1:m / 4294967296=0
 ·by_cases h2:m % 4294967296=0
  ·rw[h1,h2]; rfl
  ·have ht:fQ [((m % 4294967296:Nat):Int),((m / 4294967296:Nat):Int)]=[((m % 4294967296:Nat):Int)]:=by
    rw[h1];exact El oM
   rw[ht];show uO (byt (by4 _++[]))=_;rw[zc5,hlo,h1];rfl
 ·have ht:fQ [((m % 4294967296:Nat):Int),((m / 4294967296:Nat):Int)]=[((m % 4294967296:Nat):Int),((m / 4294967296:Nat):Int)]:=by
   exact Ek oM
  rw[ht];show uO (byt (by4 _++(by4 _++[])))=_;rw[zc5];have:byt (by4 ((m / 4294967296:Nat):Int)++by4 ((m % 4294967296:Nat):Int))=byt (by4 ((m / 4294967296:Nat):Int))++byt (by4 ((m % 4294967296:Nat):Int)):=by simp[byt]
  rw[this,hhi,hlo];rfl
def EX (n:Int):Value:=CX (decide (n<0)) (A8 n.natAbs)
theorem Av (E:World)(g:PH)(s:Own)(n:Int)(h0 : -9223372036854775808≤n)(h1:n<9223372036854775808) :
  Ctr Tryz.prog E 129 #[vi n] g s (fun r g' s'=>r=EX n∧s=s'∧Le g g') :=
 (B9 E g s n h0 h1).mono fun _ _ _ ⟨h2,h3⟩=>⟨by rw[h2,tQ _ oM]; rfl,h3⟩
open Go.ChangeShapes Go.WideShapes Go.ChangeAt Go.RowKit
set_option maxRecDepth 100000
section
variable {H:Type}{enc:TypeId×Value→H}{W:World}{base:Nat}{spare:Nat→Bool}{hd:Bool}
end
theorem ze {α β:Type}{ka:α→Int}{kb:β→Int}{f:α→β}(h:∀ a,kb (f a)=ka a)(x:α):∀ l:List α,ins kb (f x) (l.map f)=(ins ka x l).map f
 | []=>rfl
 | y::r=>by
  simp only[zg2,ins,h];split
  ·rfl
  ·rw[ze h x r]; rfl
theorem lC {α β:Type}{ka:α→Int}{kb:β→Int}{f:α→β}(h:∀ a,kb (f a)=ka a):∀ l:List α,sortBy kb (l.map f)=(sortBy ka l).map f
 | []=>rfl
 | x::r=>by
  simp only[zg2,sortBy];rw[lC h r,ze h]
abbrev Pr:=Int×Int
def Ring (adj:Pr→Pr→Bool)(l:List Pr):Prop:=l≠[]∧∀ x∈l,∃ y∈l,y≠x∧adj x y=true
def Cyc (adj:Pr→Pr→Bool)(m:List Pr):Prop:=∃ l,Ring adj l∧∀ x∈l,x∈m
inductive Pth (adj:Pr→Pr→Bool)(m:List Pr):Pr→Pr→Prop
 | one (x y:Pr) (hy:y∈m) (hne:y≠x) (ha:adj x y=true):Pth adj m x y
 | cons (x y z:Pr) (hy:y∈m) (hne:y≠x) (ha:adj x y=true) (h:Pth adj m y z):Pth adj m x z
def D2 (T:List Pr)(low:Int):Option Int:=(T.find? fun q=>decide (q.1=low)).map Prod.snd
def adjS (S:Int→List Int)(x y:Pr):Bool:=(S x.2).contains y.1
section
variable {p:Pr}{S:Int→List Int}{T:List Pr}
end
def Fe (l:List Cl)(h:Int):List Int:=((findC l h).getD bi).sides.map ah.cell
structure Vd (l:List Cl)(T:List Pr):Prop where
 once:(T.map Prod.fst++T.map Prod.snd).Nodup
 side:∀ q∈T,q.1∈Fe l q.2
 free:¬ Cyc (adjS (Fe l)) T
section
variable {l:List Cl}(hl:(au l).2=0)
include hl
end
theorem uY {A B:List Cl}{c:Cl}(h:∀ x∈c.sides,aq A x=aq B x):a6 A c=a6 B c:=by
 rw[fK,fK];unfold jA;rw[zc7 fun x hx=>by rw[h x hx]]
structure Gd8 (l:List Cl):Prop where
 right:Rt (aa l)
 ids:∀ c∈l,0<c.id∧c.id≤4000
def E6:Enc Pr 2:=⟨fun p=>[vi p.1,vi p.2],fun _=>rfl,fun _ u hu=>by simp at hu; rcases hu with rfl | rfl <;> rfl,by decide⟩
end Go.Proofs.YtbbppeihhkhkcaaGreatDoor
namespace Go.Sy
open Go Go.MapKept
section
variable {P:Program}{w:World}{t kt et:TypeId}{z:Value}{b:Nat}{es:Array MapEntry}{clk:Nat}{l:List (Int×Value)}
end
section
variable {P:Program}{N:Nat}{E:World}{f:Fr}{g:PH}{s:Own}{dst:Option Tmp}{ty:TypeId}{pos:String}{af:Array Edge}{gd:Option (Nat×Bool)}
variable {t kt et:TypeId}{z:Value}{b:Nat}{l:List (Int×Value)}{x y u:Operand}{k:Int}{v:Value}
end
end Go.Sy
namespace Go.Sy
open Go
def CN (P:Program)(E:World)(gf:FuncId)(lb:List Value){α:Type}(encs:α→List Value)(xs:List α)(g0:PH):Prop :=
 ∀ (l:Nat) (ι:Type) (G:ι→PH) (S:ι→Own) (J:List α→ι→Prop) (i0:ι),J [] i0→(∀ pre i,J pre i→Le g0 (G i))→(∀ pre i g',J pre i→Le (G i) g'→∃ i',J pre i'∧G i'=g'∧S i'=S i) →
  (∀ pre x suf i sx,xs=pre++x::suf→J pre i→tK P E l (encs x).toArray (G i) (S i++sx) (fun v g' s'=>v = .bool true∧∃ j,J (pre++[x]) j∧Le (G i) (G j)∧g'=G j∧s'=S j++sx)) →
  ∀ sx,Ctr P E gf (.func (.yield l) #[] #[]::lb).toArray (G i0) (S i0++sx) (fun _ g' s'=>∃ j,J xs j∧g'=G j∧s'=S j++sx)
section
variable {P:Program}{M:Md}{N:Nat}{E:World}{Q:Exit→Act→World→Prop}{f:Fr}{g:PH}{s:Own}{dst:Option Tmp}{ty:TypeId}{pos:String}{af:Array Edge}{gd:Option (Nat×Bool)}
def nu {α ι:Type}(E:World)(G:ι→PH)(S:ι→Own)(J:List α→ι→Prop)(pre:List α)(x:α)(g:PH)(sx:Own):Exit→Act→World→Prop:=fun e _ w'=>e = .normal∧∃ j,At E (G j) (S j++sx) w'∧J (pre++[x]) j∧Le g (G j)
theorem XT.roundEnd2 {α ι:Type}{G:ι→PH}{S:ι→Own}{J:List α→ι→Prop}{pre:List α}{x:α}{g1:PH}{sx:Own}(j:ι)(hg:G j=g)(hs:S j++sx=s)(hj:J (pre++[x]) j)(hl:Le g1 (G j)):XT M N E (nu E G S J pre x g1 sx) .normal f g s:=fun _ _ _ hw=>⟨rfl,j,by rw[hg,hs]; exact hw,hj,hl⟩
theorem XC.rangeFuncB {α ι κ:Type}{gop:Operand}{ps:Array Tmp}{assign body:Code}{gf:FuncId}{lb:List Value}{encs:α→List Value}{xs:List α}{g0:PH}(G:ι→PH)(S:ι→Own)(J:List α→ι→Prop)(i0:ι)(sx0:Own)(fa:α→Fr)(fb:List α→α→ι→κ→Fr)(X:α→κ→Own)
  (hro:M.ro=none) (hg:ev f gop=some (.func (.func gf) #[] lb.toArray)) (eg:∀ args w,(callFunc gf args).run P w = .ok (.enter gf args) w) (hps:∀ x,(encs x).length=ps.size)
  (hG:G i0=g) (hS:S i0++sx0=s) (hseq:CN P E gf lb encs xs g0) (hmono:∀ pre i,J pre i→Le g0 (G i)) (hup:∀ pre i g',J pre i→Le (G i) g'→∃ i',J pre i'∧G i'=g'∧S i'=S i) (h0:J [] i0)
  (hfa:∀ x a,Ok N f (iX a)→Ok N (fa x) { tmps:=(ps.zip (encs x).toArray).foldl (fun t (p,v)=>t.setIfInBounds p v) a.tmps,defers:=[] })
  (hassign:∀ l pre x i sx,J pre i→XC P ⟨some l,[]⟩ N E assign (l5 (N:=N) E (G i) (S i++sx) (fb pre x i) (X x)) (fa x) (G i) (S i++sx))
  (hbody:∀ l pre x suf i sx q,(∃ (r:Loop) (k:Nat),sx[k]?=some (pt l (.loop r)))→xs=pre++x::suf→J pre i→XC P ⟨some l,[]⟩ N E body (nu E G S J pre x (G i) sx) (fb pre x i q) (G i) (X x q++(S i++sx)))
  (hdone:∀ D j,J xs j→XT ⟨none,⟨.collected D,#[]⟩::M.ds⟩ N E Q .normal f (G j) (pt D (.deferred (some []))::(S j++sx0))):XC P M N E (.rangeFunc gop ps assign body) Q f g s:=by
 subst hG hS;intro a w ha hw;rw[hro];refine wpIn_rangeFunc ?_;intro fn _;obtain ⟨rec,hrec⟩:∃ rec:LoopState→Option Code→Loop,rec=fun st pe=>{ state:=st,pending:=pe,fn,tmps:=a.tmps,params:=ps,assign,body,defers:=w.heap.size }:=⟨_,rfl⟩;obtain ⟨L,hL⟩:∃ L,L=w.heap.size+1:=⟨_,rfl⟩;obtain ⟨D,hD⟩:∃ D,D=w.heap.size:=⟨_,rfl⟩;obtain ⟨W1,hW1⟩:∃ W1,(w.alloc (.deferred (some []))).alloc (.loop (rec .ready none))=W1:=⟨_,rfl⟩;have hA:At E (G i0) (pt L (.loop (rec .ready none))::pt D (.deferred (some []))::(S i0++sx0)) W1:=by
  rw[← hW1,hL,hD];have h1:At E (G i0) (pt w.heap.size (.deferred (some []))::(S i0++sx0)) (w.alloc (.deferred (some []))):=hw.alloc (e:=pt w.heap.size (.deferred (some []))) rfl rfl;have h2:=h1.alloc (e:=pt (w.alloc (.deferred (some []))).heap.size (.loop (rec .ready none))) rfl rfl;rw[World.size_alloc] at h2;exact h2
 obtain ⟨S2,hS2⟩:∃ S2:ι→Own,S2=fun i=>S i++(pt L (.loop (rec .ready none))::pt D (.deferred (some []))::sx0):=⟨_,rfl⟩;have hA2:At E (G i0) (S2 i0++[]) W1:=by
  rw[hS2,zc5];dsimp only;refine hA.perm ?_;have h1:(pt L (.loop (rec .ready none))::pt D (.deferred (some []))::(S i0++sx0))=[pt L (.loop (rec .ready none)),pt D (.deferred (some []))]++(S i0++sx0):=rfl;have h2:S i0++(pt L (.loop (rec .ready none))::pt D (.deferred (some []))::sx0)=S i0++([pt L (.loop (rec .ready none)),pt D (.deferred (some []))]++sx0):=rfl;rw[h1,h2,← zg6,← zg6];exact List.perm_append_comm.append_right _
 refine⟨L,[{ target:=.collected D,args:=#[] }],W1,{ target:=.fn (.func gf) lb.toArray,args:=#[.func (.yield L) #[] #[]] },W1,gf,(.func (.yield L) #[] #[]::lb).toArray,W1,?_,?_,fun _ _=>trivial,?_,fun h=>(by cases h),?_⟩
 ·rw[← hW1,hrec,hL,hD]; exact run_enterLoop_outer _ _ _ _ _
 ·have h1:a.eval gop = .func (.func gf) #[] lb.toArray:=ha.ev hg;simp only[resolve,h1];simp[go_sem]
 ·have:(#[.func (.yield L) #[] #[]]++lb.toArray:Array Value)=(.func (.yield L) #[] #[]::lb).toArray:=by simp
  simp[invoke,go_sem,eg]
 ·refine (callsIn_wide (n:=0 - 1)).2 ((hseq L ι G S2 J i0 h0 hmono (fun pre i g' hJ hl=>by obtain ⟨i',a1,a2,a3⟩:=hup pre i g' hJ hl; exact⟨i',a1,a2,by rw[hS2]; dsimp only; rw[a3]⟩) ?_ [] W1 hA2).mono ?_)
  ·intro pre x suf i sx hxs hJ W hW;rw[hS2] at hW;simp only[zg6,List.cons_append] at hW;have hlen:(S i).length=(S i).length:=rfl;have gl:∀ (i:ι) (u u':Ent) (r:Own),(S i++u::u'::r)[(S i).length]?=some u:=fun i u u' r=>by simp
   have hl:=hW.here (gl i _ _ _);have hy:=run_yield (P:=P) (args:=(encs x).toArray) hl (by rw[hrec]; simpa using hps x);rw[hrec] at hy;refine⟨fn,_,assign,body,hy,roundIn_of_wpIn trivial ?_⟩;refine Code.wpIn_mono (fun e a1 w1 h1=>?_) (hassign L pre x i _ hJ { tmps:=(ps.zip (encs x).toArray).foldl (fun t (p,v)=>t.setIfInBounds p v) a.tmps,defers:=[] } W ⟨I,hfa x a ha.2⟩ hW);obtain ⟨rfl,q,ha1,hw1⟩:=h1;have glX:∀ (X:Own) (i:ι) (u u':Ent) (r:Own),(X++(S i++u::u'::r))[X.length+(S i).length]?=some u:=fun X i u u' r=>by rw[zh1 oM,Nat.add_sub_cancel_left]; exact gl i u u' r
   have hl1:=hw1.here (glX _ i _ _ _);refine⟨_,run_beginRound hl1 (by rw[hrec]),?_⟩;have hset:∀ (i:ι) (u u' v:Ent) (r:Own),(S i++u::u'::r).set (S i).length v=S i++v::u'::r:=fun i u u' v r=>by simp
   have hsetX:∀ (X:Own) (i:ι) (u u' v:Ent) (r:Own),(X++(S i++u::u'::r)).set (X.length+(S i).length) v=X++(S i++v::u'::r):=fun X i u u' v r=>by rw[List.set_append_right _ _ oM,Nat.add_sub_cancel_left,hset]
   have hw2:=hw1.obj (o':=.loop { rec .ready none with state:=.busy }) (glX _ i _ _ _);rw[hsetX] at hw2;refine Code.wpIn_mono (fun e a3 w3 h3=>?_) (hbody L pre x suf i _ q ⟨_,0,I⟩ hxs hJ a1 _ ha1 hw2);obtain ⟨rfl,j,hw3,hJ3,hL3⟩:=h3;have hl3:=hw3.here (gl j _ _ _);have he:=run_endRound (P:=P) none hl3;have hw4:=hw3.obj (o':=.loop { (rec .ready none) with state:=.ready,pending:=none }) (gl j _ _ _);rw[hset] at hw4;refine⟨_,_,he,.bool true,G j,S2 j++sx,I,?_,I,j,hJ3,hL3,I,I⟩;rw[hS2];simp only[zg6,List.cons_append];rw[hrec] at hw4 ⊢;exact hw4
  ·rintro e W2 ⟨v,g',s',rfl,hat,j,hJ,rfl,rfl⟩;rw[hS2,zc5] at hat;have gl:∀ (i:ι) (u u':Ent) (r:Own),(S i++u::u'::r)[(S i).length]?=some u:=fun i u u' r=>by simp
   have hl:=hat.here (gl j _ _ _);have he:=run_endLoop (P:=P) hl (by rw[hrec]; simp);have h2:=hat.obj (o':=.loop { (rec .ready none) with state:=.exhausted }) (gl j _ _ _);have hset:∀ (i:ι) (u u' v:Ent) (r:Own),(S i++u::u'::r).set (S i).length v=S i++v::u'::r:=fun i u u' v r=>by simp
   rw[hset] at h2;have hpn:(rec .ready none).pending=none:=by rw[hrec]
   refine⟨none,_,he.trans (zd9 (fun p=>Result.ok p _) hpn),?_⟩;refine hdone D j hJ _ _ ⟨by rw[← ha.1]; rfl,ha.2⟩ ?_;have h3:=(h2.sublist (s':=S j++pt D (.deferred (some []))::sx0) (by exact (zc2 _).append (zi8 _ _))).perm List.perm_middle;exact h3
end
end Go.Sy
namespace Go.Proofs.YtbbppeihhkhkcaaGreatDoor
open _root_.Go.Proofs.Tryz _root_.Go.Proofs.YtbbppeihhkhkcaaGreatDoor.Tryz
open Go Go.Sy Go.Pl Go.Proofs
set_option maxRecDepth 100000
set_option maxHeartbeats 1000000
set_option maxHeartbeats 2000000
theorem s8 (E:World)(g:PH)(s:Own)(v:Value)(l:List Cl)(hv:aj g v l)(hf:aY l) :
  Ctr Tryz.prog E 41 #[.agg #[v]] g s (fun r g' s'=>r=vb (decide ((au l).2=0))∧g=g'∧s=s'):=by
 obtain ⟨q,d,rfl⟩:=hv.form;refine zb1 (args:=[.agg #[.slice q l.length d]]) func41 I ntmps41 (bE I) ?_;refine rZ (bW (bO I) fun b1=>?_);refine aT I (rZ (lK (qV 0 aA an I I I) (lW (SO.call call14 I (lQ E g _ _ l hv hf)) ?_)));rintro _ _ _ ⟨rfl,rfl,rfl⟩;refine lM I (yX I (yX I (lA I (aT I (sW I (yE I (aT I (rE (dR (s':=s) uR ?_)))))))));exact za7 (.inl I) results41 I ⟨I,I,I⟩
section
variable {P:Program}{N:Nat}{E:World}{f:Fr}{g:PH}{s:Own}{dst:Option Tmp}{ty:TypeId}{pos:String}{af:Array Edge}{gd:Option (Nat×Bool)}
variable {t kt et:TypeId}{z:Value}{b:Nat}{l:List (Int×Value)}{x y u:Operand}{k:Int}{v:Value}
theorem SO.insertK (i:Nat)(hT:MTy P t kt et z)(hx:ev f x=some (.map (some b)))(hy:ev f y=some (vi k))(hu:ev f u=some v)(hi:s[i]?=some (mp b l)) :
  SO P N E ⟨dst,.insert t x y u,ty,pos,af,gd⟩ f g s fun _ g' s'=>g=g'∧s'=s.set i (mp b (fo l k v)) :=
 SO.of_skip fun a w ha hw=>by
  obtain ⟨es,clk,h1,h2⟩:=hw.own _ (zf9 hi);have hb:w.heap[b]?=some (.map es clk):=by simpa [mp] using h1
  obtain ⟨es',clk',hr,hm'⟩:=ie hT hb h2 k v;have hfr:=hw.fresh _ (zf9 hi) b rfl;obtain ⟨e1,e2⟩:=MapKept.heap_set (o':=.map es' clk') hb;refine⟨_,g,s.set i (mp b (fo l k v)),by simp[execOp,ha.ev hx,ha.ev hy,ha.ev hu,hr]; rfl,?_,rfl,rfl⟩;refine hw.turn hi I ⟨I,(by exact Nat.le_refl _)⟩ I (by simp) (fun q _ hne=>e2 q (fun e=>hne (by simp[mp,e]))) ⟨es',clk',by simpa [mp] using e1,hm'⟩ (fun b' hb'=>?_);simp only[mp,zg5] at hb';subst hb';exact⟨by simpa using hfr.2,.inl I⟩
end
end Go.Proofs.YtbbppeihhkhkcaaGreatDoor
