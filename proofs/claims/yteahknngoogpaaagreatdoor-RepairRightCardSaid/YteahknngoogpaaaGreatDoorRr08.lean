/- Rgt3 Frm2 Sec2 Rgt4 Rgt5 Aro2 Ren1 Ren2 Ren3 Par0 -/
import Derived.Test.YteahknngoogpaaaGreatDoorRr07
import Derived.SizedLaws
import Derived.Test.YteahknngoogpaaaGreatDoorRr06
import Derived.Test.YteahknngoogpaaaGreatDoorRr05
set_option linter.unusedSimpArgs false
set_option linter.unusedVariables false
namespace Go.Proofs.YteahknngoogpaaaGreatDoor
open _root_.Go.Proofs.Tryz _root_.Go.Proofs.YteahknngoogpaaaGreatDoor.Tryz
open Go Go.Sy Go.Pl Go.Proofs
theorem find_mem {A:List Cl}(h:(A.map Cl.id).Nodup){x:Cl}(hx:x∈A):findT A x.id=some x:=by
 induction A with
 | nil=>simp at hx
 | cons c t ih =>
  simp only[List.map_cons,List.nodup_cons] at h;unfold findT
  rcases List.mem_cons.1 hx with rfl | hx
  ·simp
  ·have hne:¬ c.id=x.id:=fun e=>h.1 (by rw[e]; exact List.mem_map.2 ⟨x,hx,rfl⟩);rw[List.find?_cons];simp only[hne,decide_false];exact ih h.2 hx
theorem normC_idem (c:Cl):normC (normC c)=normC c:=by
 unfold normC;rw[← eq_sortBy (sortBy_srt c.sides) (Stab.refl _)]
theorem canonC_idem (l:List Cl):canonC (canonC l)=canonC l:=by
 have h1:sortBy Cl.id (canonC l)=canonC l:=(eq_sortBy (canonC_srt l) (Stab.refl _)).symm;show (sortBy Cl.id (canonC l)).map normC=canonC l;rw[h1];unfold canonC;rw[List.map_map];exact List.map_congr_left fun c _=>normC_idem c
theorem sort_rev {α:Type}{key:α→Int}{l:List α}(h:l.Pairwise fun a b=>key b<key a):sortBy key l=l.reverse:=by
 refine (eq_sortBy ?_ ⟨by simp,fun c=>?_⟩).symm
 ·unfold Srt;rw[List.pairwise_reverse];exact h.imp fun h=>by omega
 ·rw[List.filter_reverse];have:∀ m:List α,m.Pairwise (fun a b=>key b<key a)→(∀ a∈m,(key a == c)=true)→m.reverse=m:=by
   intro m hm hc
   match m,hm,hc with
   | [],_,_=>rfl
   | [_],_,_=>rfl
   | a::b::r,hm,hc =>
    have h1:=(List.pairwise_cons.1 hm).1 b (by simp);have h2:=hc a (by simp);have h3:=hc b (by simp);simp at h2 h3;omega
  exact this _ (h.sublist List.filter_sublist) fun a ha=>(List.mem_filter.1 ha).2
section
variable {all:List (List Int)}(hg:Good all)
include hg
theorem Good.face {s:List Int}(hs:s∈all){k:Nat}(hk:k<s.length)(h2:2≤s.length):s.eraseIdx k∈all∧(s.eraseIdx k).length=s.length - 1 :=
 ⟨hg.faces s hs h2 k hk,by rw[List.length_eraseIdx,if_pos hk]⟩
theorem Good.sides {s:List Int}(hs:s∈all):sortBy Side.cell (simpSides all s s.length)=facesC all s:=by
 have hne:=(hg.form s hs).1;have hst:=(hg.form s hs).2.1;by_cases h1:s.length≤1
 ·have h0:s.length=1:=by have:=List.length_pos_iff.2 hne; omega
  unfold facesC;rw[if_pos h1,h0];have:sideAt all s 0=[]:=by
   unfold sideAt;have h3:(s.eraseIdx 0).length=0:=by rw[List.length_eraseIdx,if_pos oM]; omega
   rw[if_neg oM]
  simp[simpSides,List.range_succ,this,sortBy]
 ·have h2:2≤s.length:=oM;have e:simpSides all s s.length=(List.range s.length).map fun k:Nat=>(⟨ixC all (s.eraseIdx k),signC k⟩:Side):=by
   unfold simpSides;rw[List.flatMap_def];have:(List.range s.length).map (sideAt all s)=(List.range s.length).map fun k:Nat=>[(⟨ixC all (s.eraseIdx k),signC k⟩:Side)]:=List.map_congr_left fun k hk=>by
    have hk:=List.mem_range.1 hk;unfold sideAt;rw[(hg.face hs hk h2).2,if_pos oM];rfl
   rw[this];generalize List.range s.length=R;induction R with
   | nil=>rfl
   | cons x r ih=>simp only[List.map_cons,List.flatten_cons,ih]; rfl
  unfold facesC;rw[if_neg h1,e,List.map_reverse];refine sort_rev ?_;rw[List.pairwise_map];refine List.Pairwise.imp_of_mem ?_ (List.pairwise_lt_range (n:=s.length));intro i j hi hj hij;have hi:=List.mem_range.1 hi;have hj:=List.mem_range.1 hj;exact hg.lt (hg.face hs hj h2).1 (hg.face hs hi h2).1 (erase_lt hst hij hj)
theorem Good.cells:canonC (simpCells all)=all.map (celC all):=by
 rw[canon_simp];apply List.ext_getElem?;intro k;simp only[List.getElem?_map];by_cases hk:k<all.length
 ·rw[simpCells_get hk,gE hk];simp only[Option.map_some,Option.some.injEq];unfold normC simpCell celC;simp only[hg.sides (gM hk),ixC,hg.lb_get hk]
 ·rw[List.getElem?_eq_none (by rw[simpCells_length]; omega),List.getElem?_eq_none oM];rfl
theorem Good.ids:((all.map (celC all)).map Cl.id).Pairwise (· < ·):=by
 rw[List.map_map,List.pairwise_map];refine List.Pairwise.imp_of_mem ?_ hg.strict;intro a b ha hb h;exact hg.lt ha hb h
theorem Good.find {s:List Int}(hs:s∈all):findT (all.map (celC all)) (ixC all s)=some (celC all s) :=
 find_mem (x:=celC all s) (hg.ids.imp fun h=>by omega) (List.mem_map.2 ⟨s,hs,rfl⟩)
end
theorem signC_one (k:Nat):signC k=1∨signC k = -1:=by unfold signC; omega
theorem facesC_get {all:List (List Int)}{s:List Int}(h:2≤s.length){i:Nat}(hi:i<s.length):(facesC all s)[i]?=some ⟨ixC all (s.eraseIdx (s.length - 1 - i)),signC ((s.length - 1 - i:Nat):Int)⟩:=by
 unfold facesC;rw[if_neg oM,List.getElem?_map,List.getElem?_reverse (by simpa using hi)];simp only[List.length_range];rw[List.getElem?_range oM];rfl
theorem facesC_length {all:List (List Int)}{s:List Int}:(facesC all s).length=if s.length≤1 then 0 else s.length:=by
 unfold facesC;split <;> simp
section
variable {all:List (List Int)}(hg:Good all)
include hg
theorem Good.formOk {s:List Int}(hs:s∈all):formC (all.map (celC all)) (celC all s)=0:=by
 obtain ⟨hne,hst,h9⟩:=hg.form s hs;have hp:=List.length_pos_iff.2 hne;have hlen:(celC all s).sides.length=if s.length≤1 then 0 else s.length:=facesC_length
 have hdim:(celC all s).dim=(s.length:Int) - 1:=rfl;have h1:dimBad (celC all s)=false:=by unfold dimBad; rw[hdim]; simp; omega
 have h2:cntBad (celC all s)=false:=by
  unfold cntBad;rw[hdim,hlen];split
  ·simp; omega
  ·simp; omega
 have h3:(List.range (celC all s).sides.length).any (badAt (all.map (celC all)) (celC all s))=false:=by
  rw[List.any_eq_false];intro i hi;have hi:=List.mem_range.1 hi;rw[hlen] at hi;split at hi
  ·omega
  ·rename_i hl;have h2:2≤s.length:=oM;have hgi:=facesC_get (all:=all) h2 hi;have hf:=hg.face hs (k:=s.length - 1 - i) oM h2;unfold badAt;rw[show (celC all s).sides[i]?=_ from hgi];show ¬ badSide _ _ i ⟨ixC all (s.eraseIdx (s.length - 1 - i)),_⟩=true;unfold badSide;dsimp only;rw[hg.find hf.1];have hd:(celC all (s.eraseIdx (s.length - 1 - i))).dim=(celC all s).dim - 1:=by
    show ((s.eraseIdx (s.length - 1 - i)).length:Int) - 1=(s.length:Int) - 1 - 1;rw[hf.2];omega
   simp only[Option.isSome_some,Bool.not_true,Bool.false_or,Option.getD_some,hd,ne_eq,not_true_eq_false,decide_false];by_cases hi0:i>0
   ·have hgp:=facesC_get (all:=all) h2 (i:=i - 1) oM;rw[show (celC all s).sides[i - 1]?=_ from hgp];have hf2:=hg.face hs (k:=s.length - 1 - (i - 1)) oM h2;have:=hg.lt hf2.1 hf.1 (erase_lt hst oM oM);simp;omega
   ·simp[hi0]
 have h4:(celC all s).sides.any signBad=false:=by
  rw[List.any_eq_false];intro x hx;show ¬ signBad x=true;have hx:x∈facesC all s:=hx;unfold facesC at hx;split at hx
  ·simp at hx
  ·obtain ⟨k,_,rfl⟩:=List.mem_map.1 hx
   rcases signC_one k with h | h <;> simp[signBad,h]
 have h5:(decide ((celC all s).dim=1)&&decide (sumS (celC all s).sides≠0))=false:=by
  by_cases hd:(celC all s).dim=1
  ·rw[hdim] at hd;have hl2:s.length=2:=oM;have:sumS (celC all s).sides=0:=by
    show sumS (facesC all s)=0;unfold facesC;rw[if_neg oM,hl2];simp[List.range_succ,sumS,signC]
   rw[this];simp
  ·simp[hd]
 unfold formC;rw[h1,h2,h3,h4,h5];rfl
end
theorem erase_comm (s:List Int):∀ {k q:Nat},k≤q→(s.eraseIdx k).eraseIdx q=(s.eraseIdx (q+1)).eraseIdx k:=by
 induction s with
 | nil=>intro k q _; rfl
 | cons a r ih =>
  intro k q h;cases k with
  | zero=>simp
  | succ k =>
   cases q with
   | zero=>omega
   | succ q =>
    simp only[List.eraseIdx_cons_succ];rw[ih oM]
theorem mem_erase2 {s:List Int}(hs:s.Nodup){a b i:Nat}(hab:a<b)(hb:b<s.length)(hi:i<s.length):s[i]∈(s.eraseIdx b).eraseIdx a↔i≠a∧i≠b:=by
 have hinj:∀ {j k:Nat} (hj:j<s.length) (hk:k<s.length),s[j]=s[k]→j=k:=fun {j k} hj hk e=>by
  rcases Nat.lt_trichotomy j k with h | h | h
  ·exact absurd e (List.pairwise_iff_getElem.1 hs j k hj hk h)
  ·exact h
  ·exact absurd e.symm (List.pairwise_iff_getElem.1 hs k j hk hj h)
 rw[List.mem_eraseIdx_iff_getElem];constructor
 ·rintro ⟨j,hj1,hj2,e⟩;have hj1':=hj1;rw[List.length_eraseIdx,if_pos hb] at hj1';rw[List.getElem_eraseIdx] at e;split at e
  ·have:=hinj _ _ e;omega
  ·have:=hinj _ _ e;omega
 ·rintro ⟨h1,h2⟩
  rcases Nat.lt_or_ge i b with h | h
  ·refine⟨i,by rw[List.length_eraseIdx,if_pos hb]; omega,h1,?_⟩;rw[List.getElem_eraseIdx,dif_pos h]
  ·refine⟨i - 1,by rw[List.length_eraseIdx,if_pos hb]; omega,oM,?_⟩;rw[List.getElem_eraseIdx,dif_neg oM];congr 1;omega
theorem erase2_inj {s:List Int}(hs:s.Nodup){a b c d:Nat}(hab:a<b)(hb:b<s.length)(hcd:c<d)(hd:d<s.length)(h:(s.eraseIdx b).eraseIdx a=(s.eraseIdx d).eraseIdx c):a=c∧b=d:=by
 have key:∀ i,i<s.length→((i≠a∧i≠b)↔(i≠c∧i≠d)):=fun i hi=>by
  rw[← mem_erase2 hs hab hb hi,← mem_erase2 hs hcd hd hi,h]
 have ha:=key a oM;have hb':=key b hb;have hc:=key c oM;have hd':=key d hd;omega
def phiC (all:List (List Int))(s:List Int)(c:Int):Int:=ixC all ((s.eraseIdx (c % 16).toNat).eraseIdx (c / 16).toNat)
theorem code_ab {n k q:Nat}(hk:k<n)(hq:q<n - 1):∃ a b:Nat,a<b∧b<n∧code k q=((a * 16+b:Nat):Int)∧((q<k∧a=q∧b=k)∨(k≤q∧a=k∧b=q+1)):=by
 unfold code;by_cases h:q<k
 ·rw[if_pos h]; exact⟨q,k,h,hk,rfl,.inl ⟨h,rfl,rfl⟩⟩
 ·rw[if_neg h]; exact⟨k,q+1,oM,oM,rfl,.inr ⟨oM,rfl,rfl⟩⟩
theorem code_div {a b:Nat}(h:b<16):((((a * 16+b:Nat):Int) % 16).toNat=b)∧((((a * 16+b:Nat):Int) / 16).toNat=a):=oM
section
variable {all:List (List Int)}(hg:Good all)
include hg
theorem Good.aroundOk {s:List Int}(hs:s∈all)(h3:2<s.length):aroundC (all.map (celC all)) (celC all s)=0:=by
 obtain ⟨hne,hst,h9⟩:=hg.form s hs;have hnd:s.Nodup:=hst.imp fun h=>by omega
 have hE:∀ a b,a<b→b<s.length→(s.eraseIdx b).eraseIdx a∈all:=fun a b hab hb=>by
  have h1:=hg.face hs (k:=b) hb oM;exact (hg.face h1.1 (k:=a) (by rw[h1.2]; omega) (by rw[h1.2]; omega)).1
 have hlook:lookL (all.map (celC all)) (celC all s)=renL (phiC all s) (patS s.length):=by
  unfold lookL renL patS;show (facesC all s).map _=_;unfold facesC;rw[if_neg oM,List.map_map,List.map_map];refine List.map_congr_left fun k hk=>?_;have hk:k<s.length:=by simpa using hk
  have hf:=hg.face hs hk oM;simp only[Function.comp_def];congr 1;unfold sidesOf;rw[hg.find hf.1];show facesC all (s.eraseIdx k)=_;unfold facesC;rw[hf.2,if_neg oM,List.map_map];refine List.map_congr_left fun q hq=>?_;have hq:q<s.length - 1:=by simpa using hq
  obtain ⟨a,b,hab,hb,hc,hcase⟩:=code_ab hk hq;simp only[Function.comp_def,renS];congr 1;unfold phiC;rw[hc,(code_div (a:=a) (b:=b) oM).1,(code_div (a:=a) (b:=b) oM).2]
  rcases hcase with ⟨_,rfl,rfl⟩ | ⟨h,rfl,rfl⟩
  ·rfl
  ·rw[erase_comm s h]
 rw[aroundC_L,hlook,aroundL_ren,patS_ok _ oM h3];have hkey:∀ x∈keyL (patS s.length),∃ a b:Nat,a<b∧b<s.length∧x=((a * 16+b:Nat):Int):=by
  intro x hx;obtain ⟨p,hp,hx⟩:=List.mem_flatMap.1 hx;obtain ⟨k,hk,rfl⟩:=List.mem_map.1 hp;obtain ⟨r,hr,rfl⟩:=List.mem_map.1 hx;obtain ⟨q,hq,rfl⟩:=List.mem_map.1 hr;obtain ⟨a,b,hab,hb,hc,_⟩:=code_ab (n:=s.length) (k:=k) (q:=q) (by simpa using hk) (by simpa using hq);exact⟨a,b,hab,hb,hc⟩
 intro x hx y hy h;obtain ⟨a,b,hab,hb,rfl⟩:=hkey x hx;obtain ⟨c,d,hcd,hd,rfl⟩:=hkey y hy;unfold phiC at h;rw[(code_div (a:=a) (b:=b) oM).1,(code_div (a:=a) (b:=b) oM).2,(code_div (a:=c) (b:=d) oM).1,(code_div (a:=c) (b:=d) oM).2] at h;obtain ⟨rfl,rfl⟩:=erase2_inj hnd hab hb hcd hd (hg.inj (hE a b hab hb) (hE c d hcd hd) h);rfl
end
theorem chk1_fine {tl:List Cl}:∀ {l:List Cl} {n:Int},(∀ x∈l,n<x.id)→l.Pairwise (fun a b=>a.id<b.id)→(∀ x∈l,formC tl x=0)→chk1 tl l n=none
 | [],_,_,_,_=>rfl
 | x::r,n,h1,h2,h3=>by
  have hx:=h1 x (by simp);obtain ⟨h4,h5⟩:=List.pairwise_cons.1 h2;unfold chk1;rw[if_neg oM,if_neg (by rw[h3 x (by simp)]; simp)];exact chk1_fine h4 h5 fun y hy=>h3 y (by simp[hy])
theorem chk2_fine {tl:List Cl}:∀ {l:List Cl},(∀ x∈l,x.dim>1→aroundC tl x=0)→chk2 tl l=none
 | [],_=>rfl
 | x::r,h=>by
  unfold chk2;rw[if_neg fun ⟨h1,h2⟩=>h2 (h x (by simp) h1)];exact chk2_fine fun y hy=>h y (by simp[hy])
theorem check_ok {l:List Cl}(h0:l.length≤4000)(h1:∀ x∈canonC l,0<x.id)(h2:(canonC l).Pairwise fun a b=>a.id<b.id)(h3:∀ x∈canonC l,formC (canonC l) x=0)(h4:∀ x∈canonC l,x.dim>1→aroundC (canonC l) x=0):checkC l=(0,0):=by
 unfold checkC;rw[if_neg oM,tabC_strict h2,chk1_fine h1 h2 h3,chk2_fine h4];rfl
theorem simpC_right (ls:List (List Int)):checkC (simpC ls)=(0,0):=by
 unfold simpC;cases h:simpAll [] ls with
 | none=>rfl
 | some all =>
  obtain ⟨hg,hl⟩:=simpAll_good ls [] h Good.nil (by simp);dsimp only;have hc:canonC (canonC (simpCells all))=all.map (celC all):=by rw[canonC_idem,hg.cells]
  have hi:=hg.ids;rw[List.pairwise_map] at hi;refine check_ok (by rw[hg.cells]; simpa using hl) ?_ ?_ ?_ ?_ <;> rw[hc]
  ·intro x hx;obtain ⟨s,_,rfl⟩:=List.mem_map.1 hx;show 0<ixC all s;unfold ixC;omega
  ·exact hi
  ·intro x hx;obtain ⟨s,hs,rfl⟩:=List.mem_map.1 hx;exact hg.formOk hs
  ·intro x hx hd;obtain ⟨s,hs,rfl⟩:=List.mem_map.1 hx;refine hg.aroundOk hs ?_;have:(s.length:Int) - 1>1:=hd;omega
open Go.ChangeShapes Go.WideShapes Go.ChangeAt Go.RowKit
set_option maxRecDepth 100000
section
variable {H:Type}{enc:TypeId×Value→H}{W:World}{base:Nat}{spare:Nat→Bool}{hd:Bool}
theorem Tryz.bytes3:Tryz.prog.bytesOf 3=8:=by kernel_rfl
theorem lits_length (k:IntKind)(zs:List Int):(lits (H:=H) k zs).length=zs.length:=by simp[lits]
theorem ints_le {fuel:Nat}{v:Value}{x:DataW H×List MemPlace}(h:DataW.trod enc Tryz.prog W base spare hd fuel 22 [v]=some x)(hw:∀ n∈x.1.weights Tryz.prog 22,n≤reachBytes) :
  ∃ (l:List Int) (r:Sv),v = .slice r.p r.n r.c∧Ints (held W) v l∧l.length<17592186044416:=by
 obtain ⟨l,r,hv,hi⟩:=ints_of h;refine⟨l,r,hv,hi,?_⟩;subst hv;have hn:=(SlA.cap hi).1
 rcases open_ints uT22 uT3 cells3 h with ⟨hcs,_⟩ | ⟨a,len,cap,zs,hcs,_,hl,_,hz,rfl,_⟩
 ·simp at hcs;omega
 ·simp at hcs;have hlz:len≤zs.length:=by rw[hz]; split <;> omega
  have h1:=hw ((zs.take len).length * 8+(zs.drop len).length * 8) (by
   simp only[DataW.weights,uT22,bytes3,lits_length];rw[← Nat.add_mul];exact List.mem_cons_self)
  rw[List.length_take,List.length_drop] at h1;unfold reachBytes at h1;omega
theorem weightsAll_mem {P:Program}{e:TypeId}{n:Nat}{d:DataW H}:∀ {l:List (DataW H)},d∈l→n∈d.weights P e→n∈DataW.weightsAll P e l
 | [],h,_=>by simp at h
 | x::l,h,hn=>by
  unfold DataW.weightsAll
  rcases List.mem_cons.1 h with rfl | h
  ·exact List.mem_append.2 (.inl hn)
  ·exact List.mem_append.2 (.inr (weightsAll_mem h hn))
theorem lists_le {fuel:Nat}{v:Value}{x:DataW H×List MemPlace}(h:DataW.trod enc Tryz.prog W base spare hd fuel 108 [v]=some x)(hw:∀ n∈x.1.weights Tryz.prog 108,n≤reachBytes) :
  ∃ ls,Lists (held W) v ls∧∀ l∈ls,l.length<17592186044416:=by
 rcases Go.Deep.open_slice1 uT108 cells22 h with ⟨hcs,_⟩ | ⟨a,len,cap,m,n,V,D,Pl,hcs,_,hl,_,hmm,hx0,hx⟩
 ·simp at hcs;subst hcs;exact⟨[],⟨[],Sl.nil _ _,trivial⟩,by simp⟩
 ·obtain ⟨ls,hls⟩:=lists_of h;refine⟨ls,hls,fun l hlm=>?_⟩;simp at hcs;subst hcs;have hlm':len≤m:=by rw[hmm]; split <;> omega
  obtain ⟨rs,hrs,hall⟩:=hls;have hrl:=(SlA.cap hrs).1;have hal:=hall.length;obtain ⟨i,hi,rfl⟩:=List.getElem_of_mem hlm;have hir:i<rs.length:=oM;have hR:=hall.get (gE hi) (gE hir);obtain ⟨hc,ht⟩:=hx i oM;have hVi:V i = .slice rs[i].p rs[i].n rs[i].c:=by
   obtain ⟨p,c,he,⟨hlen,_⟩,hb⟩:=hrs;injection he with e1 e2 e3
   subst e1;have hne:rs.flatMap encSv.enc≠[]:=fun e0=>by
    have:=congrArg List.length e0;rw[encSv.length] at this;simp at this;rw[this] at hir;simp at hir
   obtain ⟨b,o,cs,T,fr,hp,hg,hcell⟩:=hb hne;injection hp with hp
   subst hp;have hg1:=encSv.get (gE hir) (j:=0) (v:=.slice rs[i].p rs[i].n rs[i].c) rfl;have h2:=hcell (i * 1+0) _ hg1;have hadd:(⟨b,o,none⟩:Addr).add i=⟨b,o+i,none⟩:=by unfold Addr.add; split <;> simp_all
   rw[hadd] at hc;have hheap:W.heap[b]?=some (.cells cs T fr):=hg;unfold World.cell? at hc;simp only[hheap] at hc;simp at hc h2;rw[hc] at h2;injection h2
  have hw2:∀ n∈(D i).weights Tryz.prog 22,n≤reachBytes:=fun q hq=>hw q (by
   rw[hx0];simp only[DataW.weights,uT108];exact List.mem_cons_of_mem _ (List.mem_append.2 (.inl (weightsAll_mem (List.mem_map.2 ⟨i,List.mem_range.2 oM,I⟩) hq))))
  obtain ⟨l2,r2,e2,hI2,hlt⟩:=ints_le ht hw2;rw[hVi] at e2 hI2;have h3:=(SlA.cap hI2).1;have h4:=(SlA.cap (show SlA encInt (held W) (.slice rs[i].p rs[i].n rs[i].c) ls[i] from hR)).1;omega
end
inductive Cn (E:Int→Int→Prop):Int→Int→Prop
 | refl (a:Int):Cn E a a
 | step {a b c:Int} (h:E a b∨E b a) (r:Cn E b c):Cn E a c
theorem Cn.trans {E:Int→Int→Prop}{a b c:Int}(h:Cn E a b)(k:Cn E b c):Cn E a c:=by
 induction h with
 | refl _=>exact k
 | step h _ ih=>exact .step h (ih k)
theorem Cn.one {E:Int→Int→Prop}{a b:Int}(h:E a b):Cn E a b:=.step (.inl h) (.refl b)
theorem Cn.symm {E:Int→Int→Prop}{a b:Int}(h:Cn E a b):Cn E b a:=by
 induction h with
 | refl _=>exact .refl _
 | step h _ ih=>exact ih.trans (.step h.symm (.refl _))
theorem Cn.mono {E E':Int→Int→Prop}(h:∀ a b,E a b→Cn E' a b){a b:Int}(hc:Cn E a b):Cn E' a b:=by
 induction hc with
 | refl _=>exact .refl _
 | step e _ ih =>
  rcases e with e | e
  ·exact (h _ _ e).trans ih
  ·exact (h _ _ e).symm.trans ih
theorem Cn.iso {E:Int→Int→Prop}{a b:Int}(h:∀ b,¬ E a b∧¬ E b a)(hc:Cn E a b):a=b:=by
 cases hc with
 | refl _=>rfl
 | step e _ =>
  rcases e with e | e
  ·exact absurd e (h _).1
  ·exact absurd e (h _).2
theorem Cn.add {E E':Int→Int→Prop}{x y:Int}(h:∀ a b,E' a b↔E a b∨(a=x∧b=y))(a b:Int):Cn E' a b↔Cn E a b∨(Cn E a x∧Cn E y b)∨(Cn E a y∧Cn E x b):=by
 have hxy:Cn E' x y:=.one ((h x y).2 (.inr ⟨rfl,rfl⟩));have hm:∀ {a b:Int},Cn E a b→Cn E' a b:=fun hc=>hc.mono fun a b e=>.one ((h a b).2 (.inl e));constructor
 ·intro hc;induction hc with
  | refl _=>exact .inl (.refl _)
  | step e _ ih =>
   have key:∀ {p q r:Int},Cn E p q→(Cn E q r∨(Cn E q x∧Cn E y r)∨(Cn E q y∧Cn E x r))→Cn E p r∨(Cn E p x∧Cn E y r)∨(Cn E p y∧Cn E x r):=by
    rintro p q r h1 (h2 | ⟨h2,h3⟩ | ⟨h2,h3⟩)
    ·exact .inl (h1.trans h2)
    ·exact .inr (.inl ⟨h1.trans h2,h3⟩)
    ·exact .inr (.inr ⟨h1.trans h2,h3⟩)
   rcases e with e | e
   ·rcases (h _ _).1 e with e | ⟨rfl,rfl⟩
    ·exact key (.one e) ih
    ·rcases ih with h2 | ⟨_,h3⟩ | ⟨_,h3⟩
     ·exact .inr (.inl ⟨.refl _,h2⟩)
     ·exact .inr (.inl ⟨.refl _,h3⟩)
     ·exact .inl h3
   ·rcases (h _ _).1 e with e | ⟨rfl,rfl⟩
    ·exact key (Cn.one e).symm ih
    ·rcases ih with h2 | ⟨_,h3⟩ | ⟨_,h3⟩
     ·exact .inr (.inr ⟨.refl _,h2⟩)
     ·exact .inl h3
     ·exact .inr (.inr ⟨.refl _,h3⟩)
 ·rintro (h1 | ⟨h1,h2⟩ | ⟨h1,h2⟩)
  ·exact hm h1
  ·exact (hm h1).trans (hxy.trans (hm h2))
  ·exact (hm h1).trans (hxy.symm.trans (hm h2))
def linked (ml:List (Int×List Int))(a b:Int):Prop:=∃ p∈ml,p.2.head?=some a∧b∈p.2
def RZ (e:En)(z:Int×Int):Prop:=e.id=z.1∧e.sum=z.2
def RM (e:En)(p:Int×List Int):Prop:=e.id=p.1∧e.many=p.2.length∧p.2.head?=some (e.fst:Int)
theorem wr_id {x:Int}(h : -9223372036854775808≤x∧x<9223372036854775808):wr x=x:=IntWalk.i64_in _ oM
theorem bump_z {i:Nat}{c p:Int}:∀ {es:List En} {zl:List (Int×Int)},All2 RZ es zl→(∀ e∈es,wr (e.sum+p)=e.sum+p)→wr (0+p)=p→All2 RZ (bump i c p es) (addZ zl c p)
 | [],[],_,_,hp=>⟨⟨rfl,hp⟩,trivial⟩
 | e::es,(a,z)::zl,h,hb,hp=>by
  obtain ⟨⟨h1,h2⟩,h3⟩:=h;have h1:e.id=a:=h1;have h2:e.sum=z:=h2;simp only[bump,addZ];by_cases hc:e.id=c
  ·rw[if_pos hc,if_pos (by rw[← h1,hc])];exact⟨⟨h1,by show wr (e.sum+p)=z+p; rw[hb e (by simp),h2]⟩,h3⟩
  ·rw[if_neg hc,if_neg (by rw[← h1]; exact fun e=>hc e.symm)];exact⟨⟨h1,h2⟩,bump_z h3 (fun x hx=>hb x (by simp[hx])) hp⟩
 | [],_::_,h,_,_=>h.elim
 | _::_,[],h,_,_=>h.elim
theorem bump_m {i:Nat}{c p:Int}:∀ {es:List En} {ml:List (Int×List Int)},All2 RM es ml→(∀ e∈es,wr (e.many+1)=e.many+1)→All2 RM (bump i c p es) (addL ml c i) ∧
  ∀ a b,linked (addL ml c i) a b↔linked ml a b∨(a=fstOf i c es∧b=i)
 | [],[],_,_=>by
  refine⟨⟨⟨rfl,by rfl,rfl⟩,trivial⟩,fun a b=>?_⟩;constructor
  ·rintro ⟨q,hq,h1,h2⟩;simp[addL] at hq;subst hq;simp at h1 h2;exact .inr ⟨h1.symm,h2⟩
  ·rintro (⟨q,hq,_⟩ | ⟨rfl,rfl⟩)
   ·simp at hq
   ·exact⟨(c,[(i:Int)]),by simp[addL],I,by simp⟩
 | e::es,(k,l)::ml,h,hb=>by
  obtain ⟨⟨h1,h2,h4⟩,h3⟩:=h;have h1:e.id=k:=h1;have h2:e.many=l.length:=h2;have h4:l.head?=some (e.fst:Int):=h4;simp only[bump,addL,fstOf];by_cases hc:e.id=c
  ·rw[if_pos hc,if_pos (by rw[← h1,hc]),if_pos hc];have hh:(l++[(i:Int)]).head?=some (e.fst:Int):=by
    cases l with
    | nil=>simp at h4
    | cons x r=>simpa using h4
   refine⟨⟨⟨h1,by show wr (e.many+1)=_; rw[hb e (by simp),h2]; simp,hh⟩,h3⟩,fun a b=>?_⟩;constructor
   ·rintro ⟨q,hq,h5,h6⟩
    rcases List.mem_cons.1 hq with rfl | hq
    ·dsimp only at h5 h6;rw[hh] at h5
     rcases List.mem_append.1 h6 with h6 | h6
     ·exact .inl ⟨(k,l),by simp,by rw[h4,h5],h6⟩
     ·simp at h6;injection h5 with h5
      exact .inr ⟨h5.symm,h6⟩
    ·exact .inl ⟨q,by simp[hq],h5,h6⟩
   ·rintro (⟨q,hq,h5,h6⟩ | ⟨rfl,rfl⟩)
    ·rcases List.mem_cons.1 hq with rfl | hq
     ·exact⟨(k,l++[(i:Int)]),by simp,by rw[hh,← h4,h5],by simp[h6]⟩
     ·exact⟨q,by simp[hq],h5,h6⟩
    ·exact⟨(k,l++[(i:Int)]),by simp,hh,by simp⟩
  ·rw[if_neg hc,if_neg (by rw[← h1]; exact fun e=>hc e.symm),if_neg hc];obtain ⟨i1,i2⟩:=bump_m (i:=i) (c:=c) (p:=p) h3 fun x hx=>hb x (by simp[hx]);refine⟨⟨⟨h1,h2,h4⟩,i1⟩,fun a b=>?_⟩;have e1:∀ L,linked ((k,l)::L) a b↔(l.head?=some a∧b∈l)∨linked L a b:=fun L=>by
    unfold linked;simp
   rw[e1,e1,i2,or_assoc]
 | [],_::_,h,_=>h.elim
 | _::_,[],h,_=>h.elim
structure Sd (n t k:Nat)(es:List En)(part:List Int)(zl:List (Int×Int))(ml:List (Int×List Int)):Prop where
 z:All2 RZ es zl
 m:All2 RM es ml
 bz:∀ e∈es,-(t:Int)≤e.sum∧e.sum≤t∧0≤e.many∧e.many≤t
 bf:∀ e∈es,e.fst<k
 bm:∀ p∈ml,∀ x∈p.2,0≤x∧x<k
 len:part.length=n
 bp:∀ a,a<k→0≤part.getD a 0∧part.getD a 0<k
 cn:∀ a b:Nat,a<k→b<k→(part.getD a 0=part.getD b 0↔Cn (linked ml) a b)
theorem linked_in {ml:List (Int×List Int)}{k:Nat}(h:∀ p∈ml,∀ x∈p.2,0≤x∧x<(k:Int)){a b:Int}(hl:linked ml a b):(0≤a∧a<k)∧(0≤b∧b<k):=by
 obtain ⟨p,hp,h1,h2⟩:=hl;exact⟨h p hp a (List.mem_of_head? h1),h p hp b h2⟩
theorem Sd.open {n t k:Nat}{es:List En}{part:List Int}{zl:List (Int×Int)}{ml:List (Int×List Int)}(h:Sd n t k es part zl ml)(hk:k<n):Sd n t (k+1) es (part.set k k) zl ml:=by
 have hl:=h.len;have g1:(part.set k (k:Int)).getD k 0=k:=by rw[List.getD_eq_getElem?_getD,List.getElem?_set]; simp[hl,hk]
 have g2:∀ a,a≠k→(part.set k (k:Int)).getD a 0=part.getD a 0:=fun a ha=>by
  rw[List.getD_eq_getElem?_getD,List.getD_eq_getElem?_getD,List.getElem?_set,if_neg fun e=>ha e.symm]
 have iso:∀ b,¬ linked ml k b∧¬ linked ml b k:=fun b=>⟨fun e=>by have:=linked_in h.bm e; omega,fun e=>by have:=linked_in h.bm e; omega⟩;refine⟨h.z,h.m,h.bz,fun e he=>by have:=h.bf e he; omega,fun p hp x hx=>by have:=h.bm p hp x hx; omega,by simp[hl],fun a ha=>?_,fun a b ha hb=>?_⟩
 ·by_cases e:a=k
  ·subst e; rw[g1]; omega
  ·rw[g2 a e]; have:=h.bp a oM; omega
 ·by_cases e:a=k <;> by_cases e2:b=k
  ·subst e; subst e2; exact⟨fun _=>.refl _,fun _=>rfl⟩
  ·subst e;rw[g1,g2 b e2];have:=h.bp b oM;exact⟨fun h=>by omega,fun hc=>by have:=hc.iso iso; omega⟩
  ·subst e2;rw[g1,g2 a e];have:=h.bp a oM;exact⟨fun h=>by omega,fun hc=>by have:=hc.symm.iso iso; omega⟩
  ·rw[g2 a e,g2 b e2];exact h.cn a b oM oM
theorem relabT_getD {m:Nat}{old now:Int}{p:List Int}{a:Nat}(h:a<p.length)(hm:a<m):(relabT m old now p).getD a 0=if p.getD a 0=now then old else p.getD a 0:=by
 rw[List.getD_eq_getElem?_getD,List.getD_eq_getElem?_getD];simp only[relabT,List.getElem?_mapIdx,gE h,Option.map_some,Option.getD_some,hm,true_and]
theorem fstOf_lt {i:Nat}{c:Int}{es:List En}(h:∀ e∈es,e.fst<i+1):fstOf i c es<i+1:=by
 induction es with
 | nil=>exact Nat.lt_succ_self i
 | cons e r ih =>
  unfold fstOf;split
  ·exact h e (by simp)
  ·exact ih fun x hx=>h x (by simp[hx])
theorem bump_all {P:En→Prop}{i:Nat}{c p:Int}(hn:P (En.up ⟨c,0,0,i⟩ p))(hu:∀ e,P e→P (e.up p))(ho:∀ e,P e→P e):∀ {es:List En},(∀ e∈es,P e)→∀ e∈bump i c p es,P e
 | [],_,e,he=>by simp[bump] at he; subst he; exact hn
 | x::r,h,e,he=>by
  unfold bump at he;split at he
  ·rcases List.mem_cons.1 he with rfl | he
   ·exact hu x (h x (by simp))
   ·exact h e (by simp[he])
  ·rcases List.mem_cons.1 he with rfl | he
   ·exact h e (by simp)
   ·exact bump_all hn hu ho (fun y hy=>h y (by simp[hy])) e he
theorem addL_all {P:Int→Prop}{c:Int}{i:Int}(hi:P i):∀ {ml:List (Int×List Int)},(∀ p∈ml,∀ x∈p.2,P x)→∀ p∈addL ml c i,∀ x∈p.2,P x
 | [],_,p,hp,x,hx=>by simp[addL] at hp; subst hp; simp at hx; subst hx; exact hi
 | (k,l)::r,h,p,hp,x,hx=>by
  unfold addL at hp;split at hp
  ·rcases List.mem_cons.1 hp with rfl | hp
   ·rcases List.mem_append.1 hx with hx | hx
    ·exact h (k,l) (by simp) x hx
    ·simp at hx; subst hx; exact hi
   ·exact h p (by simp[hp]) x hx
  ·rcases List.mem_cons.1 hp with rfl | hp
   ·exact h (k,l) (by simp) x hx
   ·exact addL_all hi (fun q hq=>h q (by simp[hq])) p hp x hx
theorem Sd.next {n t i:Nat}{es:List En}{part:List Int}{zl:List (Int×Int)}{ml:List (Int×List Int)}{x r:Side}(h:Sd n t (i+1) es part zl ml)(hi:i<n)(ht:t<1000000)(hx:x.sign=1∨x.sign = -1)(hr:r.sign=1∨r.sign = -1) :
  Sd n (t+1) (i+1) (stepR i x.sign (es,part) r).1 (stepR i x.sign (es,part) r).2 (stepZ x zl r) (stepL i ml r):=by
 have hp:=sign_mul hx hr;have hw:wr (x.sign * r.sign)=x.sign * r.sign:=wr_id oM;unfold stepR stepZ stepL;dsimp only;rw[hw];generalize x.sign * r.sign=p at *;have hl:=h.len;have hbm:=bump_m (i:=i) (c:=r.cell) (p:=p) h.m fun e he=>by have:=h.bz e he; exact wr_id oM
 have hf:=fstOf_lt (c:=r.cell) h.bf;refine⟨bump_z h.z (fun e he=>by have:=h.bz e he; exact wr_id oM) (by rw[Int.zero_add]; exact wr_id oM),hbm.1,?_,?_,?_,by rw[relabT_length]; exact hl,fun a ha=>?_,fun a b ha hb=>?_⟩
 ·have:∀ e∈bump i r.cell p es,(-(t:Int)≤e.sum∧e.sum≤t∧0≤e.many∧e.many≤t)∨(-((t+1:Nat):Int)≤e.sum∧e.sum≤((t+1:Nat):Int)∧0≤e.many∧e.many≤((t+1:Nat):Int)):=by
   have h0:=h.bz;clear h hbm hf hl;generalize hes:bump i r.cell p es=fs;intro e he;subst hes;induction es with
   | nil =>
    simp[bump] at he;subst he;right;simp only[En.up];rw[wr_id oM,wr_id oM];omega
   | cons y q ih =>
    unfold bump at he;split at he
    ·rcases List.mem_cons.1 he with rfl | he
     ·right;have:=h0 y (by simp);simp only[En.up];rw[wr_id oM,wr_id oM];omega
     ·exact .inl (h0 e (by simp[he]))
    ·rcases List.mem_cons.1 he with rfl | he
     ·exact .inl (h0 e (by simp))
     ·exact ih (fun z hz=>h0 z (by simp[hz])) he
  intro e he
  rcases this e he with h1 | h1 <;> omega
 ·exact bump_all (P:=fun e=>e.fst<i+1) (Nat.lt_succ_self i) (fun e he=>he) (fun e he=>he) h.bf
 ·exact addL_all (P:=fun x=>0≤x∧x<((i+1:Nat):Int)) oM h.bm
 ·rw[relabT_getD oM ha];split
  ·exact h.bp _ hf
  ·exact h.bp a ha
 ·rw[relabT_getD oM ha,relabT_getD oM hb,Cn.add (x:=(fstOf i r.cell es:Int)) (y:=(i:Int)) hbm.2 a b];rw[← h.cn a b ha hb,← h.cn a _ ha hf,← h.cn i b oM hb,← h.cn a i ha oM,← h.cn _ b hf hb];generalize part.getD a 0=pa;generalize part.getD b 0=pb;generalize part.getD i 0=pi;generalize part.getD (fstOf i r.cell es) 0=pf;by_cases h1:pa=pi <;> by_cases h2:pb=pi <;> simp[h1,h2] <;> omega
theorem Sd.inner {n i:Nat}{x:Side}(hi:i<n)(hx:x.sign=1∨x.sign = -1):∀ (l:List Side) {t:Nat} {es:List En} {part:List Int} {zl:List (Int×Int)} {ml:List (Int×List Int)},Sd n t (i+1) es part zl ml→t+l.length<1000000→(∀ r∈l,r.sign=1∨r.sign = -1) →
  Sd n (t+l.length) (i+1) (l.foldl (stepR i x.sign) (es,part)).1 (l.foldl (stepR i x.sign) (es,part)).2 (l.foldl (stepZ x) zl) (l.foldl (stepL i) ml)
 | [],_,_,_,_,_,h,_,_=>h
 | r::l,t,es,part,zl,ml,h,ht,hr=>by
  simp only[List.length_cons] at ht;have h1:=h.next (x:=x) (r:=r) hi oM hx (hr r (by simp));have:=Sd.inner hi hx l h1 oM (fun q hq=>hr q (by simp[hq]));simp only[List.foldl_cons,List.length_cons];rw[show t+(l.length+1)=t+1+l.length by omega];exact this
theorem Sd.outer {tl:List Cl}{n:Nat}:∀ (l:List Side) {t k:Nat} {es:List En} {part:List Int} {zl:List (Int×Int)} {ml:List (Int×List Int)},Sd n t k es part zl ml→k+l.length≤n→t+64 * l.length<1000000→(∀ x∈l,x.sign=1∨x.sign = -1)→(∀ x∈l,(sidesOf tl x).length≤64∧∀ r∈sidesOf tl x,r.sign=1∨r.sign = -1) →
  ∃ t',Sd n t' (k+l.length) ((l.zipIdx k).foldl (stepS tl) (es,part)).1 ((l.zipIdx k).foldl (stepS tl) (es,part)).2 (l.foldl (fun zl x=>(sidesOf tl x).foldl (stepZ x) zl) zl) ((l.zipIdx k).foldl (fun ml p=>(sidesOf tl p.1).foldl (stepL p.2) ml) ml)
 | [],t,_,_,_,_,_,h,_,_,_,_=>⟨t,h⟩
 | x::l,t,k,es,part,zl,ml,h,hk,ht,hs,hq=>by
  simp only[List.length_cons] at hk ht;have h0:=hq x (by simp);have h1:=(h.open oM).inner (x:=x) oM (hs x (by simp)) (sidesOf tl x) oM h0.2;obtain ⟨t',h2⟩:=Sd.outer l h1 oM oM (fun y hy=>hs y (by simp[hy])) (fun y hy=>hq y (by simp[hy]));refine⟨t',?_⟩;simp only[List.zipIdx_cons,List.foldl_cons,List.length_cons];rw[show k+(l.length+1)=k+1+l.length by omega];exact h2
theorem all2_anyR {α β:Type}{R:α→β→Prop}{p:α→Bool}{q:β→Bool}(h:∀ a b,R a b→p a=q b):∀ {l:List α} {m:List β},All2 R l m→l.any p=m.any q
 | [],[],_=>rfl
 | a::l,b::m,hr=>by simp only[List.any_cons,h a b hr.1,all2_anyR h hr.2]
 | [],_::_,hr=>hr.elim
 | _::_,[],hr=>hr.elim
theorem rch_cn {ml:List (Int×List Int)}(h2:∀ p∈ml,p.2.length=2)(a b:Int):Rch (adjJ (joinC ml)) a b↔Cn (linked ml) a b:=by
 have hstep:∀ x y,y∈getL (joinC ml) x→Cn (linked ml) x y:=fun x y hy=>by
  obtain ⟨p,hp,h⟩:=(mem_join ml x y).1 hy
  rcases h with h | h
  ·exact .one ⟨p,hp,by rw[h]; rfl,by rw[h]; simp⟩
  ·exact (Cn.one (E:=linked ml) ⟨p,hp,by rw[h]; rfl,by rw[h]; simp⟩).symm
 have hadj:∀ x,adjJ (joinC ml) x≠none:=fun x=>by simp[adjJ]
 constructor
 ·intro h;induction h with
  | refl _ _=>exact .refl _
  | step x y _ l hl hy _ ih =>
   simp only[adjJ,Option.some.injEq] at hl;subst hl;exact (hstep x y hy).trans ih
 ·intro h;induction h with
  | refl a=>exact .refl a (hadj a)
  | @step x y z e _ ih =>
   have key:∀ u v,linked ml u v→v=u∨v∈getL (joinC ml) u:=fun u v ⟨p,hp,h3,h4⟩=>by
    have:=h2 p hp
    match hq:p.2,this with
    | [c,d],_ =>
     rw[hq] at h3 h4;simp at h3 h4;subst h3
     rcases h4 with h4 | h4
     ·exact .inl h4
     ·exact .inr ((mem_join ml c v).2 ⟨p,hp,.inl (by rw[hq,h4])⟩)
   rcases e with e | e
   ·rcases key x y e with rfl | h5
    ·exact ih
    ·exact .step x y z _ I h5 ih
   ·rcases key y x e with rfl | h5
    ·exact ih
    ·refine .step x y z _ I ?_ ih;obtain ⟨p,hp,h6⟩:=(mem_join ml y x).1 h5;exact (mem_join ml x y).2 ⟨p,hp,h6.symm⟩
theorem nodup_nat {l:List Int}(hn:l.Nodup)(hb:∀ x∈l,0≤x):(l.map Int.toNat).Nodup:=by
 rw[List.Nodup,List.pairwise_map];refine List.Pairwise.imp_of_mem ?_ hn;intro a b ha hb' hne e;have:=hb a ha;have:=hb b hb';omega
theorem nodup_leI {l:List Int}{n:Nat}(hn:l.Nodup)(hb:∀ x∈l,0≤x∧x<(n:Int)):l.length≤n:=by
 have h1:=nodup_nat hn fun x hx=>(hb x hx).1;have:=length_le_of_nodup (l:=List.range n) h1 List.nodup_range fun x hx=>by
  obtain ⟨y,hy,rfl⟩:=List.mem_map.1 hx;have:=hb y hy;exact List.mem_range.2 oM
 simpa using this
theorem second_around {tl:List Cl}{c:Cl}(hok:AOk tl c)(h0:0<c.sides.length):secondC tl c=aroundC tl c:=by
 obtain ⟨h64,hs,hq⟩:=hok;have start:Sd c.sides.length 0 0 [] (List.replicate c.sides.length 0) [] []:=⟨trivial,trivial,by simp,by simp,by simp,by simp,by simp,fun a b ha=>by omega⟩;obtain ⟨t,hd⟩:=start.outer c.sides (tl:=tl) oM oM hs hq;have e1:((c.sides.zipIdx 0).foldl (stepS tl) ([],List.replicate c.sides.length 0))=secSt tl c.sides c.sides.length:=rfl;rw[e1] at hd;have hz:All2 RZ (secSt tl c.sides c.sides.length).1 (sumsC tl c.sides):=hd.z;have hm:All2 RM (secSt tl c.sides c.sides.length).1 (metC tl c.sides):=hd.m;unfold secondC aroundC;rw[all2_anyR (p:=fun e=>decide (e.sum≠0)) (q:=fun p:Int×Int=>decide (p.2≠0)) (fun a b h=>by rw[h.2]) hz];rw[all2_anyR (p:=fun e=>decide (e.many≠2)) (q:=fun p:Int×List Int=>decide ((p.2.length:Int)≠2)) (fun a b h=>by rw[h.2.1]) hm];split
 ·rfl
 ·split
  ·rfl
  ·rename_i hno;have h2:∀ p∈metC tl c.sides,p.2.length=2:=fun p hp=>by
    have:=List.any_eq_false.1 ((Bool.not_eq_true _).mp hno) p hp;simp at this;omega
   have hbm:∀ p∈metC tl c.sides,∀ x∈p.2,0≤x∧x<((0+c.sides.length:Nat):Int):=hd.bm;rw[Nat.zero_add] at hbm;have hcn:∀ a b:Nat,a<c.sides.length→b<c.sides.length→((secSt tl c.sides c.sides.length).2.getD a 0=(secSt tl c.sides c.sides.length).2.getD b 0↔Rch (adjJ (joinC (metC tl c.sides))) a b):=fun a b ha hb=>by
    rw[rch_cn h2];exact hd.cn a b oM oM
   have hln:=hd.len;have hmem:∀ x:Int,x∈seenC (joinC (metC tl c.sides))↔Rch (adjJ (joinC (metC tl c.sides))) 0 x:=fun x=>mem_dfs (cnt:=cntK (joinC (metC tl c.sides))) (fun v v' h=>cntK_mono h) (cntK_strict _) (Nat.lt_succ_of_le (List.length_filter_le _ _)) (by simp[adjJ]) x;have hnd:(seenC (joinC (metC tl c.sides))).Nodup:=dfs_nodup _ _ _ _ (by simp);have hin:∀ x∈seenC (joinC (metC tl c.sides)),0≤x∧x<(c.sides.length:Int):=fun x hx=>by
    have hr:=(rch_cn h2 0 x).1 ((hmem x).1 hx);have:∀ a b,Cn (linked (metC tl c.sides)) a b→(0≤a∧a<(c.sides.length:Int))→(0≤b∧b<(c.sides.length:Int)):=by
     intro a b h;induction h with
     | refl _=>exact fun h=>h
     | step e _ ih =>
      intro _
      rcases e with e | e
      ·exact ih (linked_in hbm e).2
      ·exact ih (linked_in hbm e).1
    exact this 0 x hr oM
   generalize (secSt tl c.sides c.sides.length).2=part at *;generalize seenC (joinC (metC tl c.sides))=seen at *;by_cases hall:∀ a,a<c.sides.length→part.getD a 0=part.getD 0 0
   ·have hf:part.any (fun x=>decide (x≠part.getD 0 0))=false:=by
     rw[List.any_eq_false];intro x hx;obtain ⟨i,hi,rfl⟩:=List.getElem_of_mem hx;have:=hall i oM;rw[List.getD_eq_getElem?_getD,gE hi] at this;simpa using this
    have hlen:seen.length=c.sides.length:=by
     refine Nat.le_antisymm (nodup_leI hnd hin) ?_;have h3:=length_le_of_nodup (m:=List.range c.sides.length) (l:=seen.map Int.toNat) List.nodup_range (nodup_nat hnd fun x hx=>(hin x hx).1) fun i hi=>by
      have hi:=List.mem_range.1 hi;exact List.mem_map.2 ⟨(i:Int),(hmem i).2 ((hcn 0 i h0 hi).1 (hall i hi).symm),by simp⟩
     simpa using h3
    rw[hf,hlen];simp
   ·have ht:part.any (fun x=>decide (x≠part.getD 0 0))=true:=by
     simp only[Classical.not_forall] at hall;obtain ⟨a,ha,hne⟩:=hall;rw[List.any_eq_true];refine⟨part.getD a 0,?_,by simpa using hne⟩;rw[List.getD_eq_getElem?_getD,gE oM];exact gM _
    have hlen:(seen.length:Int)≠c.sides.length:=by
     simp only[Classical.not_forall] at hall;obtain ⟨a,ha,hne⟩:=hall;have hna:(a:Int) ∉ seen:=fun h=>hne ((hcn 0 a h0 ha).2 ((hmem a).1 h)).symm;have:=nodup_leI (l:=(a:Int)::seen) (n:=c.sides.length) (List.nodup_cons.2 ⟨hna,hnd⟩) fun x hx=>by
      rcases List.mem_cons.1 hx with rfl | hx
      ·omega
      ·exact hin x hx
     simp at this;omega
    rw[ht,if_pos rfl,if_pos hlen]
theorem chk1_none_form {tl:List Cl}:∀ {l:List Cl} {n:Int},chk1 tl l n=none→l.Pairwise (fun a b=>a.id<b.id)∧(∀ x∈l,n<x.id)∧∀ x∈l,formC tl x=0
 | [],_,_=>⟨List.Pairwise.nil,by simp,by simp⟩
 | x::r,n,h=>by
  unfold chk1 at h;split at h
  ·cases h
  ·rename_i hid;split at h
   ·cases h
   ·rename_i hf;obtain ⟨h1,h2,h3⟩:=chk1_none_form h;refine⟨List.pairwise_cons.2 ⟨h2,h1⟩,fun y hy=>?_,fun y hy=>?_⟩
    ·rcases List.mem_cons.1 hy with rfl | hy
     ·omega
     ·have:=h2 y hy; omega
    ·rcases List.mem_cons.1 hy with rfl | hy
     ·exact Decidable.of_not_not hf
     ·exact h3 y hy
theorem refCheckC_eq (l:List Cl):refCheckC l=checkC l:=by
 unfold refCheckC checkC;split
 ·rfl
 ·cases h:chk1 (tabC l) (canonC l) 0 with
  | some p=>rfl
  | none =>
   obtain ⟨h1,_,h3⟩:=chk1_none_form h;have ht:=tabC_strict h1;have key:∀ m:List Cl,(∀ x∈m,x∈canonC l)→chkR2 (canonC l) m=chk2 (tabC l) m:=by
    intro m;induction m with
    | nil=>intro _; rfl
    | cons x r ih =>
     intro hm;have hx:=hm x (by simp);unfold chkR2 chk2;rw[ih fun y hy=>hm y (by simp[hy])];by_cases hd:x.dim>1
     ·have hok:=aok_of h3 hx;have hn:0<x.sides.length:=by
       have hf:=h3 x hx;unfold formC at hf;split at hf
       ·cases hf
       ·split at hf
        ·cases hf
        ·rename_i hc;simp[cntBad] at hc;have:=hc.2 hd;omega
      rw[ht] at hok ⊢;rw[second_around hok hn]
     ·simp[hd]
   rw[key _ fun x hx=>hx]
set_option maxRecDepth 10000
theorem check_ne {l:List Cl}(h:(checkC l).2=0):chk1 (tabC l) (canonC l) 0=none:=by
 unfold checkC at h;split at h
 ·simp at h
 ·cases h1:chk1 (tabC l) (canonC l) 0 with
  | none=>rfl
  | some p=>rw[h1] at h; exact absurd h (chk1_ne h1)
theorem prod_ref (a b:List Cl):refProdC a b=prodC a b:=by
 have hb:refProdBad a b=prodBad a b:=by
  unfold refProdBad prodBad;rw[refCheckC_eq,refCheckC_eq];by_cases h1:(checkC a).2=0
  ·by_cases h2:(checkC b).2=0
   ·rw[tabC_strict (chk1_none_form (check_ne h1)).1,tabC_strict (chk1_none_form (check_ne h2)).1,canonC_length,canonC_length]
   ·simp[h2]
  ·simp[h1]
 unfold refProdC prodC;rw[hb,refCheckC_eq]
def two (k q:Nat):Nat:=100+if q<k then q * 16+k else k * 16+(q+1)
def cd (A B:Nat):Int:=((A * 1000+B:Nat):Int)
def rg (n:Nat):List Nat:=if n≤1 then [] else (List.range n).reverse
def patL (n m k:Nat):List Side:=((rg (n - 1)).map fun q=>⟨cd (two k q) 0,signC q⟩)++(rg m).map fun j=>⟨cd (1+k) (1+j),signC ((n:Int) - 2) * signC j⟩
def patR (n m j:Nat):List Side:=((rg n).map fun k=>⟨cd (1+k) (1+j),signC k⟩)++(rg (m - 1)).map fun q=>⟨cd 0 (two j q),signC ((n:Int) - 1) * signC q⟩
def patP (n m:Nat):List (Int×List Side):=((rg n).map fun k:Nat=>(signC k,patL n m k))++(rg m).map fun j:Nat=>(signC ((n:Int) - 1) * signC j,patR n m j)
theorem patP_ok:∀ n,n<4→0<n→∀ m,m<4→0<m→3<n+m→aroundL (patP n m)=0:=by decide +kernel
def er (s:List Int)(A:Nat):List Int:=if A=0 then s else if A<100 then s.eraseIdx (A - 1) else (s.eraseIdx ((A - 100) % 16)).eraseIdx ((A - 100) / 16)
def Num (n A:Nat):Prop:=A=0∨(2≤n∧∃ k,k<n∧A=1+k)∨(3≤n∧∃ a b,a<b∧b<n∧A=100+(a * 16+b))
theorem er_one {s:List Int}{k:Nat}(h:k<90):er s (1+k)=s.eraseIdx k:=by
 unfold er;rw[if_neg oM,if_pos oM,show 1+k - 1=k by omega]
theorem er_two {s:List Int}{a b:Nat}(h:b<16):er s (100+(a * 16+b))=(s.eraseIdx b).eraseIdx a:=by
 unfold er;rw[if_neg oM,if_neg oM,show (100+(a * 16+b) - 100) % 16=b by omega,show (100+(a * 16+b) - 100) / 16=a by omega]
theorem er_two_kq {s:List Int}{n k q:Nat}(hn:n≤9)(hk:k<n)(hq:q<n - 1):er s (two k q)=(s.eraseIdx k).eraseIdx q:=by
 unfold two;by_cases h:q<k
 ·rw[if_pos h,er_two oM]
 ·rw[if_neg h,er_two oM];exact (erase_comm s oM).symm
theorem num_two {n k q:Nat}(h3:3≤n)(hk:k<n)(hq:q<n - 1):Num n (two k q):=by
 unfold two;by_cases h:q<k
 ·rw[if_pos h]; exact .inr (.inr ⟨h3,q,k,h,hk,rfl⟩)
 ·rw[if_neg h]; exact .inr (.inr ⟨h3,k,q+1,oM,oM,rfl⟩)
theorem er_len {s:List Int}(h9:s.length≤9){A:Nat}(h:Num s.length A):(er s A).length=if A=0 then s.length else if A<100 then s.length - 1 else s.length - 2:=by
 rcases h with rfl | ⟨_,k,hk,rfl⟩ | ⟨_,a,b,hab,hb,rfl⟩
 ·rfl
 ·rw[er_one oM,List.length_eraseIdx,if_pos hk,if_neg oM,if_pos oM]
 ·rw[er_two oM,List.length_eraseIdx,List.length_eraseIdx,if_pos hb,if_pos oM,if_neg oM,if_neg oM];omega
theorem er_inj {s:List Int}(hs:StrictI s)(h9:s.length≤9){A B:Nat}(hA:Num s.length A)(hB:Num s.length B)(h:er s A=er s B):A=B:=by
 have hl:=congrArg List.length h;rw[er_len h9 hA,er_len h9 hB] at hl;have hnd:s.Nodup:=hs.imp fun h=>by omega
 rcases hA with rfl | ⟨h2,k,hk,rfl⟩ | ⟨h3,a,b,hab,hb,rfl⟩ <;> rcases hB with rfl | ⟨h2',k',hk',rfl⟩ | ⟨h3',c,d,hcd,hd,rfl⟩
 ·rfl
 ·rw[if_pos rfl,if_neg oM,if_pos oM] at hl; omega
 ·rw[if_pos rfl,if_neg oM,if_neg oM] at hl; omega
 ·rw[if_neg oM,if_pos oM,if_pos rfl] at hl; omega
 ·rw[er_one oM,er_one oM] at h
  rcases Nat.lt_trichotomy k k' with h1 | h1 | h1
  ·have:=erase_lt hs h1 hk';rw[h,compareC_self] at this;exact absurd this dC
  ·omega
  ·have:=erase_lt hs h1 hk;rw[h,compareC_self] at this;exact absurd this dC
 ·rw[if_neg oM,if_pos oM,if_neg oM,if_neg oM] at hl; omega
 ·rw[if_neg oM,if_neg oM,if_pos rfl] at hl; omega
 ·rw[if_neg oM,if_neg oM,if_neg oM,if_pos oM] at hl; omega
 ·rw[er_two oM,er_two oM] at h;obtain ⟨rfl,rfl⟩:=erase2_inj hnd hab hb hcd hd h;rfl
theorem Good.er {all:List (List Int)}(hg:Good all){s:List Int}(hs:s∈all){A:Nat}(h:Num s.length A):er s A∈all:=by
 have h9:=(hg.form s hs).2.2
 rcases h with rfl | ⟨h2,k,hk,rfl⟩ | ⟨h3,a,b,hab,hb,rfl⟩
 ·exact hs
 ·rw[er_one oM]; exact (hg.face hs hk h2).1
 ·rw[er_two oM];have h1:=hg.face hs (k:=b) hb oM;exact (hg.face h1.1 (k:=a) (by rw[h1.2]; omega) (by rw[h1.2]; omega)).1
theorem facesC_rg (all:List (List Int))(s:List Int):facesC all s=(rg s.length).map fun k:Nat=>⟨ixC all (s.eraseIdx k),signC k⟩:=by
 unfold facesC rg;split <;> rfl
def pid (A B:List (List Int))(s t:List Int):Int:=((lbL A s * B.length+lbL B t:Nat):Int)+1
def pfaces (A B:List (List Int))(s t:List Int):List Side:=((rg s.length).map fun k:Nat=>⟨pid A B (s.eraseIdx k) t,signC k⟩)++(rg t.length).map fun j:Nat=>⟨pid A B s (t.eraseIdx j),signC ((s.length:Int) - 1) * signC j⟩
def pcel (A B:List (List Int))(s t:List Int):Cl:=⟨pid A B s t,(s.length:Int) - 1+((t.length:Int) - 1),pfaces A B s t⟩
theorem mem_rg {n k:Nat}(h:k∈rg n):k<n∧2≤n:=by
 unfold rg at h;split at h
 ·simp at h
 ·exact⟨by simpa using h,oM⟩
section
variable {A:List (List Int)}(hA:Good A)
include hA
theorem Good.canon:canonC (A.map (celC A))=A.map (celC A):=by
 rw[← hA.cells,canonC_idem]
theorem Good.tab:tabC (A.map (celC A))=A.map (celC A):=by
 have:=hA.canon;have hi:=hA.ids;rw[List.pairwise_map] at hi;rw[tabC_strict (by rw[this]; exact hi),this]
theorem Good.lbI {s:List Int}(hs:s∈A):lbI ((A.map (celC A)).map Cl.id) (ixC A s)=lbL A s:=by
 have h1:=hA.get_lb hs;obtain ⟨h2,h3⟩:=List.getElem?_eq_some_iff.1 h1;have h4:lbL A s<((A.map (celC A)).map Cl.id).length:=by simpa using h2
 have h5:((A.map (celC A)).map Cl.id)[lbL A s]=ixC A s:=by simp[h3,celC]
 rw[← h5];exact lbI_self h4 hA.ids
end
theorem pair_inj {N i k i' k':Nat}(hk:k<N)(hk':k'<N)(h:i * N+k=i' * N+k'):i=i'∧k=k':=by
 have e:∀ {i k:Nat},k<N→(i * N+k) / N=i:=fun {i k} hk=>by rw[Nat.add_comm,Nat.add_mul_div_right _ _ oM,Nat.div_eq_of_lt hk,Nat.zero_add]
 have h1:=e (i:=i) hk;rw[h,e hk'] at h1;subst h1;exact⟨I,oM⟩
theorem pair_lt {N i k i' k':Nat}(hk:k<N)(h:i<i'):i * N+k<i' * N+k':=by
 have:(i+1) * N≤i' * N:=Nat.mul_le_mul_right N h;rw[Nat.succ_mul] at this;omega
theorem form_of {tl:List Cl}{c:Cl}(h1:0≤c.dim∧c.dim≤8)(h2:cntBad c=false)(h3:∀ x∈c.sides,∃ d,findT tl x.cell=some d∧d.dim=c.dim - 1)(h4:c.sides.Pairwise fun a b=>a.cell<b.cell)(h5:∀ x∈c.sides,x.sign=1∨x.sign = -1)(h6:c.dim=1→sumS c.sides=0):formC tl c=0:=by
 have e1:dimBad c=false:=by unfold dimBad; simp; omega
 have e3:(List.range c.sides.length).any (badAt tl c)=false:=by
  rw[List.any_eq_false];intro i hi;have hi:=List.mem_range.1 hi;obtain ⟨d,hd1,hd2⟩:=h3 _ (gM hi);unfold badAt;rw[gE hi];show ¬ badSide _ _ i c.sides[i]=true;unfold badSide;rw[hd1];simp only[Option.isSome_some,Bool.not_true,Bool.false_or,Option.getD_some,hd2,ne_eq,not_true_eq_false,decide_false];by_cases hi0:i>0
  ·have hlt:=List.pairwise_iff_getElem.1 h4 (i - 1) i oM hi oM;rw[gE oM];simp;omega
  ·simp[hi0]
 have e4:c.sides.any signBad=false:=by
  rw[List.any_eq_false];intro x hx
  rcases h5 x hx with h | h <;> simp[signBad,h]
 have e5:(decide (c.dim=1)&&decide (sumS c.sides≠0))=false:=by
  by_cases hd:c.dim=1
  ·rw[h6 hd]; simp
  ·simp[hd]
 unfold formC;rw[e1,h2,e3,e4,e5];rfl
theorem rg_pair (n:Nat):(rg n).Pairwise fun a b=>b<a:=by
 unfold rg;split
 ·exact List.Pairwise.nil
 ·rw[List.pairwise_reverse];exact List.pairwise_lt_range
theorem rg_length (n:Nat):(rg n).length=if n≤1 then 0 else n:=by
 unfold rg;split <;> simp
section
variable {A B:List (List Int)}(hA:Good A)(hB:Good B)
include hA hB
omit hA in
theorem lb_lt {t:List Int}(ht:t∈B):lbL B t<B.length:=(List.getElem?_eq_some_iff.1 (hB.get_lb ht)).1
theorem pid_inj {s u t v:List Int}(hs:s∈A)(hu:u∈A)(ht:t∈B)(hv:v∈B)(h:pid A B s t=pid A B u v):s=u∧t=v:=by
 obtain ⟨h1,h2⟩:=pair_inj (lb_lt hB ht) (lb_lt hB hv) (show lbL A s * B.length+lbL B t=lbL A u * B.length+lbL B v by unfold pid at h; omega);exact⟨hA.inj hs hu (by unfold ixC; omega),hB.inj ht hv (by unfold ixC; omega)⟩
theorem pid_ltA {s u t v:List Int}(hs:s∈A)(hu:u∈A)(ht:t∈B)(h:compareC s u<0):pid A B s t<pid A B u v:=by
 have h1:=hA.lt hs hu h;have h2:=pair_lt (k':=lbL B v) (lb_lt hB ht) (show lbL A s<lbL A u by unfold ixC at h1; omega);unfold pid;omega
omit hA in
theorem pid_ltB {s t v:List Int}(ht:t∈B)(hv:v∈B)(h:compareC t v<0):pid A B s t<pid A B s v:=by
 have h1:=hB.lt ht hv h;unfold pid;unfold ixC at h1;omega
theorem prodAll_good:prodAll (A.map (celC A)) (B.map (celC B))=A.flatMap fun s=>B.map (pcel A B s):=by
 unfold prodAll;rw[hA.canon,hB.canon,hA.tab,hB.tab,List.flatMap_map];rw[List.flatMap_def,List.flatMap_def];congr 1;refine List.map_congr_left fun s hs=>?_;rw[List.map_map];refine List.map_congr_left fun t ht=>?_;have hid:∀ {u v:List Int},u∈A→v∈B→prodId (A.map (celC A)) (B.map (celC B)) (ixC A u) (ixC B v)=pid A B u v:=fun {u v} hu hv=>by
  unfold prodId pid;rw[hA.lbI hu,hB.lbI hv,List.length_map];omega
 show prodCell _ _ (celC A s) (celC B t)=pcel A B s t;unfold prodCell pcel pfaces;congr 1
 ·exact hid hs ht
 ·show (facesC A s).map _++(facesC B t).map _=_;rw[facesC_rg,facesC_rg,List.map_map,List.map_map];congr 1
  ·refine List.map_congr_left fun k hk=>?_;have:=mem_rg hk;have hf:=hA.face hs this.1 this.2;show (⟨prodId _ _ (ixC A (s.eraseIdx k)) (ixC B t),signC k⟩:Side)=_;rw[hid hf.1 ht]
  ·refine List.map_congr_left fun k hk=>?_;have:=mem_rg hk;have hf:=hB.face ht this.1 this.2;show (⟨prodId _ _ (ixC A s) (ixC B (t.eraseIdx k)),signC ((s.length:Int) - 1) * signC k⟩:Side)=_;rw[hid hs hf.1]
theorem pids:(A.flatMap fun s=>B.map (pcel A B s)).Pairwise fun a b=>a.id<b.id:=by
 rw[List.pairwise_flatMap];refine⟨fun s hs=>?_,List.Pairwise.imp_of_mem ?_ hA.strict⟩
 ·rw[List.pairwise_map];refine List.Pairwise.imp_of_mem ?_ hB.strict;intro t v ht hv h;exact pid_ltB hB ht hv h
 ·intro s u hs hu h x hx y hy;obtain ⟨t,ht,rfl⟩:=List.mem_map.1 hx;obtain ⟨v,hv,rfl⟩:=List.mem_map.1 hy;exact pid_ltA hA hB hs hu ht h
theorem pfind {s t:List Int}(hs:s∈A)(ht:t∈B):findT (A.flatMap fun s=>B.map (pcel A B s)) (pid A B s t)=some (pcel A B s t):=by
 refine find_mem (x:=pcel A B s t) ?_ (List.mem_flatMap.2 ⟨s,hs,List.mem_map.2 ⟨t,ht,I⟩⟩);rw[List.Nodup,List.pairwise_map];exact (pids hA hB).imp fun h=>by omega
theorem psorted {s t:List Int}(hs:s∈A)(ht:t∈B):(pfaces A B s t).Pairwise fun a b=>a.cell<b.cell:=by
 unfold pfaces;rw[List.pairwise_append];refine⟨?_,?_,?_⟩
 ·rw[List.pairwise_map];refine List.Pairwise.imp_of_mem ?_ (rg_pair s.length);intro i j hi hj hij;have h1:=mem_rg hi;have h2:=mem_rg hj;exact pid_ltA hA hB (hA.face hs h1.1 h1.2).1 (hA.face hs h2.1 h2.2).1 ht (erase_lt (hA.form s hs).2.1 hij h1.1)
 ·rw[List.pairwise_map];refine List.Pairwise.imp_of_mem ?_ (rg_pair t.length);intro i j hi hj hij;have h1:=mem_rg hi;have h2:=mem_rg hj;exact pid_ltB hB (hB.face ht h1.1 h1.2).1 (hB.face ht h2.1 h2.2).1 (erase_lt (hB.form t ht).2.1 hij h1.1)
 ·intro x hx y hy;obtain ⟨k,hk,rfl⟩:=List.mem_map.1 hx;obtain ⟨j,hj,rfl⟩:=List.mem_map.1 hy;have h1:=mem_rg hk;have hf:=hA.face hs h1.1 h1.2;refine pid_ltA hA hB hf.1 hs ht ?_;have:=compareC_len (a:=s.eraseIdx k) (b:=s) (by rw[hf.2]; omega);rw[hf.2] at this;simpa using this.trans (decide_eq_true oM)
end
theorem sign_prod (a b:Int):signC a * signC b=1∨signC a * signC b = -1:=sign_mul (signC_cases a) (signC_cases b)
def phiP (A B:List (List Int))(s t:List Int)(c:Int):Int:=pid A B (er s (c / 1000).toNat) (er t (c % 1000).toNat)
theorem phiP_cd {A B:List (List Int)}{s t:List Int}{a b:Nat}(h:b<1000):phiP A B s t (cd a b)=pid A B (er s a) (er t b):=by
 unfold phiP cd;rw[show (((a * 1000+b:Nat):Int) / 1000).toNat=a by omega,show (((a * 1000+b:Nat):Int) % 1000).toNat=b by omega]
theorem num_lt {n A:Nat}(h9:n≤9)(h:Num n A):A<1000:=by
 rcases h with rfl | ⟨_,k,hk,rfl⟩ | ⟨_,a,b,hab,hb,rfl⟩ <;> omega
theorem num_one {n k:Nat}(h2:2≤n)(hk:k<n):Num n (1+k):=.inr (.inl ⟨h2,k,hk,rfl⟩)
theorem pat_key {n m:Nat}{x:Int}(hx:x∈keyL (patP n m)):∃ a b,Num n a∧Num m b∧x=cd a b:=by
 obtain ⟨p,hp,hx⟩:=List.mem_flatMap.1 hx;obtain ⟨r,hr,rfl⟩:=List.mem_map.1 hx
 rcases List.mem_append.1 hp with hp | hp
 ·obtain ⟨k,hk,rfl⟩:=List.mem_map.1 hp;have h1:=mem_rg hk
  rcases List.mem_append.1 hr with hr | hr
  ·obtain ⟨q,hq,rfl⟩:=List.mem_map.1 hr;have h2:=mem_rg hq;exact⟨_,0,num_two oM h1.1 h2.1,.inl I,I⟩
  ·obtain ⟨j,hj,rfl⟩:=List.mem_map.1 hr;have h2:=mem_rg hj;exact⟨_,_,num_one h1.2 h1.1,num_one h2.2 h2.1,I⟩
 ·obtain ⟨j,hj,rfl⟩:=List.mem_map.1 hp;have h1:=mem_rg hj
  rcases List.mem_append.1 hr with hr | hr
  ·obtain ⟨k,hk,rfl⟩:=List.mem_map.1 hr;have h2:=mem_rg hk;exact⟨_,_,num_one h2.2 h2.1,num_one h1.2 h1.1,I⟩
  ·obtain ⟨q,hq,rfl⟩:=List.mem_map.1 hr;have h2:=mem_rg hq;exact⟨0,_,.inl I,num_two oM h1.1 h2.1,I⟩
section
variable {A B:List (List Int)}(hA:Good A)(hB:Good B)
include hA hB
theorem plook {s t:List Int}(hs:s∈A)(ht:t∈B):lookL (A.flatMap fun s=>B.map (pcel A B s)) (pcel A B s t)=renL (phiP A B s t) (patP s.length t.length):=by
 have h9:=(hA.form s hs).2.2;have k9:=(hB.form t ht).2.2;unfold lookL renL patP;show (pfaces A B s t).map _=_;unfold pfaces;rw[List.map_append,List.map_append,List.map_map,List.map_map,List.map_map,List.map_map];congr 1
 ·refine List.map_congr_left fun k hk=>?_;have h1:=mem_rg hk;have hf:=hA.face hs h1.1 h1.2;simp only[Function.comp_def];congr 1;unfold sidesOf;rw[pfind hA hB hf.1 ht];show pfaces A B (s.eraseIdx k) t=_;unfold pfaces patL;rw[List.map_append,List.map_map,List.map_map,hf.2];congr 1
  ·refine List.map_congr_left fun q hq=>?_;have h2:=mem_rg hq;simp only[Function.comp_def,renS];rw[phiP_cd oM,er_two_kq h9 h1.1 h2.1];rfl
  ·refine List.map_congr_left fun j hj=>?_;have h2:=mem_rg hj;simp only[Function.comp_def,renS];rw[phiP_cd oM,er_one oM,er_one oM];congr 2;congr 1;omega
 ·refine List.map_congr_left fun j hj=>?_;have h1:=mem_rg hj;have hf:=hB.face ht h1.1 h1.2;simp only[Function.comp_def];congr 1;unfold sidesOf;rw[pfind hA hB hs hf.1];show pfaces A B s (t.eraseIdx j)=_;unfold pfaces patR;rw[List.map_append,List.map_map,List.map_map,hf.2];congr 1
  ·refine List.map_congr_left fun k hk=>?_;have h2:=mem_rg hk;simp only[Function.comp_def,renS];rw[phiP_cd oM,er_one oM,er_one oM]
  ·refine List.map_congr_left fun q hq=>?_;have h2:=mem_rg hq;simp only[Function.comp_def,renS];rw[phiP_cd (num_lt k9 (num_two oM h1.1 h2.1)),er_two_kq k9 h1.1 h2.1];rfl
theorem paround {s t:List Int}(hs:s∈A)(ht:t∈B)(h1:s.length≤3)(h2:t.length≤3)(h3:3<s.length+t.length):aroundC (A.flatMap fun s=>B.map (pcel A B s)) (pcel A B s t)=0:=by
 obtain ⟨n1,st1,h9⟩:=hA.form s hs;obtain ⟨n2,st2,k9⟩:=hB.form t ht;rw[aroundC_L,plook hA hB hs ht,aroundL_ren,patP_ok _ oM (List.length_pos_iff.2 n1) _ oM (List.length_pos_iff.2 n2) h3];intro x hx y hy h;obtain ⟨a,b,ha,hb,rfl⟩:=pat_key hx;obtain ⟨c,d,hc,hd,rfl⟩:=pat_key hy;rw[phiP_cd (num_lt k9 hb),phiP_cd (num_lt k9 hd)] at h;obtain ⟨e1,e2⟩:=pid_inj hA hB (hA.er hs ha) (hA.er hs hc) (hB.er ht hb) (hB.er ht hd) h;rw[er_inj st1 h9 ha hc e1,er_inj st2 k9 hb hd e2]
theorem pform {s t:List Int}(hs:s∈A)(ht:t∈B)(h1:s.length≤3)(h2:t.length≤3):formC (A.flatMap fun s=>B.map (pcel A B s)) (pcel A B s t)=0:=by
 have n1:=List.length_pos_iff.2 (hA.form s hs).1;have n2:=List.length_pos_iff.2 (hB.form t ht).1;have hdim:(pcel A B s t).dim=(s.length:Int) - 1+((t.length:Int) - 1):=rfl;have hlen:(pcel A B s t).sides.length=(if s.length≤1 then 0 else s.length)+(if t.length≤1 then 0 else t.length):=by
  show (pfaces A B s t).length=_;unfold pfaces;rw[List.length_append,List.length_map,List.length_map,rg_length,rg_length]
 refine form_of (by rw[hdim]; omega) ?_ (fun x hx=>?_) (psorted hA hB hs ht) (fun x hx=>?_) fun hd=>?_
 ·unfold cntBad;rw[hdim,hlen]
  rcases (by omega:s.length=1∨s.length=2∨s.length=3) with e | e | e <;> rcases (by omega:t.length=1∨t.length=2∨t.length=3) with e' | e' | e' <;> rw[e,e'] <;> decide
 ·rcases List.mem_append.1 hx with hx | hx
  ·obtain ⟨k,hk,rfl⟩:=List.mem_map.1 hx;have h3:=mem_rg hk;have hf:=hA.face hs h3.1 h3.2;refine⟨_,pfind hA hB hf.1 ht,?_⟩;show ((s.eraseIdx k).length:Int) - 1+((t.length:Int) - 1)=(s.length:Int) - 1+((t.length:Int) - 1) - 1;rw[hf.2];omega
  ·obtain ⟨k,hk,rfl⟩:=List.mem_map.1 hx;have h3:=mem_rg hk;have hf:=hB.face ht h3.1 h3.2;refine⟨_,pfind hA hB hs hf.1,?_⟩;show (s.length:Int) - 1+(((t.eraseIdx k).length:Int) - 1)=(s.length:Int) - 1+((t.length:Int) - 1) - 1;rw[hf.2];omega
 ·rcases List.mem_append.1 hx with hx | hx
  ·obtain ⟨k,_,rfl⟩:=List.mem_map.1 hx;exact signC_cases k
  ·obtain ⟨k,_,rfl⟩:=List.mem_map.1 hx;exact sign_prod _ _
 ·rw[hdim] at hd;show sumS (pfaces A B s t)=0;unfold pfaces sumS
  rcases (by omega:(s.length=2∧t.length=1)∨(s.length=1∧t.length=2)) with ⟨e,e'⟩ | ⟨e,e'⟩
  ·rw[e,e'];simp[rg,List.range_succ,signC]
  ·rw[e,e'];simp[rg,List.range_succ,signC]
theorem pcanon:canonC (A.flatMap fun s=>B.map (pcel A B s))=A.flatMap fun s=>B.map (pcel A B s):=by
 unfold canonC;have h1:sortBy Cl.id (A.flatMap fun s=>B.map (pcel A B s))=A.flatMap fun s=>B.map (pcel A B s):=(eq_sortBy ((pids hA hB).imp fun h=>by omega) (Stab.refl _)).symm;rw[h1];have h2:∀ c∈A.flatMap fun s=>B.map (pcel A B s),normC c=c:=fun c hc=>by
  obtain ⟨s,hs,hc⟩:=List.mem_flatMap.1 hc;obtain ⟨t,ht,rfl⟩:=List.mem_map.1 hc;unfold normC;have:sortBy Side.cell (pcel A B s t).sides=(pcel A B s t).sides:=(eq_sortBy ((psorted hA hB hs ht).imp fun h=>by omega) (Stab.refl _)).symm;rw[this]
 have h3:=List.map_congr_left h2;rw[h3];simp
theorem pright (h1:∀ s∈A,s.length≤3)(h2:∀ t∈B,t.length≤3)(hl:A.length * B.length≤4000):checkC (A.flatMap fun s=>B.map (pcel A B s))=(0,0):=by
 refine check_ok (by rw[flatMap_len]; exact hl) ?_ ?_ ?_ ?_ <;> rw[pcanon hA hB]
 ·intro x hx;obtain ⟨s,hs,hx⟩:=List.mem_flatMap.1 hx;obtain ⟨t,ht,rfl⟩:=List.mem_map.1 hx;show 0<pid A B s t;unfold pid;omega
 ·exact pids hA hB
 ·intro x hx;obtain ⟨s,hs,hx⟩:=List.mem_flatMap.1 hx;obtain ⟨t,ht,rfl⟩:=List.mem_map.1 hx;exact pform hA hB hs ht (h1 s hs) (h2 t ht)
 ·intro x hx hd;obtain ⟨s,hs,hx⟩:=List.mem_flatMap.1 hx;obtain ⟨t,ht,rfl⟩:=List.mem_map.1 hx;have hd:(s.length:Int) - 1+((t.length:Int) - 1)>1:=hd;exact paround hA hB hs ht (h1 s hs) (h2 t ht) oM
end
structure Few (a:List Cl)(A:List (List Int)):Prop where
 good:Good A
 cells:a=A.map (celC A)
 small:∀ s∈A,s.length≤3
 few:A.length≤14
theorem Few.canon {a:List Cl}{A:List (List Int)}(h:Few a A):canonC a=a:=by rw[h.cells,h.good.canon]
theorem Few.tab {a:List Cl}{A:List (List Int)}(h:Few a A):tabC a=a:=by rw[h.cells,h.good.tab]
theorem Few.check {a:List Cl}{A:List (List Int)}(h:Few a A):checkC a=(0,0):=by
 have hc:=h.canon;have hi:=h.good.ids;rw[List.pairwise_map] at hi;have h0:a.length≤4000:=by rw[h.cells,List.length_map]; have:=h.few; omega
 refine check_ok h0 ?_ ?_ ?_ ?_ <;> rw[hc,h.cells]
 ·intro x hx;obtain ⟨s,_,rfl⟩:=List.mem_map.1 hx;show 0<ixC A s;unfold ixC;omega
 ·exact hi
 ·intro x hx;obtain ⟨s,hs,rfl⟩:=List.mem_map.1 hx;exact h.good.formOk hs
 ·intro x hx hd;obtain ⟨s,hs,rfl⟩:=List.mem_map.1 hx;refine h.good.aroundOk hs ?_;have:(s.length:Int) - 1>1:=hd;omega
theorem Few.prod {a b:List Cl}{A B:List (List Int)}(ha:Few a A)(hb:Few b B):prodC a b=A.flatMap fun s=>B.map (pcel A B s):=by
 have hl:A.length * B.length≤14 * 14:=Nat.mul_le_mul ha.few hb.few;have hbad:prodBad a b=false:=by
  unfold prodBad;rw[ha.check,hb.check,ha.cells,hb.cells,List.length_map,List.length_map,← Int.natCast_mul];simp;omega
 have hall:prodAll a b=A.flatMap fun s=>B.map (pcel A B s):=by rw[ha.cells,hb.cells,prodAll_good ha.good hb.good]
 unfold prodC;rw[hbad,hall,pright ha.good hb.good ha.small hb.small oM,pcanon ha.good hb.good];rfl
theorem Few.prodRight {a b:List Cl}{A B:List (List Int)}(ha:Few a A)(hb:Few b B):checkC (prodC a b)=(0,0):=by
 have hl:A.length * B.length≤14 * 14:=Nat.mul_le_mul ha.few hb.few;rw[ha.prod hb,pright ha.good hb.good ha.small hb.small oM]
theorem Few.prodLen {a b:List Cl}{A B:List (List Int)}(ha:Few a A)(hb:Few b B):(prodC a b).length=a.length * b.length:=by
 rw[ha.prod hb,flatMap_len,ha.cells,hb.cells,List.length_map,List.length_map]
theorem sum_flat {α β:Type}(l:List α)(m:List β)(f:α→Int)(g:β→Int)(k:α→β→Int)(h:∀ a b,a∈l→b∈m→k a b=f a * g b):((l.flatMap fun a=>m.map (k a)).sum)=(l.map f).sum * (m.map g).sum:=by
 induction l with
 | nil=>simp
 | cons a r ih =>
  have h1:(m.map (k a)).sum=f a * (m.map g).sum:=by
   have h2:∀ b∈m,k a b=f a * g b:=fun b hb=>h a b (by simp) hb;clear ih h;induction m with
   | nil=>simp
   | cons b q ih2 =>
    simp only[List.map_cons,List.sum_cons];rw[ih2 fun c hc=>h2 c (by simp[hc]),h2 b (by simp),Int.mul_add]
  simp only[List.flatMap_cons,List.sum_append,List.map_cons,List.sum_cons];rw[ih fun x b hx hb=>h x b (by simp[hx]) hb,h1,Int.add_mul]
def sgD (d:Int):Int:=if d.tmod 2=0 then 1 else -1
theorem sgD_add {a b:Int}(ha:0≤a)(hb:0≤b):sgD (a+b)=sgD a * sgD b:=by
 unfold sgD;rw[Int.tmod_eq_emod_of_nonneg oM,Int.tmod_eq_emod_of_nonneg ha,Int.tmod_eq_emod_of_nonneg hb];by_cases h1:a % 2=0 <;> by_cases h2:b % 2=0
 ·rw[if_pos h1,if_pos h2,if_pos oM]; rfl
 ·rw[if_pos h1,if_neg h2,if_neg oM]; rfl
 ·rw[if_neg h1,if_pos h2,if_neg oM]; rfl
 ·rw[if_neg h1,if_neg h2,if_pos oM]; rfl
theorem Few.euler {a b:List Cl}{A B:List (List Int)}(ha:Few a A)(hb:Few b B):eulC (prodC a b)=eulC a * eulC b:=by
 have hp:=pcanon ha.good hb.good;have ht:tabC (prodC a b)=A.flatMap fun s=>B.map (pcel A B s):=by
  rw[ha.prod hb,tabC_strict (by rw[hp]; exact pids ha.good hb.good),hp]
 unfold eulC;rw[ht,ha.tab,hb.tab]
 conv=>rhs; rw[ha.cells,hb.cells]
 rw[List.map_map,List.map_map,List.map_flatMap];simp only[List.map_map];refine sum_flat A B _ _ (fun s t=>sgD ((s.length:Int) - 1+((t.length:Int) - 1))) fun s t hs ht=>?_;have n1:=List.length_pos_iff.2 (ha.good.form s hs).1;have n2:=List.length_pos_iff.2 (hb.good.form t ht).1;exact sgD_add oM oM
def sumR (tl:List Cl)(l:List Side)(r:Int):Int:=(l.flatMap fun x=>(sidesOf tl x).map fun q=>if q.cell=r then x.sign * q.sign else 0).sum
def hits (tl:List Cl)(x:Side)(r:Int):Nat:=((sidesOf tl x).filter fun q=>decide (q.cell=r)).length
def cntR (tl:List Cl)(l:List Side)(r:Int):Nat:=(l.map fun x=>hits tl x r).sum
def share (tl:List Cl)(l:List Side)(a b:Int):Prop:=∃ x∈l,∃ y∈l,x.cell=a∧y.cell=b∧∃ r,0<hits tl x r∧0<hits tl y r
theorem getZ_addZ (zl:List (Int×Int))(k x r:Int):getZ (addZ zl k x) r=getZ zl r+if r=k then x else 0:=by
 induction zl with
 | nil =>
  simp only[addZ,getZ];split <;> simp
 | cons p q ih =>
  obtain ⟨a,z⟩:=p;simp only[addZ];by_cases h:k=a
  ·subst h;simp only[if_true,getZ];split <;> simp
  ·rw[if_neg h];simp only[getZ,ih];by_cases hr:r=a
   ·subst hr;rw[if_pos rfl,if_pos rfl,if_neg fun e=>h e.symm];omega
   ·rw[if_neg hr,if_neg hr]
theorem getZ_inner (x:Side)(r:Int):∀ (l:List Side) (zl:List (Int×Int)),getZ (l.foldl (stepZ x) zl) r=getZ zl r+(l.map fun q=>if q.cell=r then x.sign * q.sign else 0).sum
 | [],zl=>by simp
 | q::l,zl=>by
  simp only[List.foldl_cons,List.map_cons,List.sum_cons];rw[getZ_inner x r l,stepZ,getZ_addZ];by_cases h:r=q.cell
  ·rw[if_pos h,if_pos h.symm]; omega
  ·rw[if_neg h,if_neg fun e=>h e.symm]; omega
theorem getZ_sums (tl:List Cl)(l:List Side)(r:Int):getZ (sumsC tl l) r=sumR tl l r:=by
 have:∀ (l:List Side) (zl:List (Int×Int)),getZ (l.foldl (fun zl x=>(sidesOf tl x).foldl (stepZ x) zl) zl) r=getZ zl r+sumR tl l r:=by
  intro l;induction l with
  | nil=>intro zl; simp[sumR]
  | cons x q ih =>
   intro zl;simp only[List.foldl_cons];rw[ih,getZ_inner];simp only[sumR,List.flatMap_cons,List.sum_append];omega
 have h:=this l [];simpa [sumsC,getZ] using h
theorem addZ_keys (ml:List (Int×Int))(k x:Int):(addZ ml k x).map Prod.fst=if ml.any (fun p=>decide (p.1=k)) then ml.map Prod.fst else ml.map Prod.fst++[k]:=by
 induction ml with
 | nil=>simp[addZ]
 | cons p r ih =>
  obtain ⟨a,l⟩:=p;simp only[addZ];by_cases h:k=a
  ·subst h;simp
  ·have h2:¬ a=k:=fun e=>h e.symm;rw[if_neg h];simp only[List.map_cons,ih,List.any_cons,h2,decide_false,Bool.false_or];split <;> simp
theorem addZ_nodup {ml:List (Int×Int)}(h:(ml.map Prod.fst).Nodup)(k x:Int):((addZ ml k x).map Prod.fst).Nodup:=by
 rw[addZ_keys];split
 ·exact h
 ·rename_i hk;rw[List.nodup_append];refine⟨h,by simp,fun a ha b hb e=>hk ?_⟩;simp at hb;subst hb;obtain ⟨p,hp,hpe⟩:=List.mem_map.1 ha;rw[List.any_eq_true];exact⟨p,hp,by simp[hpe,e]⟩
theorem sumsC_nodup (tl:List Cl)(l:List Side):((sumsC tl l).map Prod.fst).Nodup:=by
 have h1:∀ (x:Side) (q:List Side) (zl:List (Int×Int)),(zl.map Prod.fst).Nodup→((q.foldl (stepZ x) zl).map Prod.fst).Nodup:=by
  intro x q;induction q with
  | nil=>intro zl h; exact h
  | cons r t ih=>intro zl h; exact ih _ (addZ_nodup h _ _)
 have h2:∀ (q:List Side) (zl:List (Int×Int)),(zl.map Prod.fst).Nodup→((q.foldl (fun zl x=>(sidesOf tl x).foldl (stepZ x) zl) zl).map Prod.fst).Nodup:=by
  intro q;induction q with
  | nil=>intro zl h; exact h
  | cons x t ih=>intro zl h; exact ih _ (h1 _ _ _ h)
 exact h2 _ _ (by simp)
theorem getZ_mem:∀ {zl:List (Int×Int)},(zl.map Prod.fst).Nodup→∀ p∈zl,getZ zl p.1=p.2
 | [],_,p,hp=>by simp at hp
 | (a,z)::r,h,p,hp=>by
  simp only[List.map_cons,List.nodup_cons] at h
  rcases List.mem_cons.1 hp with rfl | hp
  ·simp[getZ]
  ·simp only[getZ];rw[if_neg fun e=>h.1 (List.mem_map.2 ⟨p,hp,e⟩)];exact getZ_mem h.2 p hp
theorem getZ_some:∀ {zl:List (Int×Int)} {k:Int},getZ zl k≠0→∃ p∈zl,p.1=k∧p.2=getZ zl k
 | [],_,h=>by simp[getZ] at h
 | (a,z)::r,k,h=>by
  simp only[getZ] at h ⊢;split
  ·rename_i e;exact⟨(a,z),by simp,e.symm,I⟩
  ·rename_i e;rw[if_neg e] at h;obtain ⟨p,hp,h1,h2⟩:=getZ_some h;exact⟨p,by simp[hp],h1,h2⟩
theorem sums_none (tl:List Cl)(l:List Side):(sumsC tl l).any (fun p=>decide (p.2≠0))=false↔∀ r,sumR tl l r=0:=by
 rw[List.any_eq_false];constructor
 ·intro h r;rw[← getZ_sums];refine Decidable.of_not_not fun hne=>?_;obtain ⟨p,hp,_,h2⟩:=getZ_some hne;exact h p hp (by simpa [h2] using hne)
 ·intro h p hp;have:=getZ_mem (sumsC_nodup tl l) p hp;rw[getZ_sums,h] at this;simp[← this]
theorem getL_inner (i r:Int):∀ (l:List Side) (ml:List (Int×List Int)),getL (l.foldl (stepL i) ml) r=getL ml r++List.replicate (l.filter fun q=>decide (q.cell=r)).length i
 | [],ml=>by simp
 | q::l,ml=>by
  simp only[List.foldl_cons];rw[getL_inner i r l,stepL,getL_addL,List.filter_cons];by_cases h:r=q.cell
  ·rw[if_pos h,if_pos (by simp[h])];simp[List.replicate_succ]
  ·rw[if_neg h,if_neg (by simp; exact fun e=>h e.symm)]
theorem getL_met (tl:List Cl)(l:List Side)(r:Int):getL (metC tl l) r=l.zipIdx.flatMap fun p=>List.replicate (hits tl p.1 r) (p.2:Int):=by
 have:∀ (q:List (Side×Nat)) (ml:List (Int×List Int)),getL (q.foldl (fun ml p=>(sidesOf tl p.1).foldl (stepL p.2) ml) ml) r=getL ml r++q.flatMap fun p=>List.replicate (hits tl p.1 r) (p.2:Int):=by
  intro q;induction q with
  | nil=>intro ml; simp
  | cons p t ih =>
   intro ml;simp only[List.foldl_cons];rw[ih,getL_inner];simp[hits]
 have h:=this l.zipIdx [];simpa [metC,getL] using h
theorem met_len (tl:List Cl)(l:List Side)(r:Int):(getL (metC tl l) r).length=cntR tl l r:=by
 rw[getL_met];have:∀ (l:List Side) (k:Nat),((l.zipIdx k).flatMap fun p=>List.replicate (hits tl p.1 r) (p.2:Int)).length=cntR tl l r:=by
  intro l;induction l with
  | nil=>intro k; rfl
  | cons x q ih=>intro k; simp only[List.zipIdx_cons,List.flatMap_cons,List.length_append,List.length_replicate,ih,cntR,List.map_cons,List.sum_cons]
 exact this l 0
theorem met_mem (tl:List Cl)(l:List Side)(r i:Int):i∈getL (metC tl l) r↔∃ k:Nat,i=k∧∃ x,l[k]?=some x∧0<hits tl x r:=by
 rw[getL_met,List.mem_flatMap];constructor
 ·rintro ⟨⟨x,k⟩,hp,hi⟩;obtain ⟨h1,rfl⟩:=List.mem_replicate.1 hi;refine⟨k,I,x,?_,Nat.pos_of_ne_zero h1⟩;simpa using List.mem_zipIdx_iff_getElem?.1 hp
 ·rintro ⟨k,rfl,x,hx,hh⟩;exact⟨(x,k),List.mem_zipIdx_iff_getElem?.2 (by simpa using hx),List.mem_replicate.2 ⟨Nat.ne_of_gt hh,I⟩⟩
theorem getL_mem:∀ {ml:List (Int×List Int)},(ml.map Prod.fst).Nodup→∀ p∈ml,getL ml p.1=p.2
 | [],_,p,hp=>by simp at hp
 | (a,z)::r,h,p,hp=>by
  simp only[List.map_cons,List.nodup_cons] at h
  rcases List.mem_cons.1 hp with rfl | hp
  ·simp[getL]
  ·simp only[getL];rw[if_neg fun e=>h.1 (List.mem_map.2 ⟨p,hp,e⟩)];exact getL_mem h.2 p hp
theorem getL_some:∀ {ml:List (Int×List Int)} {k:Int},getL ml k≠[]→∃ p∈ml,p.1=k∧p.2=getL ml k
 | [],_,h=>by simp[getL] at h
 | (a,z)::r,k,h=>by
  simp only[getL] at h ⊢;split
  ·rename_i e;exact⟨(a,z),by simp,e.symm,I⟩
  ·rename_i e;rw[if_neg e] at h;obtain ⟨p,hp,h1,h2⟩:=getL_some h;exact⟨p,by simp[hp],h1,h2⟩
theorem addL_ne:∀ {ml:List (Int×List Int)} {k x:Int},(∀ p∈ml,p.2≠[])→∀ p∈addL ml k x,p.2≠[]
 | [],_,_,_,p,hp=>by simp[addL] at hp; subst hp; simp
 | (a,l)::r,k,x,h,p,hp=>by
  unfold addL at hp;split at hp
  ·rcases List.mem_cons.1 hp with rfl | hp
   ·simp
   ·exact h p (by simp[hp])
  ·rcases List.mem_cons.1 hp with rfl | hp
   ·exact h _ (by simp)
   ·exact addL_ne (fun q hq=>h q (by simp[hq])) p hp
theorem met_ne (tl:List Cl)(l:List Side):∀ p∈metC tl l,p.2≠[]:=by
 have h1:∀ (i:Int) (q:List Side) (ml:List (Int×List Int)),(∀ p∈ml,p.2≠[])→∀ p∈q.foldl (stepL i) ml,p.2≠[]:=by
  intro i q;induction q with
  | nil=>intro ml h; exact h
  | cons r t ih=>intro ml h; exact ih _ (addL_ne h)
 have h2:∀ (q:List (Side×Nat)) (ml:List (Int×List Int)),(∀ p∈ml,p.2≠[])→∀ p∈q.foldl (fun ml p=>(sidesOf tl p.1).foldl (stepL p.2) ml) ml,p.2≠[]:=by
  intro q;induction q with
  | nil=>intro ml h; exact h
  | cons x t ih=>intro ml h; exact ih _ (h1 _ _ _ h)
 exact h2 _ _ (by simp)
theorem met_none (tl:List Cl)(l:List Side):(metC tl l).any (fun p=>decide ((p.2.length:Int)≠2))=false↔∀ r,cntR tl l r=0∨cntR tl l r=2:=by
 rw[List.any_eq_false];constructor
 ·intro h r;rw[← met_len];by_cases hne:getL (metC tl l) r=[]
  ·left; rw[hne]; rfl
  ·right;obtain ⟨p,hp,_,h2⟩:=getL_some hne;have:=h p hp;rw[h2] at this;simp at this;omega
 ·intro h p hp;have h1:=getL_mem (metC_nodup tl l) p hp;have h2:=h p.1;rw[← met_len,h1] at h2;have h3:=List.length_pos_iff.2 (met_ne tl l p hp);simp;omega
theorem met_in (tl:List Cl)(l:List Side):∀ p∈metC tl l,∀ x∈p.2,0≤x∧x<(l.length:Int):=fun p hp x hx=>by
 rw[← getL_mem (metC_nodup tl l) p hp] at hx;obtain ⟨k,rfl,y,hy,_⟩:=(met_mem tl l p.1 x).1 hx;have:=(List.getElem?_eq_some_iff.1 hy).1;omega
theorem seen_all {ml:List (Int×List Int)}{n:Nat}(h2:∀ p∈ml,p.2.length=2)(hb:∀ p∈ml,∀ x∈p.2,0≤x∧x<(n:Int))(h0:0<n):(seenC (joinC ml)).length=n↔∀ a:Nat,a<n→Cn (linked ml) 0 a:=by
 have hmem:∀ x:Int,x∈seenC (joinC ml)↔Rch (adjJ (joinC ml)) 0 x:=fun x=>mem_dfs (cnt:=cntK (joinC ml)) (fun v v' h=>cntK_mono h) (cntK_strict _) (Nat.lt_succ_of_le (List.length_filter_le _ _)) (by simp[adjJ]) x;have hnd:(seenC (joinC ml)).Nodup:=dfs_nodup _ _ _ _ (by simp);have hin:∀ x∈seenC (joinC ml),0≤x∧x<(n:Int):=fun x hx=>by
  have hr:=(rch_cn h2 0 x).1 ((hmem x).1 hx);have:∀ a b,Cn (linked ml) a b→(0≤a∧a<(n:Int))→(0≤b∧b<(n:Int)):=by
   intro a b h;induction h with
   | refl _=>exact fun h=>h
   | step e _ ih =>
    intro _
    rcases e with e | e
    ·exact ih (linked_in hb e).2
    ·exact ih (linked_in hb e).1
  exact this 0 x hr oM
 generalize seenC (joinC ml)=seen at *;constructor
 ·intro hl a ha;refine Classical.byContradiction fun hne=>?_;have hna:(a:Int) ∉ seen:=fun h=>hne ((rch_cn h2 0 a).1 ((hmem a).1 h));have:=nodup_leI (l:=(a:Int)::seen) (n:=n) (List.nodup_cons.2 ⟨hna,hnd⟩) fun x hx=>by
   rcases List.mem_cons.1 hx with rfl | hx
   ·omega
   ·exact hin x hx
  simp at this;omega
 ·intro hall;refine Nat.le_antisymm (nodup_leI hnd hin) ?_;have h3:=length_le_of_nodup (m:=List.range n) (l:=seen.map Int.toNat) List.nodup_range (nodup_nat hnd fun x hx=>(hin x hx).1) fun i hi=>by
   have hi:=List.mem_range.1 hi;exact List.mem_map.2 ⟨(i:Int),(hmem i).2 ((rch_cn h2 0 i).2 (hall i hi)),by simp⟩
  simpa using h3
theorem Cn.map {E E':Int→Int→Prop}{f:Int→Int}(h:∀ a b,E a b→Cn E' (f a) (f b)){a b:Int}(hc:Cn E a b):Cn E' (f a) (f b):=by
 induction hc with
 | refl _=>exact .refl _
 | step e _ ih =>
  rcases e with e | e
  ·exact (h _ _ e).trans ih
  ·exact (h _ _ e).symm.trans ih
theorem around_iff {tl:List Cl}{c:Cl}(h0:0<c.sides.length)(hnd:(c.sides.map Side.cell).Nodup) :
  aroundC tl c=0↔(∀ r,sumR tl c.sides r=0)∧(∀ r,cntR tl c.sides r=0∨cntR tl c.sides r=2)∧∀ x∈c.sides,∀ y∈c.sides,Cn (share tl c.sides) x.cell y.cell:=by
 unfold aroundC;generalize c.sides=l at *;by_cases hs:(sumsC tl l).any (fun p=>decide (p.2≠0))=false
 ·rw[if_neg (by rw[hs]; simp)];by_cases hm:(metC tl l).any (fun p=>decide ((p.2.length:Int)≠2))=false
  ·rw[if_neg (by rw[hm]; simp)];have h2:∀ p∈metC tl l,p.2.length=2:=fun p hp=>by
    have:=List.any_eq_false.1 hm p hp;simp at this;omega
   have hsa:=seen_all h2 (met_in tl l) h0;have hinj:∀ {i j:Nat} {x y:Side},l[i]?=some x→l[j]?=some y→x.cell=y.cell→i=j:=fun {i j x y} hi hj e=>by
    obtain ⟨i1,e1⟩:=List.getElem?_eq_some_iff.1 hi;obtain ⟨i2,e2⟩:=List.getElem?_eq_some_iff.1 hj;have key:∀ {a b:Nat} (ha:a<l.length) (hb:b<l.length),a<b→l[a].cell≠l[b].cell:=fun {a b} ha hb h=>by
     have:=List.pairwise_iff_getElem.1 hnd a b (by simpa using ha) (by simpa using hb) h;simpa using this
    rcases Nat.lt_trichotomy i j with h | h | h
    ·exact absurd (by rw[e1,e2]; exact e) (key i1 i2 h)
    ·exact h
    ·exact absurd (by rw[e1,e2]; exact e.symm) (key i2 i1 h)
   have hconn:(∀ a:Nat,a<l.length→Cn (linked (metC tl l)) 0 a)↔∀ x∈l,∀ y∈l,Cn (share tl l) x.cell y.cell:=by
    constructor
    ·intro hall x hx y hy;obtain ⟨i,hi,rfl⟩:=List.getElem_of_mem hx;obtain ⟨j,hj,rfl⟩:=List.getElem_of_mem hy;have hc:=(hall i hi).symm.trans (hall j hj);have:=hc.map (f:=fun a=>(l.getD a.toNat ⟨0,0⟩).cell) (E':=share tl l) fun a b hl=>by
      obtain ⟨p,hp,h3,h4⟩:=hl;rw[← getL_mem (metC_nodup tl l) p hp] at h3 h4;obtain ⟨k,rfl,x,hx,hh⟩:=(met_mem tl l p.1 a).1 (List.mem_of_head? h3);obtain ⟨m,rfl,y,hy,hh2⟩:=(met_mem tl l p.1 b).1 h4;refine .one ⟨x,List.mem_of_getElem? hx,y,List.mem_of_getElem? hy,?_,?_,p.1,hh,hh2⟩
      ·simp[List.getD_eq_getElem?_getD,hx]
      ·simp[List.getD_eq_getElem?_getD,hy]
     simpa [List.getD_eq_getElem?_getD,hi,hj] using this
    ·intro hall;have key:∀ a b,Cn (share tl l) a b→∀ (i:Nat) (x:Side),l[i]?=some x→x.cell=a→∀ (j:Nat) (y:Side),l[j]?=some y→y.cell=b→Cn (linked (metC tl l)) (i:Int) (j:Int):=by
      have one:∀ {a b:Int},share tl l a b→∀ (i:Nat) (x:Side),l[i]?=some x→x.cell=a→∃ (j:Nat) (y:Side),l[j]?=some y∧y.cell=b∧Cn (linked (metC tl l)) (i:Int) (j:Int):=by
       rintro a b ⟨x',hx',y,hy,rfl,rfl,r,h3,h4⟩ i x hi he;obtain ⟨i',hi',rfl⟩:=List.getElem_of_mem hx';obtain ⟨j,hj,rfl⟩:=List.getElem_of_mem hy;have hii:=hinj hi (gE hi') he;subst hii;refine⟨j,l[j],gE hj,I,?_⟩;have m1:=(met_mem tl l r i).2 ⟨i,rfl,l[i],gE hi',h3⟩;have m2:=(met_mem tl l r j).2 ⟨j,rfl,l[j],gE hj,h4⟩;obtain ⟨p,hp,_,hp2⟩:=getL_some (ml:=metC tl l) (k:=r) fun e=>by rw[e] at m1; simp at m1
       rw[← hp2] at m1 m2;cases hh:p.2 with
       | nil=>rw[hh] at m1; simp at m1
       | cons u q =>
        have hu:∀ v∈p.2,linked (metC tl l) u v:=fun v hv=>⟨p,hp,by rw[hh]; rfl,hv⟩;exact (Cn.one (hu _ m1)).symm.trans (Cn.one (hu _ m2))
      intro a b hc;induction hc with
      | refl a =>
       intro i x hi he j y hj he2;have:=hinj hi hj (he.trans he2.symm);subst this;exact .refl _
      | step e _ ih =>
       intro i x hi he j y hj he2;have e':share tl l _ _:=e.elim (fun e=>e) fun ⟨x,hx,y,hy,h1,h2,r,h3,h4⟩=>⟨y,hy,x,hx,h2,h1,r,h4,h3⟩;obtain ⟨k,z,hk,hz,hc⟩:=one e' i x hi he;exact hc.trans (ih k z hk hz j y hj he2)
     intro a ha;exact key _ _ (hall _ (gM h0) _ (gM ha)) 0 _ (gE h0) I a _ (gE ha) I
   rw[← hconn,← hsa];constructor
   ·intro h;refine⟨(sums_none tl l).1 hs,(met_none tl l).1 hm,?_⟩;refine Decidable.of_not_not fun hne=>?_;rw[if_pos oM] at h;exact absurd h dC
   ·rintro ⟨_,_,h⟩;rw[if_neg oM]
  ·have hm':(metC tl l).any (fun p=>decide ((p.2.length:Int)≠2))=true:=by simpa using hm
   rw[if_pos hm'];exact⟨fun h=>absurd h dC,fun h=>absurd ((met_none tl l).2 h.2.1) hm⟩
 ·have hs':(sumsC tl l).any (fun p=>decide (p.2≠0))=true:=by simpa using hs
  rw[if_pos hs'];exact⟨fun h=>absurd h dC,fun h=>absurd ((sums_none tl l).2 h.1) hs⟩
structure Fm (tl:List Cl)(c:Cl):Prop where
 dim:0≤c.dim∧c.dim≤8
 cnt:cntBad c=false
 found:∀ x∈c.sides,∃ d,findT tl x.cell=some d∧d.dim=c.dim - 1
 asc:c.sides.Pairwise fun a b=>a.cell<b.cell
 sg:∀ x∈c.sides,x.sign=1∨x.sign = -1
 one:c.dim=1→sumS c.sides=0
theorem Fm.ok {tl:List Cl}{c:Cl}(h:Fm tl c):formC tl c=0:=form_of h.dim h.cnt h.found h.asc h.sg h.one
theorem asc_of {l:List Side}(hs:l.Pairwise fun a b=>a.cell≤b.cell)(hd:∀ i x y,l[i]?=some x→l[i+1]?=some y→x.cell≠y.cell):l.Pairwise fun a b=>a.cell<b.cell:=by
 induction l with
 | nil=>exact List.Pairwise.nil
 | cons a r ih =>
  obtain ⟨h1,h2⟩:=List.pairwise_cons.1 hs;have hr:=ih h2 fun i x y hx hy=>hd (i+1) x y (by simpa using hx) (by simpa using hy);refine List.pairwise_cons.2 ⟨fun b hb=>?_,hr⟩;cases r with
  | nil=>simp at hb
  | cons z q =>
   have hz:a.cell<z.cell:=by
    have:=h1 z (by simp);have:=hd 0 a z rfl rfl;omega
   rcases List.mem_cons.1 hb with rfl | hb
   ·exact hz
   ·have:=(List.pairwise_cons.1 hr).1 b hb;omega
theorem fm_of {tl:List Cl}{c:Cl}(h:formC tl c=0)(hs:c.sides.Pairwise fun a b=>a.cell≤b.cell):Fm tl c:=by
 unfold formC at h;split at h
 ·cases h
 ·rename_i h1;split at h
  ·cases h
  ·rename_i h2;split at h
   ·cases h
   ·rename_i h3;split at h
    ·cases h
    ·rename_i h4;split at h
     ·cases h
     ·rename_i h5;have hbad:∀ i x,c.sides[i]?=some x→badSide tl c i x=false:=fun i x hx=>by
       have hi:=(List.getElem?_eq_some_iff.1 hx).1;have:=List.any_eq_false.1 ((Bool.not_eq_true _).mp h3) i (List.mem_range.2 hi);unfold badAt at this;rw[hx] at this;simpa using this
      refine⟨?_,by simpa using h2,fun x hx=>?_,asc_of hs fun i x y hx hy e=>?_,fun x hx=>?_,fun hd=>?_⟩
      ·simp[dimBad] at h1; omega
      ·obtain ⟨i,hi,rfl⟩:=List.getElem_of_mem hx;have:=hbad i _ (gE hi);unfold badSide at this;simp only[Bool.or_eq_false_iff,Bool.not_eq_false',decide_eq_false_iff_not,ne_eq,Decidable.not_not] at this;obtain ⟨⟨g1,g2⟩,_⟩:=this;obtain ⟨d,hd⟩:=Option.isSome_iff_exists.1 g1;rw[hd] at g2;exact⟨d,hd,g2⟩
      ·have:=hbad (i+1) y hy;unfold badSide at this;rw[show i+1 - 1=i by omega,hx] at this;simp[e] at this
      ·have:=List.any_eq_false.1 ((Bool.not_eq_true _).mp h4) x hx;simp[signBad] at this;by_cases h6:x.sign=1
       ·exact .inl h6
       ·exact .inr (this h6)
      ·simpa [hd] using h5
structure Rt (l:List Cl):Prop where
 few:l.length≤4000
 asc:l.Pairwise fun a b=>a.id<b.id
 pos:∀ x∈l,0<x.id
 form:∀ x∈l,Fm l x
 around:∀ x∈l,x.dim>1→aroundC l x=0
theorem Rt.canon {l:List Cl}(h:Rt l):canonC l=l:=by
 unfold canonC;rw[(eq_sortBy (key:=Cl.id) (h.asc.imp fun h=>by omega) (Stab.refl l)).symm];have:∀ c∈l,normC c=c:=fun c hc=>by
  unfold normC;rw[(eq_sortBy (key:=Side.cell) ((h.form c hc).asc.imp fun h=>by omega) (Stab.refl c.sides)).symm]
 rw[List.map_congr_left this];simp
theorem Rt.tab {l:List Cl}(h:Rt l):tabC l=l:=by rw[tabC_strict (by rw[h.canon]; exact h.asc),h.canon]
theorem Rt.check {l:List Cl}(h:Rt l):checkC l=(0,0):=by
 refine check_ok h.few ?_ ?_ ?_ ?_ <;> rw[h.canon]
 ·exact h.pos
 ·exact h.asc
 ·exact fun x hx=>(h.form x hx).ok
 ·exact h.around
theorem Rt.find {l:List Cl}(h:Rt l){c:Cl}(hc:c∈l):findT l c.id=some c:=by
 refine find_mem ?_ hc;rw[List.Nodup,List.pairwise_map];exact h.asc.imp fun h=>by omega
theorem chk2_none_form {tl:List Cl}:∀ {l:List Cl},chk2 tl l=none→∀ x∈l,x.dim>1→aroundC tl x=0
 | [],_,x,hx,_=>by simp at hx
 | y::r,h,x,hx,hd=>by
  unfold chk2 at h;split at h
  ·cases h
  ·rename_i hn
   rcases List.mem_cons.1 hx with rfl | hx
   ·exact Decidable.of_not_not fun h=>hn ⟨hd,h⟩
   ·exact chk2_none_form h x hx hd
theorem chk2_some {tl:List Cl}:∀ {l:List Cl} {p:Int×Int},chk2 tl l=some p→p.2≠0
 | [],_,h=>by cases h
 | y::r,p,h=>by
  unfold chk2 at h;split at h
  ·rename_i hn; cases h; exact hn.2
  ·exact chk2_some h
theorem canon_sides (l:List Cl):∀ c∈canonC l,c.sides.Pairwise fun a b=>a.cell≤b.cell:=fun c hc=>by
 obtain ⟨d,_,rfl⟩:=List.mem_map.1 hc;exact sortBy_srt d.sides
theorem rt_of {l:List Cl}(h:(checkC l).2=0):Rt (canonC l):=by
 have h1:=check_ne h;obtain ⟨h2,h3,h4⟩:=chk1_none_form h1;have ht:=tabC_strict h2;have h5:l.length≤4000:=check_len h;refine⟨by rw[canonC_length]; exact h5,h2,h3,fun x hx=>fm_of (by rw[← ht]; exact h4 x hx) (canon_sides l x hx),?_⟩;have h6:chk2 (tabC l) (canonC l)=none:=by
  unfold checkC at h;rw[if_neg oM,h1] at h;cases hc:chk2 (tabC l) (canonC l) with
  | none=>rfl
  | some p =>
   rw[hc] at h;exact absurd h (chk2_some hc)
 rw[ht] at h6;exact chk2_none_form h6
theorem perm_sumI {l m:List Int}(h:l.Perm m):l.sum=m.sum:=by
 induction h with
 | nil=>rfl
 | cons x _ ih=>simp[ih]
 | swap x y l=>simp; omega
 | trans _ _ ih1 ih2=>exact ih1.trans ih2
theorem perm_sumN {l m:List Nat}(h:l.Perm m):l.sum=m.sum:=by
 induction h with
 | nil=>rfl
 | cons x _ ih=>simp[ih]
 | swap x y l=>simp; omega
 | trans _ _ ih1 ih2=>exact ih1.trans ih2
theorem sortBy_perm {α:Type}{key:α→Int}(l:List α):(sortBy key l).Perm l:=by
 have hi:∀ (x:α) (l:List α),(ins key x l).Perm (x::l):=by
  intro x l;induction l with
  | nil=>exact .refl _
  | cons y r ih =>
   unfold ins;split
   ·exact .refl _
   ·exact (ih.cons y).trans (.swap x y r)
 induction l with
 | nil=>exact .refl _
 | cons x r ih=>exact (hi x _).trans (ih.cons x)
def inner (tl:List Cl)(x:Side)(r:Int):Int:=((sidesOf tl x).map fun q=>if q.cell=r then x.sign * q.sign else 0).sum
theorem sumR_inner (tl:List Cl)(l:List Side)(r:Int):sumR tl l r=(l.map fun x=>inner tl x r).sum:=by
 unfold sumR;induction l with
 | nil=>rfl
 | cons x q ih=>simp only[List.flatMap_cons,List.sum_append,List.map_cons,List.sum_cons,ih]; rfl
theorem sumR_perm {tl:List Cl}{l m:List Side}(h:l.Perm m)(r:Int):sumR tl l r=sumR tl m r:=by
 rw[sumR_inner,sumR_inner];exact perm_sumI (h.map _)
theorem cntR_perm {tl:List Cl}{l m:List Side}(h:l.Perm m)(r:Int):cntR tl l r=cntR tl m r:=perm_sumN (h.map _)
theorem share_perm {tl:List Cl}{l m:List Side}(h:∀ x,x∈l↔x∈m)(a b:Int):share tl l a b→share tl m a b:=fun ⟨x,hx,y,hy,r⟩=>⟨x,(h x).1 hx,y,(h y).1 hy,r⟩
def sgn (b:Bool):Int:=if b then -1 else 1
theorem sgn_sq (b:Bool):sgn b * sgn b=1:=by cases b <;> rfl
theorem negIf_sgn (b:Bool){a:Int}(h:a=1∨a = -1):negIf b a=sgn b * a∧(negIf b a=1∨negIf b a = -1):=by
 rcases h with rfl | rfl <;> cases b <;> exact⟨by decide,by decide⟩
theorem sum_const {α:Type}{l:List α}{f g:α→Int}{K:Int}(h:∀ x∈l,f x=K * g x):(l.map f).sum=K * (l.map g).sum:=by
 induction l with
 | nil=>simp
 | cons x r ih =>
  simp only[List.map_cons,List.sum_cons];rw[h x (by simp),ih fun y hy=>h y (by simp[hy]),Int.mul_add]
structure Nm (l:List Cl)(k:Int):Prop where
 inj:∀ a∈l,∀ b∈l,mixC a.id k=mixC b.id k→a=b
 pos:∀ a∈l,0<mixC a.id k
section
variable {l:List Cl}(h:Rt l){k:Int}(hn:Nm l k)(t:Int)
include h hn
omit hn in
theorem ren_sub (c:Cl)(hc:c∈l){x:Side}(hx:x∈c.sides):∃ d∈l,d.id=x.cell∧findT l x.cell=some d∧d.dim=c.dim - 1:=by
 obtain ⟨d,hd,hdd⟩:=(h.form c hc).found x hx;obtain ⟨h1,h2⟩:=findT_mem hd;exact⟨d,h1,h2,hd,hdd⟩
theorem ren_ids:((l.map (renCell k t)).map Cl.id).Nodup:=by
 rw[List.map_map,List.Nodup,List.pairwise_map];refine List.Pairwise.imp_of_mem ?_ h.asc;intro a b ha hb hlt e;have:=hn.inj a ha b hb e;subst this;omega
theorem ren_nodup:((canonC (l.map (renCell k t))).map Cl.id).Nodup:=by
 have h1:=ren_ids h hn t;have h2:((canonC (l.map (renCell k t))).map Cl.id).Perm ((l.map (renCell k t)).map Cl.id):=by
  rw[canonC_ids];exact (sortBy_perm _).map _
 exact h2.symm.nodup h1
omit h hn in
theorem ren_mem {c:Cl}(hc:c∈l):normC (renCell k t c)∈canonC (l.map (renCell k t)) :=
 List.mem_map.2 ⟨_,(sortBy_mem _ _).2 (List.mem_map.2 ⟨c,hc,rfl⟩),rfl⟩
omit h hn in
theorem mem_ren {c':Cl}(hc:c'∈canonC (l.map (renCell k t))):∃ c∈l,c'=normC (renCell k t c):=by
 obtain ⟨d,hd,rfl⟩:=List.mem_map.1 hc;obtain ⟨c,hc',rfl⟩:=List.mem_map.1 ((sortBy_mem _ _).1 hd);exact⟨c,hc',I⟩
theorem ren_find {c:Cl}(hc:c∈l):findT (canonC (l.map (renCell k t))) (mixC c.id k)=some (normC (renCell k t c)) :=
 find_mem (x:=normC (renCell k t c)) (ren_nodup h hn t) (ren_mem t hc)
omit h hn in
theorem ren_perm (c:Cl):(normC (renCell k t c)).sides.Perm (c.sides.map (renSide k t c)):=sortBy_perm _
omit hn in
theorem ren_sign {c:Cl}(hc:c∈l){x:Side}(hx:x∈c.sides):(renSide k t c x).sign=sgn (turn2 t c x.cell) * (sgn (turn1 t c) * x.sign)∧((renSide k t c x).sign=1∨(renSide k t c x).sign = -1):=by
 have h1:=negIf_sgn (turn1 t c) ((h.form c hc).sg x hx);have h2:=negIf_sgn (turn2 t c x.cell) h1.2;exact⟨by rw[← h1.1]; exact h2.1,h2.2⟩
theorem ren_form {c:Cl}(hc:c∈l):Fm (canonC (l.map (renCell k t))) (normC (renCell k t c)):=by
 have hf:=h.form c hc;have hlen:(normC (renCell k t c)).sides.length=c.sides.length:=by rw[(ren_perm t c).length_eq,List.length_map]
 have hmem:∀ x',x'∈(normC (renCell k t c)).sides↔∃ x∈c.sides,renSide k t c x=x':=fun x'=>by rw[(ren_perm t c).mem_iff,List.mem_map]
 refine⟨hf.dim,?_,fun x' hx'=>?_,?_,fun x' hx'=>?_,fun hd=>?_⟩
 ·have:=hf.cnt;unfold cntBad at this ⊢;rw[hlen];exact this
 ·obtain ⟨x,hx,rfl⟩:=(hmem x').1 hx';obtain ⟨d,hd,hid,_,hdd⟩:=ren_sub h c hc hx;have:=ren_find h hn t hd;rw[hid] at this;exact⟨_,this,hdd⟩
 ·have h1:(normC (renCell k t c)).sides.Pairwise fun a b=>a.cell≤b.cell:=sortBy_srt _;have h2:((normC (renCell k t c)).sides.map Side.cell).Nodup:=by
   refine ((ren_perm t c).map Side.cell).symm.nodup ?_;rw[List.map_map,List.Nodup,List.pairwise_map];refine List.Pairwise.imp_of_mem ?_ hf.asc;intro a b ha hb hlt e;obtain ⟨d,hd,hid,_⟩:=ren_sub h c hc ha;obtain ⟨d',hd',hid',_⟩:=ren_sub h c hc hb;have e:mixC a.cell k=mixC b.cell k:=e;rw[← hid,← hid'] at e;have:=hn.inj d hd d' hd' e;subst this;omega
  rw[List.Nodup,List.pairwise_map] at h2;exact (h1.and h2).imp fun ⟨h3,h4⟩=>by omega
 ·obtain ⟨x,hx,rfl⟩:=(hmem x').1 hx';exact (ren_sign h t hc hx).2
 ·have hd:c.dim=1:=hd;have h1:=hf.one hd;unfold sumS at h1 ⊢;rw[perm_sumI ((ren_perm t c).map Side.sign),List.map_map];rw[sum_const (g:=Side.sign) (K:=sgn (turn1 t c)) fun x hx=>?_,h1,Int.mul_zero];have h2:=(ren_sign (k:=k) h t hc hx).1;have h3:turn2 t c x.cell=false:=by unfold turn2; simp[hd]
  rw[h3] at h2;show (renSide k t c x).sign=_;rw[h2];unfold sgn;simp
theorem ren_hits {c:Cl}(hc:c∈l){x:Side}(hx:x∈c.sides){e:Cl}(he:e∈l):hits (canonC (l.map (renCell k t))) (renSide k t c x) (mixC e.id k)=hits l x e.id:=by
 obtain ⟨d,hd,hid,hfd,_⟩:=ren_sub h c hc hx;unfold hits sidesOf;rw[hfd,show (renSide k t c x).cell=mixC d.id k by rw[hid]; rfl,ren_find h hn t hd];show ((normC (renCell k t d)).sides.filter _).length=_;rw[((ren_perm t d).filter _).length_eq,List.filter_map,List.length_map];congr 1;refine List.filter_congr fun q hq=>?_;obtain ⟨u,hu,hui,_⟩:=ren_sub h d hd hq;show decide (mixC q.cell k=mixC e.id k)=decide (q.cell=e.id);rw[decide_eq_decide,← hui];by_cases hue:u=e
 ·subst hue; simp
 ·have h1:¬ mixC u.id k=mixC e.id k:=fun e'=>hue (hn.inj u hu e he e');have h2:¬ u.id=e.id:=fun e'=>hue (by have a1:=h.find hu; have a2:=h.find he; rw[e',a2] at a1; injection a1 with a1; exact a1.symm);simp[h1,h2]
theorem ren_hits_no {c:Cl}(hc:c∈l){x:Side}(hx:x∈c.sides){r:Int}(hr:∀ e∈l,mixC e.id k≠r):hits (canonC (l.map (renCell k t))) (renSide k t c x) r=0:=by
 obtain ⟨d,hd,hid,hfd,_⟩:=ren_sub h c hc hx;unfold hits sidesOf;rw[show (renSide k t c x).cell=mixC d.id k by rw[hid]; rfl,ren_find h hn t hd];show ((normC (renCell k t d)).sides.filter _).length=_;rw[((ren_perm t d).filter _).length_eq,List.length_eq_zero_iff,List.filter_eq_nil_iff];intro q' hq';obtain ⟨q,hq,rfl⟩:=List.mem_map.1 hq';obtain ⟨u,hu,hui,_⟩:=ren_sub h d hd hq;have:=hr u hu;rw[hui] at this;show ¬ decide (mixC q.cell k=r)=true;simpa using this
theorem ren_inner {c:Cl}(hc:c∈l)(hd1:c.dim>1){x:Side}(hx:x∈c.sides){e:Cl}(he:e∈l) :
  inner (canonC (l.map (renCell k t))) (renSide k t c x) (mixC e.id k)=sgn (turn1 t c) * sgn ((decide (t>1)&&decide (c.dim - 1>1))&&decide (e.id.tmod t=1)) * inner l x e.id:=by
 obtain ⟨d,hd,hid,hfd,hdd⟩:=ren_sub h c hc hx;have hsx:=(ren_sign (k:=k) h t hc hx).1;unfold inner sidesOf;rw[hfd,show (renSide k t c x).cell=mixC d.id k by rw[hid]; rfl,ren_find h hn t hd];show ((normC (renCell k t d)).sides.map _).sum=_;rw[perm_sumI ((ren_perm t d).map _),List.map_map];show _=_ * (d.sides.map _).sum;refine sum_const fun q hq=>?_;obtain ⟨u,hu,hui,_⟩:=ren_sub h d hd hq;have hsq:=(ren_sign (k:=k) h t hd hq).1;simp only[Function.comp_def];show (if mixC q.cell k=mixC e.id k then (renSide k t c x).sign * (renSide k t d q).sign else 0)=_;by_cases hue:u=e
 ·subst hue;rw[hui,if_pos rfl,if_pos rfl,hsx,hsq];have h1:turn2 t c x.cell=turn1 t d:=by
   unfold turn2 turn1;rw[hid];simp[hd1]
  have h2:turn2 t d q.cell=((decide (t>1)&&decide (c.dim - 1>1))&&decide (q.cell.tmod t=1)):=by
   unfold turn2;rw[hdd]
  rw[h1,h2];generalize turn1 t d=b1;generalize turn1 t c=b2;generalize ((decide (t>1)&&decide (c.dim - 1>1))&&decide (q.cell.tmod t=1))=b3;cases b1 <;> cases b2 <;> cases b3 <;> simp[sgn,Int.neg_mul,Int.mul_neg]
 ·have h1:¬ mixC q.cell k=mixC e.id k:=fun e'=>hue (hn.inj u hu e he (by rw[hui]; exact e'));have h2:¬ q.cell=e.id:=fun e'=>hue (by have a1:=h.find hu; have a2:=h.find he; rw[hui,e',a2] at a1; injection a1 with a1; exact a1.symm);rw[if_neg h1,if_neg h2,Int.mul_zero]
omit h hn in
theorem inner_no {tl:List Cl}{x:Side}{r:Int}(h0:hits tl x r=0):inner tl x r=0:=by
 unfold hits at h0;rw[List.length_eq_zero_iff,List.filter_eq_nil_iff] at h0;unfold inner;have:((sidesOf tl x).map fun q=>if q.cell=r then x.sign * q.sign else 0)=(sidesOf tl x).map fun _=>(0:Int):=List.map_congr_left fun q hq=>if_neg (by simpa using h0 q hq);rw[this];generalize sidesOf tl x=m;induction m with
 | nil=>rfl
 | cons a b ih=>simpa using ih
theorem ren_around {c:Cl}(hc:c∈l)(hd1:c.dim>1):aroundC (canonC (l.map (renCell k t))) (normC (renCell k t c))=0:=by
 have hf:=h.form c hc;have hf':=ren_form h hn t hc;have hn0:0<c.sides.length:=by
  have:=hf.cnt;simp[cntBad] at this;have:=this.2 hd1;omega
 have hlen:(normC (renCell k t c)).sides.length=c.sides.length:=by rw[(ren_perm t c).length_eq,List.length_map]
 have nd:∀ {c:Cl},(c.sides.Pairwise fun a b=>a.cell<b.cell)→(c.sides.map Side.cell).Nodup:=fun h=>by
  rw[List.Nodup,List.pairwise_map];exact h.imp fun h=>by omega
 obtain ⟨a1,a2,a3⟩:=(around_iff hn0 (nd hf.asc)).1 (h.around c hc hd1);refine (around_iff (by rw[hlen]; exact hn0) (nd hf'.asc)).2 ⟨fun r=>?_,fun r=>?_,fun x' hx' y' hy'=>?_⟩
 ·rw[sumR_perm (ren_perm t c),sumR_inner,List.map_map];simp only[Function.comp_def];by_cases hr:∃ e∈l,mixC e.id k=r
  ·obtain ⟨e,he,rfl⟩:=hr;have h1:=a1 e.id;rw[sumR_inner] at h1;rw[sum_const (g:=fun x=>inner l x e.id) (K:=sgn (turn1 t c) * sgn ((decide (t>1)&&decide (c.dim - 1>1))&&decide (e.id.tmod t=1))) fun x hx=>ren_inner h hn t hc hd1 hx he,h1,Int.mul_zero]
  ·have hr:∀ e∈l,mixC e.id k≠r:=fun e he e'=>hr ⟨e,he,e'⟩;rw[sum_const (g:=fun _=>(0:Int)) (K:=0) fun x hx=>by
    rw[inner_no (ren_hits_no h hn t hc hx hr)];rfl,Int.zero_mul]
 ·rw[cntR_perm (ren_perm t c)];unfold cntR;rw[List.map_map];simp only[Function.comp_def];by_cases hr:∃ e∈l,mixC e.id k=r
  ·obtain ⟨e,he,rfl⟩:=hr;have h1:=a2 e.id;unfold cntR at h1;rw[List.map_congr_left (g:=fun x=>hits l x e.id) fun x hx=>ren_hits h hn t hc hx he];exact h1
  ·have hr:∀ e∈l,mixC e.id k≠r:=fun e he e'=>hr ⟨e,he,e'⟩;left;rw[List.map_congr_left (g:=fun _=>0) fun x hx=>ren_hits_no h hn t hc hx hr];generalize c.sides=m;induction m with
   | nil=>rfl
   | cons a b ih=>simpa using ih
 ·have hmem:∀ x',x'∈(normC (renCell k t c)).sides↔x'∈c.sides.map (renSide k t c):=fun x'=>(ren_perm t c).mem_iff;obtain ⟨x,hx,rfl⟩:=List.mem_map.1 ((hmem x').1 hx');obtain ⟨y,hy,rfl⟩:=List.mem_map.1 ((hmem y').1 hy');have hm:∀ x∈c.sides,renSide k t c x∈(normC (renCell k t c)).sides:=fun x hx=>(hmem _).2 (List.mem_map.2 ⟨x,hx,rfl⟩);refine (a3 x hx y hy).map (f:=fun a=>mixC a k) fun a b=>?_;rintro ⟨u,hu,v,hv,rfl,rfl,r,h1,h2⟩;obtain ⟨du,hdu,hidu,hfu,_⟩:=ren_sub h c hc hu;have hr:∃ e∈l,e.id=r:=by
   unfold hits sidesOf at h1;rw[hfu] at h1;obtain ⟨q,hq⟩:=List.exists_mem_of_length_pos h1;obtain ⟨hq1,hq2⟩:=List.mem_filter.1 hq;obtain ⟨e,he,hei,_⟩:=ren_sub h du hdu (x:=q) hq1;exact⟨e,he,by rw[hei]; simpa using hq2⟩
  obtain ⟨e,he,rfl⟩:=hr;exact .one ⟨_,hm u hu,_,hm v hv,I,I,mixC e.id k,by rw[ren_hits h hn t hc hu he]; exact h1,by rw[ren_hits h hn t hc hv he]; exact h2⟩
theorem ren_right:Rt (canonC (l.map (renCell k t))):=by
 refine⟨by rw[canonC_length,List.length_map]; exact h.few,?_,fun x' hx'=>?_,fun x' hx'=>?_,fun x' hx' hd=>?_⟩
 ·have h1:=canonC_sorted (l.map (renCell k t));have h2:=ren_nodup h hn t;rw[List.pairwise_map] at h1;rw[List.Nodup,List.pairwise_map] at h2;exact (h1.and h2).imp fun ⟨h3,h4⟩=>by omega
 ·obtain ⟨c,hc,rfl⟩:=mem_ren t hx';exact hn.pos c hc
 ·obtain ⟨c,hc,rfl⟩:=mem_ren t hx';exact ren_form h hn t hc
 ·obtain ⟨c,hc,rfl⟩:=mem_ren t hx';exact ren_around h hn t hc hd
end
def Bd (l:List Cl):Prop:=∀ c∈l,c.id≤l.length
theorem rt_simp (ls:List (List Int)):Rt (simpC ls)∧Bd (simpC ls):=by
 have h1:=rt_of (l:=simpC ls) (by rw[simpC_right]);have h2:canonC (simpC ls)=simpC ls:=by
  unfold simpC;cases simpAll [] ls with
  | none=>rfl
  | some all=>exact canonC_idem _
 rw[h2] at h1;refine⟨h1,?_⟩;unfold simpC;cases h:simpAll [] ls with
 | none=>intro c hc; simp at hc
 | some all =>
  obtain ⟨hg,_⟩:=simpAll_good ls [] h Good.nil (by simp);dsimp only;rw[hg.cells];intro c hc;obtain ⟨s,hs,rfl⟩:=List.mem_map.1 hc;have:=(List.getElem?_eq_some_iff.1 (hg.get_lb hs)).1;show ixC all s≤_;unfold ixC;rw[List.length_map];omega
theorem lbI_lt {l:List Int}{x:Int}(h:x∈l):lbI l x<l.length:=by
 unfold lbI;induction l with
 | nil=>simp at h
 | cons a r ih =>
  rw[List.filter_cons]
  rcases List.mem_cons.1 h with rfl | h
  ·have:=List.length_filter_le (fun y=>decide (y<x)) r;simp;omega
  ·have:=ih h;split
   ·simp only[List.length_cons]; omega
   ·simp only[List.length_cons]; omega
theorem rt_prod (a b:List Cl):Rt (refProdC a b)∧Bd (refProdC a b)∧(refProdC a b).length≤a.length * b.length:=by
 rw[prod_ref];unfold prodC;split
 ·exact⟨⟨by simp,List.Pairwise.nil,by simp,by simp,by simp⟩,fun c hc=>by simp at hc,by simp⟩
 ·rename_i hbad;split
  ·rename_i hok;have hlen:(canonC (prodAll a b)).length=a.length * b.length:=by
    rw[canonC_length];unfold prodAll;rw[flatMap_len,canonC_length,canonC_length]
   refine⟨rt_of hok,fun c hc=>?_,by rw[hlen]; exact lR _⟩;rw[hlen];obtain ⟨h1,h2,_⟩:=prodBad_no (by simpa using hbad);have ta:=tabC_strict (chk1_none_form (check_ne h1)).1;have tb:=tabC_strict (chk1_none_form (check_ne h2)).1;obtain ⟨d,hd,rfl⟩:=List.mem_map.1 hc;have hd:=(sortBy_mem _ _).1 hd;unfold prodAll at hd;rw[ta,tb] at hd;obtain ⟨x,hx,hd⟩:=List.mem_flatMap.1 hd;obtain ⟨y,hy,rfl⟩:=List.mem_map.1 hd;have l1:=lbI_lt (List.mem_map.2 ⟨x,hx,rfl⟩:x.id∈(canonC a).map Cl.id);have l2:=lbI_lt (List.mem_map.2 ⟨y,hy,rfl⟩:y.id∈(canonC b).map Cl.id);rw[List.length_map,canonC_length] at l1 l2;show prodId (canonC a) (canonC b) x.id y.id≤_;unfold prodId;rw[canonC_length];have h3:(lbI ((canonC a).map Cl.id) x.id+1) * b.length≤a.length * b.length:=Nat.mul_le_mul_right _ l1;rw[Nat.succ_mul] at h3;have h4:((lbI ((canonC a).map Cl.id) x.id * b.length:Nat):Int)=(lbI ((canonC a).map Cl.id) x.id:Int) * (b.length:Int):=Int.natCast_mul _ _;rw[← h4];omega
  ·exact⟨⟨by simp,List.Pairwise.nil,by simp,by simp,by simp⟩,fun c hc=>by simp at hc,by simp⟩
theorem poly_check:∀ n,n<7→2≤n→(checkC (polyC n)).2=0∧∀ c∈polyC n,c.id≤90:=by decide +kernel
theorem poly_len:∀ n,n<7→(polyC n).length≤45:=by decide +kernel
theorem simpAll_two:∀ (ls acc:List (List Int)) {all:List (List Int)},simpAll acc ls=some all→(∀ x∈ls,x.length≤2)→all.length≤acc.length+3 * ls.length
 | [],acc,all,h,_=>by cases h; simp
 | s::r,acc,all,h,hl=>by
  have hs:=hl s (by simp);have h3:(setC s).length≤s.length:=by
   unfold setC;exact Nat.le_trans (uniq_length _ _) (by rw[sortI_length]; exact lR _)
  simp only[List.length_cons];unfold simpAll at h;split at h
  ·have:=simpAll_two r acc h fun x hx=>hl x (by simp[hx]);omega
  ·split at h
   ·cases h
   ·have h1:=simpAll_two r _ h fun x hx=>hl x (by simp[hx]);have h2:(addSets acc (setC s)).length≤acc.length+3:=by
     unfold addSets;refine Nat.le_trans (uniq_length _ _) ?_;rw[(sortL_perm _).length_eq,List.length_append];have:2 ^ (setC s).length≤2 ^ 2:=Nat.pow_le_pow_right dC oM;simp[subsetsC];omega
    omega
theorem circle_len:(simpC [[0,1],[1,2],[0,2]]).length≤9:=by
 unfold simpC;cases h:simpAll [] [[0,1],[1,2],[0,2]] with
 | none=>simp
 | some all =>
  have:=simpAll_two _ _ h dC;dsimp only;rw[canonC_length,simpCells_length];simpa using this
theorem rt_base (m:Int)(ls:List (List Int))(y:Int):Rt (bigC (baseM m ls y))∧∀ c∈bigC (baseM m ls y),c.id≤90:=by
 have key:∀ l:List Cl,Rt l→(l.length≤45→∀ c∈l,c.id≤90)→Rt (bigC l)∧∀ c∈bigC l,c.id≤90:=by
  intro l h1 h2;unfold bigC;split
  ·have h3:=rt_prod (simpC [[0,1],[1,2],[0,2]]) (simpC [[0,1],[1,2],[0,2]]);refine⟨h3.1,fun c hc=>?_⟩;have h4:=h3.2.1 c hc;have h5:=h3.2.2;have h6:torusC.length≤9 * 9:=Nat.le_trans h5 (Nat.mul_le_mul circle_len circle_len);have h7:c.id≤torusC.length:=h4;omega
  ·exact⟨h1,h2 oM⟩
 have hS:∀ ls,Rt (bigC (simpC ls))∧∀ c∈bigC (simpC ls),c.id≤90:=fun ls=>key _ (rt_simp ls).1 fun hl c hc=>by have:=(rt_simp ls).2 c hc; omega
 have hP:∀ a b,Rt (bigC (refProdC a b))∧∀ c∈bigC (refProdC a b),c.id≤90:=fun a b=>key _ (rt_prod a b).1 fun hl c hc=>by have:=(rt_prod a b).2.1 c hc; omega
 have h5:=modW_range y 5 dC dC;unfold baseM
 repeat' split
 ·exact hS _
 ·exact hP _ _
 ·have h6:=poly_check (2+modW y 5).toNat oM oM;have h7:=rt_of h6.1;rw[show canonC (polyC (2+modW y 5).toNat)=polyC (2+modW y 5).toNat from canonC_idem _] at h7;exact key _ h7 fun _=>h6.2
 ·exact hP _ _
 ·exact hS _
 ·exact hS _
theorem mix_inj:∀ k∈[1,3,5],∀ a,a<91→∀ b,b<91→mixC (a:Nat) k=mixC (b:Nat) k→a=b:=by decide +kernel
theorem mix_pos:∀ k∈[1,3,5],∀ a,a<91→0<a→0<mixC (a:Nat) k:=by decide +kernel
theorem made_right (kd:Int)(ls:List (List Int))(y:Int):Rt (madeC kd ls y):=by
 obtain ⟨h1,h2⟩:=rt_base (modW kd 8) ls y;have hk:renK y∈[(1:Int),3,5]:=by
  have:=modW_range (IntKind.i64.wrap (y.tdiv 7)) 3 dC dC;unfold renK;generalize modW (IntKind.i64.wrap (y.tdiv 7)) 3=q at *
  rcases (by omega:q=0∨q=1∨q=2) with rfl | rfl | rfl <;> decide
 refine ren_right h1 ⟨fun a ha b hb e=>?_,fun a ha=>?_⟩ _
 ·have p1:=h1.pos a ha;have p2:=h1.pos b hb;have q1:=h2 a ha;have q2:=h2 b hb;have e1:((a.id.toNat:Nat):Int)=a.id:=Int.toNat_of_nonneg oM;have e2:((b.id.toNat:Nat):Int)=b.id:=Int.toNat_of_nonneg oM;have:=mix_inj _ hk a.id.toNat oM b.id.toNat oM (by rw[e1,e2]; exact e);have hid:a.id=b.id:=oM;have f1:=h1.find ha;have f2:=h1.find hb;rw[hid,f2] at f1;injection f1 with f1
  exact f1.symm
 ·have p1:=h1.pos a ha;have q1:=h2 a ha;have e1:((a.id.toNat:Nat):Int)=a.id:=Int.toNat_of_nonneg oM;have:=mix_pos _ hk a.id.toNat oM oM;rw[e1] at this;exact this
def part (l:List Cl)(p:Int→Bool):List Cl:=l.filter fun c=>p c.id
def ClosedP (l:List Cl)(p:Int→Bool):Prop:=∀ c∈l,p c.id=true→∀ x∈c.sides,p x.cell=true
theorem part_find {l:List Cl}{p:Int→Bool}{id:Int}(hp:p id=true):findT (part l p) id=findT l id:=by
 unfold findT part;induction l with
 | nil=>rfl
 | cons c r ih =>
  rw[List.filter_cons];by_cases hc:c.id=id
  ·rw[if_pos (by rw[hc]; exact hp)];simp[hc]
  ·split
   ·simp only[List.find?_cons,hc,decide_false];exact ih
   ·simp only[List.find?_cons,hc,decide_false];exact ih
theorem part_none {l:List Cl}{p:Int→Bool}{id:Int}(hp:p id=false):findT (part l p) id=none:=by
 unfold findT part;rw[List.find?_eq_none];intro c hc;have:=(List.mem_filter.1 hc).2;simp;intro e;rw[e,hp] at this;cases this
theorem part_right {l:List Cl}(h:Rt l){p:Int→Bool}(hp:ClosedP l p):Rt (part l p):=by
 have hsub:(part l p).Sublist l:=List.filter_sublist;refine⟨Nat.le_trans hsub.length_le h.few,h.asc.sublist hsub,fun x hx=>h.pos x (hsub.subset hx),fun c hc=>?_,fun c hc hd=>?_⟩
 ·obtain ⟨hc1,hc2⟩:=List.mem_filter.1 hc;have hf:=h.form c hc1;exact⟨hf.dim,hf.cnt,fun x hx=>by rw[part_find (hp c hc1 hc2 x hx)]; exact hf.found x hx,hf.asc,hf.sg,hf.one⟩
 ·obtain ⟨hc1,hc2⟩:=List.mem_filter.1 hc;rw[← h.around c hc1 hd,aroundC_L,aroundC_L];congr 1;unfold lookL;refine List.map_congr_left fun x hx=>?_;unfold sidesOf;rw[part_find (hp c hc1 hc2 x hx)]
theorem perm_canon {l F:List Cl}(hF:Rt F)(hp:l.Perm F):canonC l=F:=by
 have hc:=hF.canon;have hs:sortBy Cl.id l=F:=by
  refine (eq_sortBy (hF.asc.imp fun h=>by omega) ⟨hp.length_eq.symm,fun k=>?_⟩).symm;have h1:(l.filter fun a=>a.id == k).Perm (F.filter fun a=>a.id == k):=hp.filter _;have h3:(F.filter fun a=>a.id == k).Pairwise fun a b=>a.id<b.id:=hF.asc.sublist List.filter_sublist;have h5:∀ a∈F.filter (fun a=>a.id == k),a.id=k:=fun a ha=>by simpa using (List.mem_filter.1 ha).2
  generalize F.filter (fun a=>a.id == k)=m at *
  match m,h1,h3,h5 with
  | [],h1,_,_=>exact (List.perm_nil.1 h1).symm
  | [a],h1,_,_=>exact (List.perm_singleton.1 h1).symm
  | a::b::r,_,h3,h5 =>
   have h4:=(List.pairwise_cons.1 h3).1 b (by simp);have h6:=h5 a (by simp);have h7:=h5 b (by simp);omega
 unfold canonC at hc ⊢;rw[hs];have hs2:sortBy Cl.id F=F:=(eq_sortBy (key:=Cl.id) (hF.asc.imp fun h=>by omega) (Stab.refl F)).symm;rw[hs2] at hc;exact hc
theorem Rt.nodup {l:List Cl}(h:Rt l):l.Nodup:=h.asc.imp fun h e=>by subst e; omega
theorem Rt.same {l:List Cl}(h:Rt l){a b:Cl}(ha:a∈l)(hb:b∈l)(e:a.id=b.id):a=b:=by
 have f1:=h.find ha;have f2:=h.find hb;rw[e,f2] at f1;injection f1 with f1
 exact f1.symm
end Go.Proofs.YteahknngoogpaaaGreatDoor
