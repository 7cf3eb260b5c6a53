/- Rgt2 Rgt3 Frm2 Sec2 Rgt4 Rgt5 Aro2 Ren1 Ren2 Ren3 MadI Par0 Own1 Shu -/
import Derived.Test.YtackilpikhkijaaGreatDoorOw08
import Derived.Test.YtackilpikhkijaaGreatDoorOw07
import Derived.SizedLaws
import Derived.Test.YtackilpikhkijaaGreatDoorOw05
import Derived.Test.YtackilpikhkijaaGreatDoorOw04
set_option linter.unusedSimpArgs false
set_option linter.unusedVariables false
namespace Go.Proofs.YtackilpikhkijaaGreatDoor
open _root_.Go.Proofs.Tryz _root_.Go.Proofs.YtackilpikhkijaaGreatDoor.Tryz
open Go Go.Sy Go.Pl Go.Proofs
theorem pickB_cons (b:Nat)(a:Int)(l:List Int):pickB b (a::l)=(if b % 2=1 then [a] else [])++pickB (b / 2) l:=by
 unfold pickB;have hz:∀ (l:List Int) (i:Nat),((l.zipIdx (i+1)).filter fun p=>b / 2 ^ p.2 % 2 == 1).map (·.1)=((l.zipIdx i).filter fun p=>b / 2 / 2 ^ p.2 % 2 == 1).map (·.1):=by
  intro l;induction l with
  | nil=>intro i; rfl
  | cons x r ih =>
   intro i;have hp:b / 2 ^ (i+1)=b / 2 / 2 ^ i:=by rw[Nat.pow_succ,Nat.mul_comm,Nat.div_div_eq_div_mul]
   simp only[List.zipIdx_cons,List.filter_cons,hp];have:=ih (i+1);split
   ·simp only[List.map_cons,this]
   ·exact this
 simp only[List.zipIdx_cons,List.filter_cons,Nat.pow_zero,Nat.div_one];by_cases h:b % 2=1
 ·simp only[h,if_true,beq_self_eq_true,List.map_cons];rw[hz l 0];rfl
 ·have h2:(b % 2 == 1)=false:=by simpa using h
  simp only[h,h2,if_false,Bool.false_eq_true];rw[hz l 0];rfl
theorem pickB_sub (l:List Int):∀ b,(pickB b l).Sublist l:=by
 induction l with
 | nil=>intro b; exact .slnil
 | cons a r ih =>
  intro b;rw[pickB_cons];split
  ·exact (ih _).cons_cons a
  ·exact (ih _).cons a
theorem pickB_ne (l:List Int):∀ b,b≠0→b<2 ^ l.length→pickB b l≠[]:=by
 induction l with
 | nil=>intro b h0 h; simp at h; exact absurd h h0
 | cons a r ih =>
  intro b h0 h;rw[pickB_cons];split
  ·simp
  ·rename_i h1;rw[List.length_cons,Nat.pow_succ] at h;simpa using ih (b / 2) oM oM
theorem pick_of_sub {x l:List Int}(h:x.Sublist l):∃ b,b<2 ^ l.length∧pickB b l=x:=by
 induction h with
 | slnil=>exact⟨0,by simp,rfl⟩
 | cons a _ ih =>
  obtain ⟨b,hb,e⟩:=ih;refine⟨2 * b,by rw[List.length_cons,Nat.pow_succ]; omega,?_⟩;rw[pickB_cons,if_neg oM,show 2 * b / 2=b by omega,e];rfl
 | cons_cons a _ ih =>
  obtain ⟨b,hb,e⟩:=ih;refine⟨2 * b+1,by rw[List.length_cons,Nat.pow_succ]; omega,?_⟩;rw[pickB_cons,if_pos oM,show (2 * b+1) / 2=b by omega,e];rfl
theorem subsetsC_iff (t x:List Int):x∈subsetsC t↔x.Sublist t∧x≠[]:=by
 unfold subsetsC;constructor
 ·intro h;obtain ⟨i,hi,rfl⟩:=List.mem_map.1 h;have:=List.mem_range.1 hi;exact⟨pickB_sub _ _,pickB_ne _ _ oM oM⟩
 ·rintro ⟨h,hne⟩;obtain ⟨b,hb,rfl⟩:=pick_of_sub h;have h0:b≠0:=fun e=>by
   subst e;apply hne;have:∀ l:List Int,pickB 0 l=[]:=by
    intro l;induction l with
    | nil=>rfl
    | cons a r ih=>rw[pickB_cons]; simpa using ih
   exact this t
  exact List.mem_map.2 ⟨b - 1,List.mem_range.2 oM,by rw[show b - 1+1=b by omega]⟩
structure Good (all:List (List Int)):Prop where
 strict:StrictL all
 form:∀ s∈all,s≠[]∧StrictI s∧s.length≤9
 faces:∀ s∈all,2≤s.length→∀ k,k<s.length→s.eraseIdx k∈all
theorem Good.nil:Good []:=⟨List.Pairwise.nil,by simp,by simp⟩
theorem Good.add {all:List (List Int)}{t:List Int}(h:Good all)(ht:StrictI t)(hl:t.length≤9):Good (addSets all t):=by
 refine⟨addSets_strict all t,fun s hs=>?_,fun s hs h2 k hk=>?_⟩
 ·rcases (addSets_iff all t s).1 hs with h1 | h1
  ·exact h.form s h1
  ·obtain ⟨h2,h3⟩:=(subsetsC_iff t s).1 h1;exact⟨h3,ht.sublist h2,Nat.le_trans h2.length_le hl⟩
 ·refine (addSets_iff all t _).2 ?_
  rcases (addSets_iff all t s).1 hs with h1 | h1
  ·exact .inl (h.faces s h1 h2 k hk)
  ·refine .inr ((subsetsC_iff t _).2 ⟨(List.eraseIdx_sublist s k).trans ((subsetsC_iff t s).1 h1).1,fun e=>?_⟩);have:=congrArg List.length e;rw[List.length_eraseIdx] at this;simp[hk] at this;omega
theorem simpAll_good:∀ (ls acc:List (List Int)) {all:List (List Int)},simpAll acc ls=some all→Good acc→acc.length≤4000→Good all∧all.length≤4000
 | [],acc,all,h,hg,hl=>by cases h; exact⟨hg,hl⟩
 | s::r,acc,all,h,hg,hl=>by
  unfold simpAll at h;split at h
  ·exact simpAll_good r acc h hg hl
  ·rename_i hb;split at h
   ·cases h
   ·rename_i hlen;refine simpAll_good r _ h (hg.add (setC_strict s) ?_) oM;cases hc:setC s with
    | nil=>simp
    | cons a q =>
     rw[hc] at hb;simp[badSet] at hb;simp;omega
section
variable {all:List (List Int)}(hg:Good all)
include hg
theorem Good.get_lb {t:List Int}(ht:t∈all):all[lbL all t]?=some t:=by
 obtain ⟨h1,h2⟩:=lbL_split t hg.strict.srt;have hs:StrictL (all.take (lbL all t)++all.drop (lbL all t)):=by rw[List.take_append_drop]; exact hg.strict
 have hd:=(List.pairwise_append.1 hs).2.1;have hm:t∈all.drop (lbL all t):=by
  have:t∈all.take (lbL all t)++all.drop (lbL all t):=by rw[List.take_append_drop]; exact ht
  rcases List.mem_append.1 this with h | h
  ·have:=h1 t h;rw[compareC_self] at this;exact absurd this dC
  ·exact h
 have e:all[lbL all t]?=(all.drop (lbL all t))[0]?:=by simp
 rw[e];cases hc:all.drop (lbL all t) with
 | nil=>rw[hc] at hm; simp at hm
 | cons y r =>
  rw[hc] at hm hd h2
  rcases List.mem_cons.1 hm with rfl | hm
  ·rfl
  ·exact absurd ((List.pairwise_cons.1 hd).1 t hm) (h2 y (by simp))
theorem Good.lb_get {k:Nat}(hk:k<all.length):lbL all all[k]=k:=by
 have h1:=hg.get_lb (gM hk);obtain ⟨h2,h3⟩:=List.getElem?_eq_some_iff.1 h1;have hself:¬ compareC all[k] all[k]<0:=by rw[compareC_self]; decide
 rcases Nat.lt_trichotomy (lbL all all[k]) k with h | h | h
 ·have:=List.pairwise_iff_getElem.1 hg.strict _ _ h2 hk h;rw[h3] at this;exact absurd this hself
 ·exact h
 ·have:=List.pairwise_iff_getElem.1 hg.strict _ _ hk h2 h;rw[h3] at this;exact absurd this hself
end
def ixC (all:List (List Int))(t:List Int):Int:=((lbL all t:Nat):Int)+1
theorem Good.inj {all:List (List Int)}(hg:Good all){t u:List Int}(ht:t∈all)(hu:u∈all)(h:ixC all t=ixC all u):t=u:=by
 have h1:=hg.get_lb ht;have h2:=hg.get_lb hu;have:lbL all t=lbL all u:=by unfold ixC at h; omega
 rw[this,h2] at h1;injection h1 with h1
 exact h1.symm
theorem Good.lt {all:List (List Int)}(hg:Good all){t u:List Int}(ht:t∈all)(hu:u∈all)(h:compareC t u<0):ixC all t<ixC all u:=by
 obtain ⟨i1,e1⟩:=List.getElem?_eq_some_iff.1 (hg.get_lb ht);obtain ⟨i2,e2⟩:=List.getElem?_eq_some_iff.1 (hg.get_lb hu);unfold ixC
 rcases Nat.lt_trichotomy (lbL all t) (lbL all u) with h1 | h1 | h1
 ·omega
 ·have:t=u:=hg.inj ht hu (by unfold ixC; omega);subst this;rw[compareC_self] at h;exact absurd h dC
 ·have:=List.pairwise_iff_getElem.1 hg.strict _ _ i2 i1 h1;rw[e1,e2] at this;exact absurd h (compareC_asymm this)
def facesC (all:List (List Int))(s:List Int):List Side:=if s.length≤1 then [] else (List.range s.length).reverse.map fun k:Nat=>⟨ixC all (s.eraseIdx k),signC k⟩
def celC (all:List (List Int))(s:List Int):Cl:=⟨ixC all s,(s.length:Int) - 1,facesC all s⟩
theorem erase_lt {s:List Int}(hs:StrictI s):∀ {i j:Nat},i<j→j<s.length→compareC (s.eraseIdx j) (s.eraseIdx i)<0:=by
 induction s with
 | nil=>intro i j _ h; simp at h
 | cons a r ih =>
  intro i j hij hj;obtain ⟨h1,h2⟩:=List.pairwise_cons.1 hs;cases j with
  | zero=>omega
  | succ j =>
   simp only[List.length_cons] at hj;cases i with
   | zero =>
    cases r with
    | nil=>simp at hj
    | cons b q =>
     have hab:=h1 b (by simp);have hl:((a::b::q).eraseIdx (j+1)).length=((a::b::q).eraseIdx 0).length:=by
      simp[List.length_eraseIdx] at hj ⊢;omega
     rw[compareC_same hl];simp only[List.eraseIdx_cons_succ,List.eraseIdx_cons_zero,cmpL];have:cmpI a b = -1:=by unfold cmpI; rw[if_pos hab]
     simp[this]
   | succ i =>
    have h3:=ih h2 (i:=i) (j:=j) oM oM;have hl:(r.eraseIdx j).length=(r.eraseIdx i).length:=by
     rw[List.length_eraseIdx,List.length_eraseIdx,if_pos oM,if_pos oM]
    have hl2:((a::r).eraseIdx (j+1)).length=((a::r).eraseIdx (i+1)).length:=by simp[hl]
    rw[compareC_same hl] at h3;rw[compareC_same hl2];simp only[List.eraseIdx_cons_succ,cmpL];have:cmpI a a=0:=by unfold cmpI; rw[if_neg oM,if_neg oM]
    simpa [this] using h3
theorem find_mem {A:List Cl}(h:(A.map Cl.id).Nodup){x:Cl}(hx:x∈A):findT A x.id=some x:=by
 induction A with
 | nil=>simp at hx
 | cons c t ih =>
  simp only[List.map_cons,List.nodup_cons] at h;unfold findT
  rcases List.mem_cons.1 hx with rfl | hx
  ·simp
  ·have hne:¬ c.id=x.id:=fun e=>h.1 (by rw[e]; exact List.mem_map.2 ⟨x,hx,rfl⟩);rw[List.find?_cons];simp only[hne,decide_false];exact ih h.2 hx
theorem normC_idem (c:Cl):normC (normC c)=normC c:=by
 unfold normC;rw[← eq_sortBy (sortBy_srt c.sides) (Stab.refl _)]
theorem canonC_idem (l:List Cl):canonC (canonC l)=canonC l:=by
 have h1:sortBy Cl.id (canonC l)=canonC l:=(eq_sortBy (canonC_srt l) (Stab.refl _)).symm;show (sortBy Cl.id (canonC l)).map normC=canonC l;rw[h1];unfold canonC;rw[List.map_map];exact List.map_congr_left fun c _=>normC_idem c
theorem sort_rev {α:Type}{key:α→Int}{l:List α}(h:l.Pairwise fun a b=>key b<key a):sortBy key l=l.reverse:=by
 refine (eq_sortBy ?_ ⟨by simp,fun c=>?_⟩).symm
 ·unfold Srt;rw[List.pairwise_reverse];exact h.imp fun h=>by omega
 ·rw[List.filter_reverse];have:∀ m:List α,m.Pairwise (fun a b=>key b<key a)→(∀ a∈m,(key a == c)=true)→m.reverse=m:=by
   intro m hm hc
   match m,hm,hc with
   | [],_,_=>rfl
   | [_],_,_=>rfl
   | a::b::r,hm,hc =>
    have h1:=(List.pairwise_cons.1 hm).1 b (by simp);have h2:=hc a (by simp);have h3:=hc b (by simp);simp at h2 h3;omega
  exact this _ (h.sublist List.filter_sublist) fun a ha=>(List.mem_filter.1 ha).2
section
variable {all:List (List Int)}(hg:Good all)
include hg
theorem Good.face {s:List Int}(hs:s∈all){k:Nat}(hk:k<s.length)(h2:2≤s.length):s.eraseIdx k∈all∧(s.eraseIdx k).length=s.length - 1 :=
 ⟨hg.faces s hs h2 k hk,by rw[List.length_eraseIdx,if_pos hk]⟩
theorem Good.sides {s:List Int}(hs:s∈all):sortBy Side.cell (simpSides all s s.length)=facesC all s:=by
 have hne:=(hg.form s hs).1;have hst:=(hg.form s hs).2.1;by_cases h1:s.length≤1
 ·have h0:s.length=1:=by have:=List.length_pos_iff.2 hne; omega
  unfold facesC;rw[if_pos h1,h0];have:sideAt all s 0=[]:=by
   unfold sideAt;have h3:(s.eraseIdx 0).length=0:=by rw[List.length_eraseIdx,if_pos oM]; omega
   rw[if_neg oM]
  simp[simpSides,List.range_succ,this,sortBy]
 ·have h2:2≤s.length:=oM;have e:simpSides all s s.length=(List.range s.length).map fun k:Nat=>(⟨ixC all (s.eraseIdx k),signC k⟩:Side):=by
   unfold simpSides;rw[List.flatMap_def];have:(List.range s.length).map (sideAt all s)=(List.range s.length).map fun k:Nat=>[(⟨ixC all (s.eraseIdx k),signC k⟩:Side)]:=List.map_congr_left fun k hk=>by
    have hk:=List.mem_range.1 hk;unfold sideAt;rw[(hg.face hs hk h2).2,if_pos oM];rfl
   rw[this];generalize List.range s.length=R;induction R with
   | nil=>rfl
   | cons x r ih=>simp only[List.map_cons,List.flatten_cons,ih]; rfl
  unfold facesC;rw[if_neg h1,e,List.map_reverse];refine sort_rev ?_;rw[List.pairwise_map];refine List.Pairwise.imp_of_mem ?_ (List.pairwise_lt_range (n:=s.length));intro i j hi hj hij;have hi:=List.mem_range.1 hi;have hj:=List.mem_range.1 hj;exact hg.lt (hg.face hs hj h2).1 (hg.face hs hi h2).1 (erase_lt hst hij hj)
theorem Good.cells:canonC (simpCells all)=all.map (celC all):=by
 rw[canon_simp];apply List.ext_getElem?;intro k;simp only[List.getElem?_map];by_cases hk:k<all.length
 ·rw[simpCells_get hk,gE hk];simp only[Option.map_some,Option.some.injEq];unfold normC simpCell celC;simp only[hg.sides (gM hk),ixC,hg.lb_get hk]
 ·rw[List.getElem?_eq_none (by rw[simpCells_length]; omega),List.getElem?_eq_none oM];rfl
theorem Good.ids:((all.map (celC all)).map Cl.id).Pairwise (· < ·):=by
 rw[List.map_map,List.pairwise_map];refine List.Pairwise.imp_of_mem ?_ hg.strict;intro a b ha hb h;exact hg.lt ha hb h
theorem Good.find {s:List Int}(hs:s∈all):findT (all.map (celC all)) (ixC all s)=some (celC all s) :=
 find_mem (x:=celC all s) (hg.ids.imp fun h=>by omega) (List.mem_map.2 ⟨s,hs,rfl⟩)
end
theorem signC_one (k:Nat):signC k=1∨signC k = -1:=by unfold signC; omega
theorem facesC_get {all:List (List Int)}{s:List Int}(h:2≤s.length){i:Nat}(hi:i<s.length):(facesC all s)[i]?=some ⟨ixC all (s.eraseIdx (s.length - 1 - i)),signC ((s.length - 1 - i:Nat):Int)⟩:=by
 unfold facesC;rw[if_neg oM,List.getElem?_map,List.getElem?_reverse (by simpa using hi)];simp only[List.length_range];rw[List.getElem?_range oM];rfl
theorem facesC_length {all:List (List Int)}{s:List Int}:(facesC all s).length=if s.length≤1 then 0 else s.length:=by
 unfold facesC;split <;> simp
section
variable {all:List (List Int)}(hg:Good all)
include hg
theorem Good.formOk {s:List Int}(hs:s∈all):formC (all.map (celC all)) (celC all s)=0:=by
 obtain ⟨hne,hst,h9⟩:=hg.form s hs;have hp:=List.length_pos_iff.2 hne;have hlen:(celC all s).sides.length=if s.length≤1 then 0 else s.length:=facesC_length
 have hdim:(celC all s).dim=(s.length:Int) - 1:=rfl;have h1:dimBad (celC all s)=false:=by unfold dimBad; rw[hdim]; simp; omega
 have h2:cntBad (celC all s)=false:=by
  unfold cntBad;rw[hdim,hlen];split
  ·simp; omega
  ·simp; omega
 have h3:(List.range (celC all s).sides.length).any (badAt (all.map (celC all)) (celC all s))=false:=by
  rw[List.any_eq_false];intro i hi;have hi:=List.mem_range.1 hi;rw[hlen] at hi;split at hi
  ·omega
  ·rename_i hl;have h2:2≤s.length:=oM;have hgi:=facesC_get (all:=all) h2 hi;have hf:=hg.face hs (k:=s.length - 1 - i) oM h2;unfold badAt;rw[show (celC all s).sides[i]?=_ from hgi];show ¬ badSide _ _ i ⟨ixC all (s.eraseIdx (s.length - 1 - i)),_⟩=true;unfold badSide;dsimp only;rw[hg.find hf.1];have hd:(celC all (s.eraseIdx (s.length - 1 - i))).dim=(celC all s).dim - 1:=by
    show ((s.eraseIdx (s.length - 1 - i)).length:Int) - 1=(s.length:Int) - 1 - 1;rw[hf.2];omega
   simp only[Option.isSome_some,Bool.not_true,Bool.false_or,Option.getD_some,hd,ne_eq,not_true_eq_false,decide_false];by_cases hi0:i>0
   ·have hgp:=facesC_get (all:=all) h2 (i:=i - 1) oM;rw[show (celC all s).sides[i - 1]?=_ from hgp];have hf2:=hg.face hs (k:=s.length - 1 - (i - 1)) oM h2;have:=hg.lt hf2.1 hf.1 (erase_lt hst oM oM);simp;omega
   ·simp[hi0]
 have h4:(celC all s).sides.any signBad=false:=by
  rw[List.any_eq_false];intro x hx;show ¬ signBad x=true;have hx:x∈facesC all s:=hx;unfold facesC at hx;split at hx
  ·simp at hx
  ·obtain ⟨k,_,rfl⟩:=List.mem_map.1 hx
   rcases signC_one k with h | h <;> simp[signBad,h]
 have h5:(decide ((celC all s).dim=1)&&decide (sumS (celC all s).sides≠0))=false:=by
  by_cases hd:(celC all s).dim=1
  ·rw[hdim] at hd;have hl2:s.length=2:=oM;have:sumS (celC all s).sides=0:=by
    show sumS (facesC all s)=0;unfold facesC;rw[if_neg oM,hl2];simp[List.range_succ,sumS,signC]
   rw[this];simp
  ·simp[hd]
 unfold formC;rw[h1,h2,h3,h4,h5];rfl
end
theorem erase_comm (s:List Int):∀ {k q:Nat},k≤q→(s.eraseIdx k).eraseIdx q=(s.eraseIdx (q+1)).eraseIdx k:=by
 induction s with
 | nil=>intro k q _; rfl
 | cons a r ih =>
  intro k q h;cases k with
  | zero=>simp
  | succ k =>
   cases q with
   | zero=>omega
   | succ q =>
    simp only[List.eraseIdx_cons_succ];rw[ih oM]
theorem mem_erase2 {s:List Int}(hs:s.Nodup){a b i:Nat}(hab:a<b)(hb:b<s.length)(hi:i<s.length):s[i]∈(s.eraseIdx b).eraseIdx a↔i≠a∧i≠b:=by
 have hinj:∀ {j k:Nat} (hj:j<s.length) (hk:k<s.length),s[j]=s[k]→j=k:=fun {j k} hj hk e=>by
  rcases Nat.lt_trichotomy j k with h | h | h
  ·exact absurd e (List.pairwise_iff_getElem.1 hs j k hj hk h)
  ·exact h
  ·exact absurd e.symm (List.pairwise_iff_getElem.1 hs k j hk hj h)
 rw[List.mem_eraseIdx_iff_getElem];constructor
 ·rintro ⟨j,hj1,hj2,e⟩;have hj1':=hj1;rw[List.length_eraseIdx,if_pos hb] at hj1';rw[List.getElem_eraseIdx] at e;split at e
  ·have:=hinj _ _ e;omega
  ·have:=hinj _ _ e;omega
 ·rintro ⟨h1,h2⟩
  rcases Nat.lt_or_ge i b with h | h
  ·refine⟨i,by rw[List.length_eraseIdx,if_pos hb]; omega,h1,?_⟩;rw[List.getElem_eraseIdx,dif_pos h]
  ·refine⟨i - 1,by rw[List.length_eraseIdx,if_pos hb]; omega,oM,?_⟩;rw[List.getElem_eraseIdx,dif_neg oM];congr 1;omega
theorem erase2_inj {s:List Int}(hs:s.Nodup){a b c d:Nat}(hab:a<b)(hb:b<s.length)(hcd:c<d)(hd:d<s.length)(h:(s.eraseIdx b).eraseIdx a=(s.eraseIdx d).eraseIdx c):a=c∧b=d:=by
 have key:∀ i,i<s.length→((i≠a∧i≠b)↔(i≠c∧i≠d)):=fun i hi=>by
  rw[← mem_erase2 hs hab hb hi,← mem_erase2 hs hcd hd hi,h]
 have ha:=key a oM;have hb':=key b hb;have hc:=key c oM;have hd':=key d hd;omega
def phiC (all:List (List Int))(s:List Int)(c:Int):Int:=ixC all ((s.eraseIdx (c % 16).toNat).eraseIdx (c / 16).toNat)
theorem code_ab {n k q:Nat}(hk:k<n)(hq:q<n - 1):∃ a b:Nat,a<b∧b<n∧code k q=((a * 16+b:Nat):Int)∧((q<k∧a=q∧b=k)∨(k≤q∧a=k∧b=q+1)):=by
 unfold code;by_cases h:q<k
 ·rw[if_pos h]; exact⟨q,k,h,hk,rfl,.inl ⟨h,rfl,rfl⟩⟩
 ·rw[if_neg h]; exact⟨k,q+1,oM,oM,rfl,.inr ⟨oM,rfl,rfl⟩⟩
theorem code_div {a b:Nat}(h:b<16):((((a * 16+b:Nat):Int) % 16).toNat=b)∧((((a * 16+b:Nat):Int) / 16).toNat=a):=oM
section
variable {all:List (List Int)}(hg:Good all)
include hg
theorem Good.aroundOk {s:List Int}(hs:s∈all)(h3:2<s.length):aroundC (all.map (celC all)) (celC all s)=0:=by
 obtain ⟨hne,hst,h9⟩:=hg.form s hs;have hnd:s.Nodup:=hst.imp fun h=>by omega
 have hE:∀ a b,a<b→b<s.length→(s.eraseIdx b).eraseIdx a∈all:=fun a b hab hb=>by
  have h1:=hg.face hs (k:=b) hb oM;exact (hg.face h1.1 (k:=a) (by rw[h1.2]; omega) (by rw[h1.2]; omega)).1
 have hlook:lookL (all.map (celC all)) (celC all s)=renL (phiC all s) (patS s.length):=by
  unfold lookL renL patS;show (facesC all s).map _=_;unfold facesC;rw[if_neg oM,List.map_map,List.map_map];refine List.map_congr_left fun k hk=>?_;have hk:k<s.length:=by simpa using hk
  have hf:=hg.face hs hk oM;simp only[Function.comp_def];congr 1;unfold sidesOf;rw[hg.find hf.1];show facesC all (s.eraseIdx k)=_;unfold facesC;rw[hf.2,if_neg oM,List.map_map];refine List.map_congr_left fun q hq=>?_;have hq:q<s.length - 1:=by simpa using hq
  obtain ⟨a,b,hab,hb,hc,hcase⟩:=code_ab hk hq;simp only[Function.comp_def,renS];congr 1;unfold phiC;rw[hc,(code_div (a:=a) (b:=b) oM).1,(code_div (a:=a) (b:=b) oM).2]
  rcases hcase with ⟨_,rfl,rfl⟩ | ⟨h,rfl,rfl⟩
  ·rfl
  ·rw[erase_comm s h]
 rw[aroundC_L,hlook,aroundL_ren,patS_ok _ oM h3];have hkey:∀ x∈keyL (patS s.length),∃ a b:Nat,a<b∧b<s.length∧x=((a * 16+b:Nat):Int):=by
  intro x hx;obtain ⟨p,hp,hx⟩:=List.mem_flatMap.1 hx;obtain ⟨k,hk,rfl⟩:=List.mem_map.1 hp;obtain ⟨r,hr,rfl⟩:=List.mem_map.1 hx;obtain ⟨q,hq,rfl⟩:=List.mem_map.1 hr;obtain ⟨a,b,hab,hb,hc,_⟩:=code_ab (n:=s.length) (k:=k) (q:=q) (by simpa using hk) (by simpa using hq);exact⟨a,b,hab,hb,hc⟩
 intro x hx y hy h;obtain ⟨a,b,hab,hb,rfl⟩:=hkey x hx;obtain ⟨c,d,hcd,hd,rfl⟩:=hkey y hy;unfold phiC at h;rw[(code_div (a:=a) (b:=b) oM).1,(code_div (a:=a) (b:=b) oM).2,(code_div (a:=c) (b:=d) oM).1,(code_div (a:=c) (b:=d) oM).2] at h;obtain ⟨rfl,rfl⟩:=erase2_inj hnd hab hb hcd hd (hg.inj (hE a b hab hb) (hE c d hcd hd) h);rfl
end
theorem chk1_fine {tl:List Cl}:∀ {l:List Cl} {n:Int},(∀ x∈l,n<x.id)→l.Pairwise (fun a b=>a.id<b.id)→(∀ x∈l,formC tl x=0)→chk1 tl l n=none
 | [],_,_,_,_=>rfl
 | x::r,n,h1,h2,h3=>by
  have hx:=h1 x (by simp);obtain ⟨h4,h5⟩:=List.pairwise_cons.1 h2;unfold chk1;rw[if_neg oM,if_neg (by rw[h3 x (by simp)]; simp)];exact chk1_fine h4 h5 fun y hy=>h3 y (by simp[hy])
theorem chk2_fine {tl:List Cl}:∀ {l:List Cl},(∀ x∈l,x.dim>1→aroundC tl x=0)→chk2 tl l=none
 | [],_=>rfl
 | x::r,h=>by
  unfold chk2;rw[if_neg fun ⟨h1,h2⟩=>h2 (h x (by simp) h1)];exact chk2_fine fun y hy=>h y (by simp[hy])
theorem check_ok {l:List Cl}(h0:l.length≤4000)(h1:∀ x∈canonC l,0<x.id)(h2:(canonC l).Pairwise fun a b=>a.id<b.id)(h3:∀ x∈canonC l,formC (canonC l) x=0)(h4:∀ x∈canonC l,x.dim>1→aroundC (canonC l) x=0):checkC l=(0,0):=by
 unfold checkC;rw[if_neg oM,tabC_strict h2,chk1_fine h1 h2 h3,chk2_fine h4];rfl
theorem simpC_right (ls:List (List Int)):checkC (simpC ls)=(0,0):=by
 unfold simpC;cases h:simpAll [] ls with
 | none=>rfl
 | some all =>
  obtain ⟨hg,hl⟩:=simpAll_good ls [] h Good.nil (by simp);dsimp only;have hc:canonC (canonC (simpCells all))=all.map (celC all):=by rw[canonC_idem,hg.cells]
  have hi:=hg.ids;rw[List.pairwise_map] at hi;refine check_ok (by rw[hg.cells]; simpa using hl) ?_ ?_ ?_ ?_ <;> rw[hc]
  ·intro x hx;obtain ⟨s,_,rfl⟩:=List.mem_map.1 hx;show 0<ixC all s;unfold ixC;omega
  ·exact hi
  ·intro x hx;obtain ⟨s,hs,rfl⟩:=List.mem_map.1 hx;exact hg.formOk hs
  ·intro x hx hd;obtain ⟨s,hs,rfl⟩:=List.mem_map.1 hx;refine hg.aroundOk hs ?_;have:(s.length:Int) - 1>1:=hd;omega
open Go.ChangeShapes Go.WideShapes Go.ChangeAt Go.RowKit
set_option maxRecDepth 100000
section
variable {H:Type}{enc:TypeId×Value→H}{W:World}{base:Nat}{spare:Nat→Bool}{hd:Bool}
end
inductive Cn (E:Int→Int→Prop):Int→Int→Prop
 | refl (a:Int):Cn E a a
 | step {a b c:Int} (h:E a b∨E b a) (r:Cn E b c):Cn E a c
theorem Cn.trans {E:Int→Int→Prop}{a b c:Int}(h:Cn E a b)(k:Cn E b c):Cn E a c:=by
 induction h with
 | refl _=>exact k
 | step h _ ih=>exact .step h (ih k)
theorem Cn.one {E:Int→Int→Prop}{a b:Int}(h:E a b):Cn E a b:=.step (.inl h) (.refl b)
theorem Cn.symm {E:Int→Int→Prop}{a b:Int}(h:Cn E a b):Cn E b a:=by
 induction h with
 | refl _=>exact .refl _
 | step h _ ih=>exact ih.trans (.step h.symm (.refl _))
theorem Cn.mono {E E':Int→Int→Prop}(h:∀ a b,E a b→Cn E' a b){a b:Int}(hc:Cn E a b):Cn E' a b:=by
 induction hc with
 | refl _=>exact .refl _
 | step e _ ih =>
  rcases e with e | e
  ·exact (h _ _ e).trans ih
  ·exact (h _ _ e).symm.trans ih
theorem Cn.iso {E:Int→Int→Prop}{a b:Int}(h:∀ b,¬ E a b∧¬ E b a)(hc:Cn E a b):a=b:=by
 cases hc with
 | refl _=>rfl
 | step e _ =>
  rcases e with e | e
  ·exact absurd e (h _).1
  ·exact absurd e (h _).2
theorem Cn.add {E E':Int→Int→Prop}{x y:Int}(h:∀ a b,E' a b↔E a b∨(a=x∧b=y))(a b:Int):Cn E' a b↔Cn E a b∨(Cn E a x∧Cn E y b)∨(Cn E a y∧Cn E x b):=by
 have hxy:Cn E' x y:=.one ((h x y).2 (.inr ⟨rfl,rfl⟩));have hm:∀ {a b:Int},Cn E a b→Cn E' a b:=fun hc=>hc.mono fun a b e=>.one ((h a b).2 (.inl e));constructor
 ·intro hc;induction hc with
  | refl _=>exact .inl (.refl _)
  | step e _ ih =>
   have key:∀ {p q r:Int},Cn E p q→(Cn E q r∨(Cn E q x∧Cn E y r)∨(Cn E q y∧Cn E x r))→Cn E p r∨(Cn E p x∧Cn E y r)∨(Cn E p y∧Cn E x r):=by
    rintro p q r h1 (h2 | ⟨h2,h3⟩ | ⟨h2,h3⟩)
    ·exact .inl (h1.trans h2)
    ·exact .inr (.inl ⟨h1.trans h2,h3⟩)
    ·exact .inr (.inr ⟨h1.trans h2,h3⟩)
   rcases e with e | e
   ·rcases (h _ _).1 e with e | ⟨rfl,rfl⟩
    ·exact key (.one e) ih
    ·rcases ih with h2 | ⟨_,h3⟩ | ⟨_,h3⟩
     ·exact .inr (.inl ⟨.refl _,h2⟩)
     ·exact .inr (.inl ⟨.refl _,h3⟩)
     ·exact .inl h3
   ·rcases (h _ _).1 e with e | ⟨rfl,rfl⟩
    ·exact key (Cn.one e).symm ih
    ·rcases ih with h2 | ⟨_,h3⟩ | ⟨_,h3⟩
     ·exact .inr (.inr ⟨.refl _,h2⟩)
     ·exact .inl h3
     ·exact .inr (.inr ⟨.refl _,h3⟩)
 ·rintro (h1 | ⟨h1,h2⟩ | ⟨h1,h2⟩)
  ·exact hm h1
  ·exact (hm h1).trans (hxy.trans (hm h2))
  ·exact (hm h1).trans (hxy.symm.trans (hm h2))
def linked (ml:List (Int×List Int))(a b:Int):Prop:=∃ p∈ml,p.2.head?=some a∧b∈p.2
def RZ (e:En)(z:Int×Int):Prop:=e.id=z.1∧e.sum=z.2
def RM (e:En)(p:Int×List Int):Prop:=e.id=p.1∧e.many=p.2.length∧p.2.head?=some (e.fst:Int)
theorem wr_id {x:Int}(h : -9223372036854775808≤x∧x<9223372036854775808):wr x=x:=IntWalk.i64_in _ oM
theorem bump_z {i:Nat}{c p:Int}:∀ {es:List En} {zl:List (Int×Int)},All2 RZ es zl→(∀ e∈es,wr (e.sum+p)=e.sum+p)→wr (0+p)=p→All2 RZ (bump i c p es) (addZ zl c p)
 | [],[],_,_,hp=>⟨⟨rfl,hp⟩,trivial⟩
 | e::es,(a,z)::zl,h,hb,hp=>by
  obtain ⟨⟨h1,h2⟩,h3⟩:=h;have h1:e.id=a:=h1;have h2:e.sum=z:=h2;simp only[bump,addZ];by_cases hc:e.id=c
  ·rw[if_pos hc,if_pos (by rw[← h1,hc])];exact⟨⟨h1,by show wr (e.sum+p)=z+p; rw[hb e (by simp),h2]⟩,h3⟩
  ·rw[if_neg hc,if_neg (by rw[← h1]; exact fun e=>hc e.symm)];exact⟨⟨h1,h2⟩,bump_z h3 (fun x hx=>hb x (by simp[hx])) hp⟩
 | [],_::_,h,_,_=>h.elim
 | _::_,[],h,_,_=>h.elim
theorem bump_m {i:Nat}{c p:Int}:∀ {es:List En} {ml:List (Int×List Int)},All2 RM es ml→(∀ e∈es,wr (e.many+1)=e.many+1)→All2 RM (bump i c p es) (addL ml c i) ∧
  ∀ a b,linked (addL ml c i) a b↔linked ml a b∨(a=fstOf i c es∧b=i)
 | [],[],_,_=>by
  refine⟨⟨⟨rfl,by rfl,rfl⟩,trivial⟩,fun a b=>?_⟩;constructor
  ·rintro ⟨q,hq,h1,h2⟩;simp[addL] at hq;subst hq;simp at h1 h2;exact .inr ⟨h1.symm,h2⟩
  ·rintro (⟨q,hq,_⟩ | ⟨rfl,rfl⟩)
   ·simp at hq
   ·exact⟨(c,[(i:Int)]),by simp[addL],I,by simp⟩
 | e::es,(k,l)::ml,h,hb=>by
  obtain ⟨⟨h1,h2,h4⟩,h3⟩:=h;have h1:e.id=k:=h1;have h2:e.many=l.length:=h2;have h4:l.head?=some (e.fst:Int):=h4;simp only[bump,addL,fstOf];by_cases hc:e.id=c
  ·rw[if_pos hc,if_pos (by rw[← h1,hc]),if_pos hc];have hh:(l++[(i:Int)]).head?=some (e.fst:Int):=by
    cases l with
    | nil=>simp at h4
    | cons x r=>simpa using h4
   refine⟨⟨⟨h1,by show wr (e.many+1)=_; rw[hb e (by simp),h2]; simp,hh⟩,h3⟩,fun a b=>?_⟩;constructor
   ·rintro ⟨q,hq,h5,h6⟩
    rcases List.mem_cons.1 hq with rfl | hq
    ·dsimp only at h5 h6;rw[hh] at h5
     rcases List.mem_append.1 h6 with h6 | h6
     ·exact .inl ⟨(k,l),by simp,by rw[h4,h5],h6⟩
     ·simp at h6;injection h5 with h5
      exact .inr ⟨h5.symm,h6⟩
    ·exact .inl ⟨q,by simp[hq],h5,h6⟩
   ·rintro (⟨q,hq,h5,h6⟩ | ⟨rfl,rfl⟩)
    ·rcases List.mem_cons.1 hq with rfl | hq
     ·exact⟨(k,l++[(i:Int)]),by simp,by rw[hh,← h4,h5],by simp[h6]⟩
     ·exact⟨q,by simp[hq],h5,h6⟩
    ·exact⟨(k,l++[(i:Int)]),by simp,hh,by simp⟩
  ·rw[if_neg hc,if_neg (by rw[← h1]; exact fun e=>hc e.symm),if_neg hc];obtain ⟨i1,i2⟩:=bump_m (i:=i) (c:=c) (p:=p) h3 fun x hx=>hb x (by simp[hx]);refine⟨⟨⟨h1,h2,h4⟩,i1⟩,fun a b=>?_⟩;have e1:∀ L,linked ((k,l)::L) a b↔(l.head?=some a∧b∈l)∨linked L a b:=fun L=>by
    unfold linked;simp
   rw[e1,e1,i2,or_assoc]
 | [],_::_,h,_=>h.elim
 | _::_,[],h,_=>h.elim
structure Sd (n t k:Nat)(es:List En)(part:List Int)(zl:List (Int×Int))(ml:List (Int×List Int)):Prop where
 z:All2 RZ es zl
 m:All2 RM es ml
 bz:∀ e∈es,-(t:Int)≤e.sum∧e.sum≤t∧0≤e.many∧e.many≤t
 bf:∀ e∈es,e.fst<k
 bm:∀ p∈ml,∀ x∈p.2,0≤x∧x<k
 len:part.length=n
 bp:∀ a,a<k→0≤part.getD a 0∧part.getD a 0<k
 cn:∀ a b:Nat,a<k→b<k→(part.getD a 0=part.getD b 0↔Cn (linked ml) a b)
theorem linked_in {ml:List (Int×List Int)}{k:Nat}(h:∀ p∈ml,∀ x∈p.2,0≤x∧x<(k:Int)){a b:Int}(hl:linked ml a b):(0≤a∧a<k)∧(0≤b∧b<k):=by
 obtain ⟨p,hp,h1,h2⟩:=hl;exact⟨h p hp a (List.mem_of_head? h1),h p hp b h2⟩
theorem Sd.open {n t k:Nat}{es:List En}{part:List Int}{zl:List (Int×Int)}{ml:List (Int×List Int)}(h:Sd n t k es part zl ml)(hk:k<n):Sd n t (k+1) es (part.set k k) zl ml:=by
 have hl:=h.len;have g1:(part.set k (k:Int)).getD k 0=k:=by rw[List.getD_eq_getElem?_getD,List.getElem?_set]; simp[hl,hk]
 have g2:∀ a,a≠k→(part.set k (k:Int)).getD a 0=part.getD a 0:=fun a ha=>by
  rw[List.getD_eq_getElem?_getD,List.getD_eq_getElem?_getD,List.getElem?_set,if_neg fun e=>ha e.symm]
 have iso:∀ b,¬ linked ml k b∧¬ linked ml b k:=fun b=>⟨fun e=>by have:=linked_in h.bm e; omega,fun e=>by have:=linked_in h.bm e; omega⟩;refine⟨h.z,h.m,h.bz,fun e he=>by have:=h.bf e he; omega,fun p hp x hx=>by have:=h.bm p hp x hx; omega,by simp[hl],fun a ha=>?_,fun a b ha hb=>?_⟩
 ·by_cases e:a=k
  ·subst e; rw[g1]; omega
  ·rw[g2 a e]; have:=h.bp a oM; omega
 ·by_cases e:a=k <;> by_cases e2:b=k
  ·subst e; subst e2; exact⟨fun _=>.refl _,fun _=>rfl⟩
  ·subst e;rw[g1,g2 b e2];have:=h.bp b oM;exact⟨fun h=>by omega,fun hc=>by have:=hc.iso iso; omega⟩
  ·subst e2;rw[g1,g2 a e];have:=h.bp a oM;exact⟨fun h=>by omega,fun hc=>by have:=hc.symm.iso iso; omega⟩
  ·rw[g2 a e,g2 b e2];exact h.cn a b oM oM
theorem relabT_getD {m:Nat}{old now:Int}{p:List Int}{a:Nat}(h:a<p.length)(hm:a<m):(relabT m old now p).getD a 0=if p.getD a 0=now then old else p.getD a 0:=by
 rw[List.getD_eq_getElem?_getD,List.getD_eq_getElem?_getD];simp only[relabT,List.getElem?_mapIdx,gE h,Option.map_some,Option.getD_some,hm,true_and]
theorem fstOf_lt {i:Nat}{c:Int}{es:List En}(h:∀ e∈es,e.fst<i+1):fstOf i c es<i+1:=by
 induction es with
 | nil=>exact Nat.lt_succ_self i
 | cons e r ih =>
  unfold fstOf;split
  ·exact h e (by simp)
  ·exact ih fun x hx=>h x (by simp[hx])
theorem bump_all {P:En→Prop}{i:Nat}{c p:Int}(hn:P (En.up ⟨c,0,0,i⟩ p))(hu:∀ e,P e→P (e.up p))(ho:∀ e,P e→P e):∀ {es:List En},(∀ e∈es,P e)→∀ e∈bump i c p es,P e
 | [],_,e,he=>by simp[bump] at he; subst he; exact hn
 | x::r,h,e,he=>by
  unfold bump at he;split at he
  ·rcases List.mem_cons.1 he with rfl | he
   ·exact hu x (h x (by simp))
   ·exact h e (by simp[he])
  ·rcases List.mem_cons.1 he with rfl | he
   ·exact h e (by simp)
   ·exact bump_all hn hu ho (fun y hy=>h y (by simp[hy])) e he
theorem addL_all {P:Int→Prop}{c:Int}{i:Int}(hi:P i):∀ {ml:List (Int×List Int)},(∀ p∈ml,∀ x∈p.2,P x)→∀ p∈addL ml c i,∀ x∈p.2,P x
 | [],_,p,hp,x,hx=>by simp[addL] at hp; subst hp; simp at hx; subst hx; exact hi
 | (k,l)::r,h,p,hp,x,hx=>by
  unfold addL at hp;split at hp
  ·rcases List.mem_cons.1 hp with rfl | hp
   ·rcases List.mem_append.1 hx with hx | hx
    ·exact h (k,l) (by simp) x hx
    ·simp at hx; subst hx; exact hi
   ·exact h p (by simp[hp]) x hx
  ·rcases List.mem_cons.1 hp with rfl | hp
   ·exact h (k,l) (by simp) x hx
   ·exact addL_all hi (fun q hq=>h q (by simp[hq])) p hp x hx
theorem Sd.next {n t i:Nat}{es:List En}{part:List Int}{zl:List (Int×Int)}{ml:List (Int×List Int)}{x r:Side}(h:Sd n t (i+1) es part zl ml)(hi:i<n)(ht:t<1000000)(hx:x.sign=1∨x.sign = -1)(hr:r.sign=1∨r.sign = -1) :
  Sd n (t+1) (i+1) (stepR i x.sign (es,part) r).1 (stepR i x.sign (es,part) r).2 (stepZ x zl r) (stepL i ml r):=by
 have hp:=sign_mul hx hr;have hw:wr (x.sign * r.sign)=x.sign * r.sign:=wr_id oM;unfold stepR stepZ stepL;dsimp only;rw[hw];generalize x.sign * r.sign=p at *;have hl:=h.len;have hbm:=bump_m (i:=i) (c:=r.cell) (p:=p) h.m fun e he=>by have:=h.bz e he; exact wr_id oM
 have hf:=fstOf_lt (c:=r.cell) h.bf;refine⟨bump_z h.z (fun e he=>by have:=h.bz e he; exact wr_id oM) (by rw[Int.zero_add]; exact wr_id oM),hbm.1,?_,?_,?_,by rw[relabT_length]; exact hl,fun a ha=>?_,fun a b ha hb=>?_⟩
 ·have:∀ e∈bump i r.cell p es,(-(t:Int)≤e.sum∧e.sum≤t∧0≤e.many∧e.many≤t)∨(-((t+1:Nat):Int)≤e.sum∧e.sum≤((t+1:Nat):Int)∧0≤e.many∧e.many≤((t+1:Nat):Int)):=by
   have h0:=h.bz;clear h hbm hf hl;generalize hes:bump i r.cell p es=fs;intro e he;subst hes;induction es with
   | nil =>
    simp[bump] at he;subst he;right;simp only[En.up];rw[wr_id oM,wr_id oM];omega
   | cons y q ih =>
    unfold bump at he;split at he
    ·rcases List.mem_cons.1 he with rfl | he
     ·right;have:=h0 y (by simp);simp only[En.up];rw[wr_id oM,wr_id oM];omega
     ·exact .inl (h0 e (by simp[he]))
    ·rcases List.mem_cons.1 he with rfl | he
     ·exact .inl (h0 e (by simp))
     ·exact ih (fun z hz=>h0 z (by simp[hz])) he
  intro e he
  rcases this e he with h1 | h1 <;> omega
 ·exact bump_all (P:=fun e=>e.fst<i+1) (Nat.lt_succ_self i) (fun e he=>he) (fun e he=>he) h.bf
 ·exact addL_all (P:=fun x=>0≤x∧x<((i+1:Nat):Int)) oM h.bm
 ·rw[relabT_getD oM ha];split
  ·exact h.bp _ hf
  ·exact h.bp a ha
 ·rw[relabT_getD oM ha,relabT_getD oM hb,Cn.add (x:=(fstOf i r.cell es:Int)) (y:=(i:Int)) hbm.2 a b];rw[← h.cn a b ha hb,← h.cn a _ ha hf,← h.cn i b oM hb,← h.cn a i ha oM,← h.cn _ b hf hb];generalize part.getD a 0=pa;generalize part.getD b 0=pb;generalize part.getD i 0=pi;generalize part.getD (fstOf i r.cell es) 0=pf;by_cases h1:pa=pi <;> by_cases h2:pb=pi <;> simp[h1,h2] <;> omega
theorem Sd.inner {n i:Nat}{x:Side}(hi:i<n)(hx:x.sign=1∨x.sign = -1):∀ (l:List Side) {t:Nat} {es:List En} {part:List Int} {zl:List (Int×Int)} {ml:List (Int×List Int)},Sd n t (i+1) es part zl ml→t+l.length<1000000→(∀ r∈l,r.sign=1∨r.sign = -1) →
  Sd n (t+l.length) (i+1) (l.foldl (stepR i x.sign) (es,part)).1 (l.foldl (stepR i x.sign) (es,part)).2 (l.foldl (stepZ x) zl) (l.foldl (stepL i) ml)
 | [],_,_,_,_,_,h,_,_=>h
 | r::l,t,es,part,zl,ml,h,ht,hr=>by
  simp only[List.length_cons] at ht;have h1:=h.next (x:=x) (r:=r) hi oM hx (hr r (by simp));have:=Sd.inner hi hx l h1 oM (fun q hq=>hr q (by simp[hq]));simp only[List.foldl_cons,List.length_cons];rw[show t+(l.length+1)=t+1+l.length by omega];exact this
theorem Sd.outer {tl:List Cl}{n:Nat}:∀ (l:List Side) {t k:Nat} {es:List En} {part:List Int} {zl:List (Int×Int)} {ml:List (Int×List Int)},Sd n t k es part zl ml→k+l.length≤n→t+64 * l.length<1000000→(∀ x∈l,x.sign=1∨x.sign = -1)→(∀ x∈l,(sidesOf tl x).length≤64∧∀ r∈sidesOf tl x,r.sign=1∨r.sign = -1) →
  ∃ t',Sd n t' (k+l.length) ((l.zipIdx k).foldl (stepS tl) (es,part)).1 ((l.zipIdx k).foldl (stepS tl) (es,part)).2 (l.foldl (fun zl x=>(sidesOf tl x).foldl (stepZ x) zl) zl) ((l.zipIdx k).foldl (fun ml p=>(sidesOf tl p.1).foldl (stepL p.2) ml) ml)
 | [],t,_,_,_,_,_,h,_,_,_,_=>⟨t,h⟩
 | x::l,t,k,es,part,zl,ml,h,hk,ht,hs,hq=>by
  simp only[List.length_cons] at hk ht;have h0:=hq x (by simp);have h1:=(h.open oM).inner (x:=x) oM (hs x (by simp)) (sidesOf tl x) oM h0.2;obtain ⟨t',h2⟩:=Sd.outer l h1 oM oM (fun y hy=>hs y (by simp[hy])) (fun y hy=>hq y (by simp[hy]));refine⟨t',?_⟩;simp only[List.zipIdx_cons,List.foldl_cons,List.length_cons];rw[show k+(l.length+1)=k+1+l.length by omega];exact h2
theorem all2_anyR {α β:Type}{R:α→β→Prop}{p:α→Bool}{q:β→Bool}(h:∀ a b,R a b→p a=q b):∀ {l:List α} {m:List β},All2 R l m→l.any p=m.any q
 | [],[],_=>rfl
 | a::l,b::m,hr=>by simp only[List.any_cons,h a b hr.1,all2_anyR h hr.2]
 | [],_::_,hr=>hr.elim
 | _::_,[],hr=>hr.elim
theorem rch_cn {ml:List (Int×List Int)}(h2:∀ p∈ml,p.2.length=2)(a b:Int):Rch (adjJ (joinC ml)) a b↔Cn (linked ml) a b:=by
 have hstep:∀ x y,y∈getL (joinC ml) x→Cn (linked ml) x y:=fun x y hy=>by
  obtain ⟨p,hp,h⟩:=(mem_join ml x y).1 hy
  rcases h with h | h
  ·exact .one ⟨p,hp,by rw[h]; rfl,by rw[h]; simp⟩
  ·exact (Cn.one (E:=linked ml) ⟨p,hp,by rw[h]; rfl,by rw[h]; simp⟩).symm
 have hadj:∀ x,adjJ (joinC ml) x≠none:=fun x=>by simp[adjJ]
 constructor
 ·intro h;induction h with
  | refl _ _=>exact .refl _
  | step x y _ l hl hy _ ih =>
   simp only[adjJ,Option.some.injEq] at hl;subst hl;exact (hstep x y hy).trans ih
 ·intro h;induction h with
  | refl a=>exact .refl a (hadj a)
  | @step x y z e _ ih =>
   have key:∀ u v,linked ml u v→v=u∨v∈getL (joinC ml) u:=fun u v ⟨p,hp,h3,h4⟩=>by
    have:=h2 p hp
    match hq:p.2,this with
    | [c,d],_ =>
     rw[hq] at h3 h4;simp at h3 h4;subst h3
     rcases h4 with h4 | h4
     ·exact .inl h4
     ·exact .inr ((mem_join ml c v).2 ⟨p,hp,.inl (by rw[hq,h4])⟩)
   rcases e with e | e
   ·rcases key x y e with rfl | h5
    ·exact ih
    ·exact .step x y z _ I h5 ih
   ·rcases key y x e with rfl | h5
    ·exact ih
    ·refine .step x y z _ I ?_ ih;obtain ⟨p,hp,h6⟩:=(mem_join ml y x).1 h5;exact (mem_join ml x y).2 ⟨p,hp,h6.symm⟩
theorem nodup_nat {l:List Int}(hn:l.Nodup)(hb:∀ x∈l,0≤x):(l.map Int.toNat).Nodup:=by
 rw[List.Nodup,List.pairwise_map];refine List.Pairwise.imp_of_mem ?_ hn;intro a b ha hb' hne e;have:=hb a ha;have:=hb b hb';omega
theorem nodup_leI {l:List Int}{n:Nat}(hn:l.Nodup)(hb:∀ x∈l,0≤x∧x<(n:Int)):l.length≤n:=by
 have h1:=nodup_nat hn fun x hx=>(hb x hx).1;have:=length_le_of_nodup (l:=List.range n) h1 List.nodup_range fun x hx=>by
  obtain ⟨y,hy,rfl⟩:=List.mem_map.1 hx;have:=hb y hy;exact List.mem_range.2 oM
 simpa using this
theorem second_around {tl:List Cl}{c:Cl}(hok:AOk tl c)(h0:0<c.sides.length):secondC tl c=aroundC tl c:=by
 obtain ⟨h64,hs,hq⟩:=hok;have start:Sd c.sides.length 0 0 [] (List.replicate c.sides.length 0) [] []:=⟨trivial,trivial,by simp,by simp,by simp,by simp,by simp,fun a b ha=>by omega⟩;obtain ⟨t,hd⟩:=start.outer c.sides (tl:=tl) oM oM hs hq;have e1:((c.sides.zipIdx 0).foldl (stepS tl) ([],List.replicate c.sides.length 0))=secSt tl c.sides c.sides.length:=rfl;rw[e1] at hd;have hz:All2 RZ (secSt tl c.sides c.sides.length).1 (sumsC tl c.sides):=hd.z;have hm:All2 RM (secSt tl c.sides c.sides.length).1 (metC tl c.sides):=hd.m;unfold secondC aroundC;rw[all2_anyR (p:=fun e=>decide (e.sum≠0)) (q:=fun p:Int×Int=>decide (p.2≠0)) (fun a b h=>by rw[h.2]) hz];rw[all2_anyR (p:=fun e=>decide (e.many≠2)) (q:=fun p:Int×List Int=>decide ((p.2.length:Int)≠2)) (fun a b h=>by rw[h.2.1]) hm];split
 ·rfl
 ·split
  ·rfl
  ·rename_i hno;have h2:∀ p∈metC tl c.sides,p.2.length=2:=fun p hp=>by
    have:=List.any_eq_false.1 ((Bool.not_eq_true _).mp hno) p hp;simp at this;omega
   have hbm:∀ p∈metC tl c.sides,∀ x∈p.2,0≤x∧x<((0+c.sides.length:Nat):Int):=hd.bm;rw[Nat.zero_add] at hbm;have hcn:∀ a b:Nat,a<c.sides.length→b<c.sides.length→((secSt tl c.sides c.sides.length).2.getD a 0=(secSt tl c.sides c.sides.length).2.getD b 0↔Rch (adjJ (joinC (metC tl c.sides))) a b):=fun a b ha hb=>by
    rw[rch_cn h2];exact hd.cn a b oM oM
   have hln:=hd.len;have hmem:∀ x:Int,x∈seenC (joinC (metC tl c.sides))↔Rch (adjJ (joinC (metC tl c.sides))) 0 x:=fun x=>mem_dfs (cnt:=cntK (joinC (metC tl c.sides))) (fun v v' h=>cntK_mono h) (cntK_strict _) (Nat.lt_succ_of_le (List.length_filter_le _ _)) (by simp[adjJ]) x;have hnd:(seenC (joinC (metC tl c.sides))).Nodup:=dfs_nodup _ _ _ _ (by simp);have hin:∀ x∈seenC (joinC (metC tl c.sides)),0≤x∧x<(c.sides.length:Int):=fun x hx=>by
    have hr:=(rch_cn h2 0 x).1 ((hmem x).1 hx);have:∀ a b,Cn (linked (metC tl c.sides)) a b→(0≤a∧a<(c.sides.length:Int))→(0≤b∧b<(c.sides.length:Int)):=by
     intro a b h;induction h with
     | refl _=>exact fun h=>h
     | step e _ ih =>
      intro _
      rcases e with e | e
      ·exact ih (linked_in hbm e).2
      ·exact ih (linked_in hbm e).1
    exact this 0 x hr oM
   generalize (secSt tl c.sides c.sides.length).2=part at *;generalize seenC (joinC (metC tl c.sides))=seen at *;by_cases hall:∀ a,a<c.sides.length→part.getD a 0=part.getD 0 0
   ·have hf:part.any (fun x=>decide (x≠part.getD 0 0))=false:=by
     rw[List.any_eq_false];intro x hx;obtain ⟨i,hi,rfl⟩:=List.getElem_of_mem hx;have:=hall i oM;rw[List.getD_eq_getElem?_getD,gE hi] at this;simpa using this
    have hlen:seen.length=c.sides.length:=by
     refine Nat.le_antisymm (nodup_leI hnd hin) ?_;have h3:=length_le_of_nodup (m:=List.range c.sides.length) (l:=seen.map Int.toNat) List.nodup_range (nodup_nat hnd fun x hx=>(hin x hx).1) fun i hi=>by
      have hi:=List.mem_range.1 hi;exact List.mem_map.2 ⟨(i:Int),(hmem i).2 ((hcn 0 i h0 hi).1 (hall i hi).symm),by simp⟩
     simpa using h3
    rw[hf,hlen];simp
   ·have ht:part.any (fun x=>decide (x≠part.getD 0 0))=true:=by
     simp only[Classical.not_forall] at hall;obtain ⟨a,ha,hne⟩:=hall;rw[List.any_eq_true];refine⟨part.getD a 0,?_,by simpa using hne⟩;rw[List.getD_eq_getElem?_getD,gE oM];exact gM _
    have hlen:(seen.length:Int)≠c.sides.length:=by
     simp only[Classical.not_forall] at hall;obtain ⟨a,ha,hne⟩:=hall;have hna:(a:Int) ∉ seen:=fun h=>hne ((hcn 0 a h0 ha).2 ((hmem a).1 h)).symm;have:=nodup_leI (l:=(a:Int)::seen) (n:=c.sides.length) (List.nodup_cons.2 ⟨hna,hnd⟩) fun x hx=>by
      rcases List.mem_cons.1 hx with rfl | hx
      ·omega
      ·exact hin x hx
     simp at this;omega
    rw[ht,if_pos rfl,if_pos hlen]
theorem chk1_none_form {tl:List Cl}:∀ {l:List Cl} {n:Int},chk1 tl l n=none→l.Pairwise (fun a b=>a.id<b.id)∧(∀ x∈l,n<x.id)∧∀ x∈l,formC tl x=0
 | [],_,_=>⟨List.Pairwise.nil,by simp,by simp⟩
 | x::r,n,h=>by
  unfold chk1 at h;split at h
  ·cases h
  ·rename_i hid;split at h
   ·cases h
   ·rename_i hf;obtain ⟨h1,h2,h3⟩:=chk1_none_form h;refine⟨List.pairwise_cons.2 ⟨h2,h1⟩,fun y hy=>?_,fun y hy=>?_⟩
    ·rcases List.mem_cons.1 hy with rfl | hy
     ·omega
     ·have:=h2 y hy; omega
    ·rcases List.mem_cons.1 hy with rfl | hy
     ·exact Decidable.of_not_not hf
     ·exact h3 y hy
theorem refCheckC_eq (l:List Cl):refCheckC l=checkC l:=by
 unfold refCheckC checkC;split
 ·rfl
 ·cases h:chk1 (tabC l) (canonC l) 0 with
  | some p=>rfl
  | none =>
   obtain ⟨h1,_,h3⟩:=chk1_none_form h;have ht:=tabC_strict h1;have key:∀ m:List Cl,(∀ x∈m,x∈canonC l)→chkR2 (canonC l) m=chk2 (tabC l) m:=by
    intro m;induction m with
    | nil=>intro _; rfl
    | cons x r ih =>
     intro hm;have hx:=hm x (by simp);unfold chkR2 chk2;rw[ih fun y hy=>hm y (by simp[hy])];by_cases hd:x.dim>1
     ·have hok:=aok_of h3 hx;have hn:0<x.sides.length:=by
       have hf:=h3 x hx;unfold formC at hf;split at hf
       ·cases hf
       ·split at hf
        ·cases hf
        ·rename_i hc;simp[cntBad] at hc;have:=hc.2 hd;omega
      rw[ht] at hok ⊢;rw[second_around hok hn]
     ·simp[hd]
   rw[key _ fun x hx=>hx]
set_option maxRecDepth 10000
theorem check_ne {l:List Cl}(h:(checkC l).2=0):chk1 (tabC l) (canonC l) 0=none:=by
 unfold checkC at h;split at h
 ·simp at h
 ·cases h1:chk1 (tabC l) (canonC l) 0 with
  | none=>rfl
  | some p=>rw[h1] at h; exact absurd h (chk1_ne h1)
theorem prod_ref (a b:List Cl):refProdC a b=prodC a b:=by
 have hb:refProdBad a b=prodBad a b:=by
  unfold refProdBad prodBad;rw[refCheckC_eq,refCheckC_eq];by_cases h1:(checkC a).2=0
  ·by_cases h2:(checkC b).2=0
   ·rw[tabC_strict (chk1_none_form (check_ne h1)).1,tabC_strict (chk1_none_form (check_ne h2)).1,canonC_length,canonC_length]
   ·simp[h2]
  ·simp[h1]
 unfold refProdC prodC;rw[hb,refCheckC_eq]
section
variable {A:List (List Int)}(hA:Good A)
include hA
end
theorem form_of {tl:List Cl}{c:Cl}(h1:0≤c.dim∧c.dim≤8)(h2:cntBad c=false)(h3:∀ x∈c.sides,∃ d,findT tl x.cell=some d∧d.dim=c.dim - 1)(h4:c.sides.Pairwise fun a b=>a.cell<b.cell)(h5:∀ x∈c.sides,x.sign=1∨x.sign = -1)(h6:c.dim=1→sumS c.sides=0):formC tl c=0:=by
 have e1:dimBad c=false:=by unfold dimBad; simp; omega
 have e3:(List.range c.sides.length).any (badAt tl c)=false:=by
  rw[List.any_eq_false];intro i hi;have hi:=List.mem_range.1 hi;obtain ⟨d,hd1,hd2⟩:=h3 _ (gM hi);unfold badAt;rw[gE hi];show ¬ badSide _ _ i c.sides[i]=true;unfold badSide;rw[hd1];simp only[Option.isSome_some,Bool.not_true,Bool.false_or,Option.getD_some,hd2,ne_eq,not_true_eq_false,decide_false];by_cases hi0:i>0
  ·have hlt:=List.pairwise_iff_getElem.1 h4 (i - 1) i oM hi oM;rw[gE oM];simp;omega
  ·simp[hi0]
 have e4:c.sides.any signBad=false:=by
  rw[List.any_eq_false];intro x hx
  rcases h5 x hx with h | h <;> simp[signBad,h]
 have e5:(decide (c.dim=1)&&decide (sumS c.sides≠0))=false:=by
  by_cases hd:c.dim=1
  ·rw[h6 hd]; simp
  ·simp[hd]
 unfold formC;rw[e1,h2,e3,e4,e5];rfl
section
variable {A B:List (List Int)}(hA:Good A)(hB:Good B)
include hA hB
omit hA in
omit hA in
end
section
variable {A B:List (List Int)}(hA:Good A)(hB:Good B)
include hA hB
end
structure Few (a:List Cl)(A:List (List Int)):Prop where
 good:Good A
 cells:a=A.map (celC A)
 small:∀ s∈A,s.length≤3
 few:A.length≤14
def sumR (tl:List Cl)(l:List Side)(r:Int):Int:=(l.flatMap fun x=>(sidesOf tl x).map fun q=>if q.cell=r then x.sign * q.sign else 0).sum
def hits (tl:List Cl)(x:Side)(r:Int):Nat:=((sidesOf tl x).filter fun q=>decide (q.cell=r)).length
def cntR (tl:List Cl)(l:List Side)(r:Int):Nat:=(l.map fun x=>hits tl x r).sum
def share (tl:List Cl)(l:List Side)(a b:Int):Prop:=∃ x∈l,∃ y∈l,x.cell=a∧y.cell=b∧∃ r,0<hits tl x r∧0<hits tl y r
theorem getZ_addZ (zl:List (Int×Int))(k x r:Int):getZ (addZ zl k x) r=getZ zl r+if r=k then x else 0:=by
 induction zl with
 | nil =>
  simp only[addZ,getZ];split <;> simp
 | cons p q ih =>
  obtain ⟨a,z⟩:=p;simp only[addZ];by_cases h:k=a
  ·subst h;simp only[if_true,getZ];split <;> simp
  ·rw[if_neg h];simp only[getZ,ih];by_cases hr:r=a
   ·subst hr;rw[if_pos rfl,if_pos rfl,if_neg fun e=>h e.symm];omega
   ·rw[if_neg hr,if_neg hr]
theorem getZ_inner (x:Side)(r:Int):∀ (l:List Side) (zl:List (Int×Int)),getZ (l.foldl (stepZ x) zl) r=getZ zl r+(l.map fun q=>if q.cell=r then x.sign * q.sign else 0).sum
 | [],zl=>by simp
 | q::l,zl=>by
  simp only[List.foldl_cons,List.map_cons,List.sum_cons];rw[getZ_inner x r l,stepZ,getZ_addZ];by_cases h:r=q.cell
  ·rw[if_pos h,if_pos h.symm]; omega
  ·rw[if_neg h,if_neg fun e=>h e.symm]; omega
theorem getZ_sums (tl:List Cl)(l:List Side)(r:Int):getZ (sumsC tl l) r=sumR tl l r:=by
 have:∀ (l:List Side) (zl:List (Int×Int)),getZ (l.foldl (fun zl x=>(sidesOf tl x).foldl (stepZ x) zl) zl) r=getZ zl r+sumR tl l r:=by
  intro l;induction l with
  | nil=>intro zl; simp[sumR]
  | cons x q ih =>
   intro zl;simp only[List.foldl_cons];rw[ih,getZ_inner];simp only[sumR,List.flatMap_cons,List.sum_append];omega
 have h:=this l [];simpa [sumsC,getZ] using h
theorem addZ_keys (ml:List (Int×Int))(k x:Int):(addZ ml k x).map Prod.fst=if ml.any (fun p=>decide (p.1=k)) then ml.map Prod.fst else ml.map Prod.fst++[k]:=by
 induction ml with
 | nil=>simp[addZ]
 | cons p r ih =>
  obtain ⟨a,l⟩:=p;simp only[addZ];by_cases h:k=a
  ·subst h;simp
  ·have h2:¬ a=k:=fun e=>h e.symm;rw[if_neg h];simp only[List.map_cons,ih,List.any_cons,h2,decide_false,Bool.false_or];split <;> simp
theorem addZ_nodup {ml:List (Int×Int)}(h:(ml.map Prod.fst).Nodup)(k x:Int):((addZ ml k x).map Prod.fst).Nodup:=by
 rw[addZ_keys];split
 ·exact h
 ·rename_i hk;rw[List.nodup_append];refine⟨h,by simp,fun a ha b hb e=>hk ?_⟩;simp at hb;subst hb;obtain ⟨p,hp,hpe⟩:=List.mem_map.1 ha;rw[List.any_eq_true];exact⟨p,hp,by simp[hpe,e]⟩
theorem sumsC_nodup (tl:List Cl)(l:List Side):((sumsC tl l).map Prod.fst).Nodup:=by
 have h1:∀ (x:Side) (q:List Side) (zl:List (Int×Int)),(zl.map Prod.fst).Nodup→((q.foldl (stepZ x) zl).map Prod.fst).Nodup:=by
  intro x q;induction q with
  | nil=>intro zl h; exact h
  | cons r t ih=>intro zl h; exact ih _ (addZ_nodup h _ _)
 have h2:∀ (q:List Side) (zl:List (Int×Int)),(zl.map Prod.fst).Nodup→((q.foldl (fun zl x=>(sidesOf tl x).foldl (stepZ x) zl) zl).map Prod.fst).Nodup:=by
  intro q;induction q with
  | nil=>intro zl h; exact h
  | cons x t ih=>intro zl h; exact ih _ (h1 _ _ _ h)
 exact h2 _ _ (by simp)
theorem getZ_mem:∀ {zl:List (Int×Int)},(zl.map Prod.fst).Nodup→∀ p∈zl,getZ zl p.1=p.2
 | [],_,p,hp=>by simp at hp
 | (a,z)::r,h,p,hp=>by
  simp only[List.map_cons,List.nodup_cons] at h
  rcases List.mem_cons.1 hp with rfl | hp
  ·simp[getZ]
  ·simp only[getZ];rw[if_neg fun e=>h.1 (List.mem_map.2 ⟨p,hp,e⟩)];exact getZ_mem h.2 p hp
theorem getZ_some:∀ {zl:List (Int×Int)} {k:Int},getZ zl k≠0→∃ p∈zl,p.1=k∧p.2=getZ zl k
 | [],_,h=>by simp[getZ] at h
 | (a,z)::r,k,h=>by
  simp only[getZ] at h ⊢;split
  ·rename_i e;exact⟨(a,z),by simp,e.symm,I⟩
  ·rename_i e;rw[if_neg e] at h;obtain ⟨p,hp,h1,h2⟩:=getZ_some h;exact⟨p,by simp[hp],h1,h2⟩
theorem sums_none (tl:List Cl)(l:List Side):(sumsC tl l).any (fun p=>decide (p.2≠0))=false↔∀ r,sumR tl l r=0:=by
 rw[List.any_eq_false];constructor
 ·intro h r;rw[← getZ_sums];refine Decidable.of_not_not fun hne=>?_;obtain ⟨p,hp,_,h2⟩:=getZ_some hne;exact h p hp (by simpa [h2] using hne)
 ·intro h p hp;have:=getZ_mem (sumsC_nodup tl l) p hp;rw[getZ_sums,h] at this;simp[← this]
theorem getL_inner (i r:Int):∀ (l:List Side) (ml:List (Int×List Int)),getL (l.foldl (stepL i) ml) r=getL ml r++List.replicate (l.filter fun q=>decide (q.cell=r)).length i
 | [],ml=>by simp
 | q::l,ml=>by
  simp only[List.foldl_cons];rw[getL_inner i r l,stepL,getL_addL,List.filter_cons];by_cases h:r=q.cell
  ·rw[if_pos h,if_pos (by simp[h])];simp[List.replicate_succ]
  ·rw[if_neg h,if_neg (by simp; exact fun e=>h e.symm)]
theorem getL_met (tl:List Cl)(l:List Side)(r:Int):getL (metC tl l) r=l.zipIdx.flatMap fun p=>List.replicate (hits tl p.1 r) (p.2:Int):=by
 have:∀ (q:List (Side×Nat)) (ml:List (Int×List Int)),getL (q.foldl (fun ml p=>(sidesOf tl p.1).foldl (stepL p.2) ml) ml) r=getL ml r++q.flatMap fun p=>List.replicate (hits tl p.1 r) (p.2:Int):=by
  intro q;induction q with
  | nil=>intro ml; simp
  | cons p t ih =>
   intro ml;simp only[List.foldl_cons];rw[ih,getL_inner];simp[hits]
 have h:=this l.zipIdx [];simpa [metC,getL] using h
theorem met_len (tl:List Cl)(l:List Side)(r:Int):(getL (metC tl l) r).length=cntR tl l r:=by
 rw[getL_met];have:∀ (l:List Side) (k:Nat),((l.zipIdx k).flatMap fun p=>List.replicate (hits tl p.1 r) (p.2:Int)).length=cntR tl l r:=by
  intro l;induction l with
  | nil=>intro k; rfl
  | cons x q ih=>intro k; simp only[List.zipIdx_cons,List.flatMap_cons,List.length_append,List.length_replicate,ih,cntR,List.map_cons,List.sum_cons]
 exact this l 0
theorem met_mem (tl:List Cl)(l:List Side)(r i:Int):i∈getL (metC tl l) r↔∃ k:Nat,i=k∧∃ x,l[k]?=some x∧0<hits tl x r:=by
 rw[getL_met,List.mem_flatMap];constructor
 ·rintro ⟨⟨x,k⟩,hp,hi⟩;obtain ⟨h1,rfl⟩:=List.mem_replicate.1 hi;refine⟨k,I,x,?_,Nat.pos_of_ne_zero h1⟩;simpa using List.mem_zipIdx_iff_getElem?.1 hp
 ·rintro ⟨k,rfl,x,hx,hh⟩;exact⟨(x,k),List.mem_zipIdx_iff_getElem?.2 (by simpa using hx),List.mem_replicate.2 ⟨Nat.ne_of_gt hh,I⟩⟩
theorem getL_mem:∀ {ml:List (Int×List Int)},(ml.map Prod.fst).Nodup→∀ p∈ml,getL ml p.1=p.2
 | [],_,p,hp=>by simp at hp
 | (a,z)::r,h,p,hp=>by
  simp only[List.map_cons,List.nodup_cons] at h
  rcases List.mem_cons.1 hp with rfl | hp
  ·simp[getL]
  ·simp only[getL];rw[if_neg fun e=>h.1 (List.mem_map.2 ⟨p,hp,e⟩)];exact getL_mem h.2 p hp
theorem getL_some:∀ {ml:List (Int×List Int)} {k:Int},getL ml k≠[]→∃ p∈ml,p.1=k∧p.2=getL ml k
 | [],_,h=>by simp[getL] at h
 | (a,z)::r,k,h=>by
  simp only[getL] at h ⊢;split
  ·rename_i e;exact⟨(a,z),by simp,e.symm,I⟩
  ·rename_i e;rw[if_neg e] at h;obtain ⟨p,hp,h1,h2⟩:=getL_some h;exact⟨p,by simp[hp],h1,h2⟩
theorem addL_ne:∀ {ml:List (Int×List Int)} {k x:Int},(∀ p∈ml,p.2≠[])→∀ p∈addL ml k x,p.2≠[]
 | [],_,_,_,p,hp=>by simp[addL] at hp; subst hp; simp
 | (a,l)::r,k,x,h,p,hp=>by
  unfold addL at hp;split at hp
  ·rcases List.mem_cons.1 hp with rfl | hp
   ·simp
   ·exact h p (by simp[hp])
  ·rcases List.mem_cons.1 hp with rfl | hp
   ·exact h _ (by simp)
   ·exact addL_ne (fun q hq=>h q (by simp[hq])) p hp
theorem met_ne (tl:List Cl)(l:List Side):∀ p∈metC tl l,p.2≠[]:=by
 have h1:∀ (i:Int) (q:List Side) (ml:List (Int×List Int)),(∀ p∈ml,p.2≠[])→∀ p∈q.foldl (stepL i) ml,p.2≠[]:=by
  intro i q;induction q with
  | nil=>intro ml h; exact h
  | cons r t ih=>intro ml h; exact ih _ (addL_ne h)
 have h2:∀ (q:List (Side×Nat)) (ml:List (Int×List Int)),(∀ p∈ml,p.2≠[])→∀ p∈q.foldl (fun ml p=>(sidesOf tl p.1).foldl (stepL p.2) ml) ml,p.2≠[]:=by
  intro q;induction q with
  | nil=>intro ml h; exact h
  | cons x t ih=>intro ml h; exact ih _ (h1 _ _ _ h)
 exact h2 _ _ (by simp)
theorem met_none (tl:List Cl)(l:List Side):(metC tl l).any (fun p=>decide ((p.2.length:Int)≠2))=false↔∀ r,cntR tl l r=0∨cntR tl l r=2:=by
 rw[List.any_eq_false];constructor
 ·intro h r;rw[← met_len];by_cases hne:getL (metC tl l) r=[]
  ·left; rw[hne]; rfl
  ·right;obtain ⟨p,hp,_,h2⟩:=getL_some hne;have:=h p hp;rw[h2] at this;simp at this;omega
 ·intro h p hp;have h1:=getL_mem (metC_nodup tl l) p hp;have h2:=h p.1;rw[← met_len,h1] at h2;have h3:=List.length_pos_iff.2 (met_ne tl l p hp);simp;omega
theorem met_in (tl:List Cl)(l:List Side):∀ p∈metC tl l,∀ x∈p.2,0≤x∧x<(l.length:Int):=fun p hp x hx=>by
 rw[← getL_mem (metC_nodup tl l) p hp] at hx;obtain ⟨k,rfl,y,hy,_⟩:=(met_mem tl l p.1 x).1 hx;have:=(List.getElem?_eq_some_iff.1 hy).1;omega
theorem seen_all {ml:List (Int×List Int)}{n:Nat}(h2:∀ p∈ml,p.2.length=2)(hb:∀ p∈ml,∀ x∈p.2,0≤x∧x<(n:Int))(h0:0<n):(seenC (joinC ml)).length=n↔∀ a:Nat,a<n→Cn (linked ml) 0 a:=by
 have hmem:∀ x:Int,x∈seenC (joinC ml)↔Rch (adjJ (joinC ml)) 0 x:=fun x=>mem_dfs (cnt:=cntK (joinC ml)) (fun v v' h=>cntK_mono h) (cntK_strict _) (Nat.lt_succ_of_le (List.length_filter_le _ _)) (by simp[adjJ]) x;have hnd:(seenC (joinC ml)).Nodup:=dfs_nodup _ _ _ _ (by simp);have hin:∀ x∈seenC (joinC ml),0≤x∧x<(n:Int):=fun x hx=>by
  have hr:=(rch_cn h2 0 x).1 ((hmem x).1 hx);have:∀ a b,Cn (linked ml) a b→(0≤a∧a<(n:Int))→(0≤b∧b<(n:Int)):=by
   intro a b h;induction h with
   | refl _=>exact fun h=>h
   | step e _ ih =>
    intro _
    rcases e with e | e
    ·exact ih (linked_in hb e).2
    ·exact ih (linked_in hb e).1
  exact this 0 x hr oM
 generalize seenC (joinC ml)=seen at *;constructor
 ·intro hl a ha;refine Classical.byContradiction fun hne=>?_;have hna:(a:Int) ∉ seen:=fun h=>hne ((rch_cn h2 0 a).1 ((hmem a).1 h));have:=nodup_leI (l:=(a:Int)::seen) (n:=n) (List.nodup_cons.2 ⟨hna,hnd⟩) fun x hx=>by
   rcases List.mem_cons.1 hx with rfl | hx
   ·omega
   ·exact hin x hx
  simp at this;omega
 ·intro hall;refine Nat.le_antisymm (nodup_leI hnd hin) ?_;have h3:=length_le_of_nodup (m:=List.range n) (l:=seen.map Int.toNat) List.nodup_range (nodup_nat hnd fun x hx=>(hin x hx).1) fun i hi=>by
   have hi:=List.mem_range.1 hi;exact List.mem_map.2 ⟨(i:Int),(hmem i).2 ((rch_cn h2 0 i).2 (hall i hi)),by simp⟩
  simpa using h3
theorem Cn.map {E E':Int→Int→Prop}{f:Int→Int}(h:∀ a b,E a b→Cn E' (f a) (f b)){a b:Int}(hc:Cn E a b):Cn E' (f a) (f b):=by
 induction hc with
 | refl _=>exact .refl _
 | step e _ ih =>
  rcases e with e | e
  ·exact (h _ _ e).trans ih
  ·exact (h _ _ e).symm.trans ih
theorem around_iff {tl:List Cl}{c:Cl}(h0:0<c.sides.length)(hnd:(c.sides.map Side.cell).Nodup) :
  aroundC tl c=0↔(∀ r,sumR tl c.sides r=0)∧(∀ r,cntR tl c.sides r=0∨cntR tl c.sides r=2)∧∀ x∈c.sides,∀ y∈c.sides,Cn (share tl c.sides) x.cell y.cell:=by
 unfold aroundC;generalize c.sides=l at *;by_cases hs:(sumsC tl l).any (fun p=>decide (p.2≠0))=false
 ·rw[if_neg (by rw[hs]; simp)];by_cases hm:(metC tl l).any (fun p=>decide ((p.2.length:Int)≠2))=false
  ·rw[if_neg (by rw[hm]; simp)];have h2:∀ p∈metC tl l,p.2.length=2:=fun p hp=>by
    have:=List.any_eq_false.1 hm p hp;simp at this;omega
   have hsa:=seen_all h2 (met_in tl l) h0;have hinj:∀ {i j:Nat} {x y:Side},l[i]?=some x→l[j]?=some y→x.cell=y.cell→i=j:=fun {i j x y} hi hj e=>by
    obtain ⟨i1,e1⟩:=List.getElem?_eq_some_iff.1 hi;obtain ⟨i2,e2⟩:=List.getElem?_eq_some_iff.1 hj;have key:∀ {a b:Nat} (ha:a<l.length) (hb:b<l.length),a<b→l[a].cell≠l[b].cell:=fun {a b} ha hb h=>by
     have:=List.pairwise_iff_getElem.1 hnd a b (by simpa using ha) (by simpa using hb) h;simpa using this
    rcases Nat.lt_trichotomy i j with h | h | h
    ·exact absurd (by rw[e1,e2]; exact e) (key i1 i2 h)
    ·exact h
    ·exact absurd (by rw[e1,e2]; exact e.symm) (key i2 i1 h)
   have hconn:(∀ a:Nat,a<l.length→Cn (linked (metC tl l)) 0 a)↔∀ x∈l,∀ y∈l,Cn (share tl l) x.cell y.cell:=by
    constructor
    ·intro hall x hx y hy;obtain ⟨i,hi,rfl⟩:=List.getElem_of_mem hx;obtain ⟨j,hj,rfl⟩:=List.getElem_of_mem hy;have hc:=(hall i hi).symm.trans (hall j hj);have:=hc.map (f:=fun a=>(l.getD a.toNat ⟨0,0⟩).cell) (E':=share tl l) fun a b hl=>by
      obtain ⟨p,hp,h3,h4⟩:=hl;rw[← getL_mem (metC_nodup tl l) p hp] at h3 h4;obtain ⟨k,rfl,x,hx,hh⟩:=(met_mem tl l p.1 a).1 (List.mem_of_head? h3);obtain ⟨m,rfl,y,hy,hh2⟩:=(met_mem tl l p.1 b).1 h4;refine .one ⟨x,List.mem_of_getElem? hx,y,List.mem_of_getElem? hy,?_,?_,p.1,hh,hh2⟩
      ·simp[List.getD_eq_getElem?_getD,hx]
      ·simp[List.getD_eq_getElem?_getD,hy]
     simpa [List.getD_eq_getElem?_getD,hi,hj] using this
    ·intro hall;have key:∀ a b,Cn (share tl l) a b→∀ (i:Nat) (x:Side),l[i]?=some x→x.cell=a→∀ (j:Nat) (y:Side),l[j]?=some y→y.cell=b→Cn (linked (metC tl l)) (i:Int) (j:Int):=by
      have one:∀ {a b:Int},share tl l a b→∀ (i:Nat) (x:Side),l[i]?=some x→x.cell=a→∃ (j:Nat) (y:Side),l[j]?=some y∧y.cell=b∧Cn (linked (metC tl l)) (i:Int) (j:Int):=by
       rintro a b ⟨x',hx',y,hy,rfl,rfl,r,h3,h4⟩ i x hi he;obtain ⟨i',hi',rfl⟩:=List.getElem_of_mem hx';obtain ⟨j,hj,rfl⟩:=List.getElem_of_mem hy;have hii:=hinj hi (gE hi') he;subst hii;refine⟨j,l[j],gE hj,I,?_⟩;have m1:=(met_mem tl l r i).2 ⟨i,rfl,l[i],gE hi',h3⟩;have m2:=(met_mem tl l r j).2 ⟨j,rfl,l[j],gE hj,h4⟩;obtain ⟨p,hp,_,hp2⟩:=getL_some (ml:=metC tl l) (k:=r) fun e=>by rw[e] at m1; simp at m1
       rw[← hp2] at m1 m2;cases hh:p.2 with
       | nil=>rw[hh] at m1; simp at m1
       | cons u q =>
        have hu:∀ v∈p.2,linked (metC tl l) u v:=fun v hv=>⟨p,hp,by rw[hh]; rfl,hv⟩;exact (Cn.one (hu _ m1)).symm.trans (Cn.one (hu _ m2))
      intro a b hc;induction hc with
      | refl a =>
       intro i x hi he j y hj he2;have:=hinj hi hj (he.trans he2.symm);subst this;exact .refl _
      | step e _ ih =>
       intro i x hi he j y hj he2;have e':share tl l _ _:=e.elim (fun e=>e) fun ⟨x,hx,y,hy,h1,h2,r,h3,h4⟩=>⟨y,hy,x,hx,h2,h1,r,h4,h3⟩;obtain ⟨k,z,hk,hz,hc⟩:=one e' i x hi he;exact hc.trans (ih k z hk hz j y hj he2)
     intro a ha;exact key _ _ (hall _ (gM h0) _ (gM ha)) 0 _ (gE h0) I a _ (gE ha) I
   rw[← hconn,← hsa];constructor
   ·intro h;refine⟨(sums_none tl l).1 hs,(met_none tl l).1 hm,?_⟩;refine Decidable.of_not_not fun hne=>?_;rw[if_pos oM] at h;exact absurd h dC
   ·rintro ⟨_,_,h⟩;rw[if_neg oM]
  ·have hm':(metC tl l).any (fun p=>decide ((p.2.length:Int)≠2))=true:=by simpa using hm
   rw[if_pos hm'];exact⟨fun h=>absurd h dC,fun h=>absurd ((met_none tl l).2 h.2.1) hm⟩
 ·have hs':(sumsC tl l).any (fun p=>decide (p.2≠0))=true:=by simpa using hs
  rw[if_pos hs'];exact⟨fun h=>absurd h dC,fun h=>absurd ((sums_none tl l).2 h.1) hs⟩
structure Fm (tl:List Cl)(c:Cl):Prop where
 dim:0≤c.dim∧c.dim≤8
 cnt:cntBad c=false
 found:∀ x∈c.sides,∃ d,findT tl x.cell=some d∧d.dim=c.dim - 1
 asc:c.sides.Pairwise fun a b=>a.cell<b.cell
 sg:∀ x∈c.sides,x.sign=1∨x.sign = -1
 one:c.dim=1→sumS c.sides=0
theorem Fm.ok {tl:List Cl}{c:Cl}(h:Fm tl c):formC tl c=0:=form_of h.dim h.cnt h.found h.asc h.sg h.one
theorem asc_of {l:List Side}(hs:l.Pairwise fun a b=>a.cell≤b.cell)(hd:∀ i x y,l[i]?=some x→l[i+1]?=some y→x.cell≠y.cell):l.Pairwise fun a b=>a.cell<b.cell:=by
 induction l with
 | nil=>exact List.Pairwise.nil
 | cons a r ih =>
  obtain ⟨h1,h2⟩:=List.pairwise_cons.1 hs;have hr:=ih h2 fun i x y hx hy=>hd (i+1) x y (by simpa using hx) (by simpa using hy);refine List.pairwise_cons.2 ⟨fun b hb=>?_,hr⟩;cases r with
  | nil=>simp at hb
  | cons z q =>
   have hz:a.cell<z.cell:=by
    have:=h1 z (by simp);have:=hd 0 a z rfl rfl;omega
   rcases List.mem_cons.1 hb with rfl | hb
   ·exact hz
   ·have:=(List.pairwise_cons.1 hr).1 b hb;omega
theorem fm_of {tl:List Cl}{c:Cl}(h:formC tl c=0)(hs:c.sides.Pairwise fun a b=>a.cell≤b.cell):Fm tl c:=by
 unfold formC at h;split at h
 ·cases h
 ·rename_i h1;split at h
  ·cases h
  ·rename_i h2;split at h
   ·cases h
   ·rename_i h3;split at h
    ·cases h
    ·rename_i h4;split at h
     ·cases h
     ·rename_i h5;have hbad:∀ i x,c.sides[i]?=some x→badSide tl c i x=false:=fun i x hx=>by
       have hi:=(List.getElem?_eq_some_iff.1 hx).1;have:=List.any_eq_false.1 ((Bool.not_eq_true _).mp h3) i (List.mem_range.2 hi);unfold badAt at this;rw[hx] at this;simpa using this
      refine⟨?_,by simpa using h2,fun x hx=>?_,asc_of hs fun i x y hx hy e=>?_,fun x hx=>?_,fun hd=>?_⟩
      ·simp[dimBad] at h1; omega
      ·obtain ⟨i,hi,rfl⟩:=List.getElem_of_mem hx;have:=hbad i _ (gE hi);unfold badSide at this;simp only[Bool.or_eq_false_iff,Bool.not_eq_false',decide_eq_false_iff_not,ne_eq,Decidable.not_not] at this;obtain ⟨⟨g1,g2⟩,_⟩:=this;obtain ⟨d,hd⟩:=Option.isSome_iff_exists.1 g1;rw[hd] at g2;exact⟨d,hd,g2⟩
      ·have:=hbad (i+1) y hy;unfold badSide at this;rw[show i+1 - 1=i by omega,hx] at this;simp[e] at this
      ·have:=List.any_eq_false.1 ((Bool.not_eq_true _).mp h4) x hx;simp[signBad] at this;by_cases h6:x.sign=1
       ·exact .inl h6
       ·exact .inr (this h6)
      ·simpa [hd] using h5
structure Rt (l:List Cl):Prop where
 few:l.length≤4000
 asc:l.Pairwise fun a b=>a.id<b.id
 pos:∀ x∈l,0<x.id
 form:∀ x∈l,Fm l x
 around:∀ x∈l,x.dim>1→aroundC l x=0
theorem Rt.canon {l:List Cl}(h:Rt l):canonC l=l:=by
 unfold canonC;rw[(eq_sortBy (key:=Cl.id) (h.asc.imp fun h=>by omega) (Stab.refl l)).symm];have:∀ c∈l,normC c=c:=fun c hc=>by
  unfold normC;rw[(eq_sortBy (key:=Side.cell) ((h.form c hc).asc.imp fun h=>by omega) (Stab.refl c.sides)).symm]
 rw[List.map_congr_left this];simp
theorem Rt.tab {l:List Cl}(h:Rt l):tabC l=l:=by rw[tabC_strict (by rw[h.canon]; exact h.asc),h.canon]
theorem Rt.find {l:List Cl}(h:Rt l){c:Cl}(hc:c∈l):findT l c.id=some c:=by
 refine find_mem ?_ hc;rw[List.Nodup,List.pairwise_map];exact h.asc.imp fun h=>by omega
theorem chk2_none_form {tl:List Cl}:∀ {l:List Cl},chk2 tl l=none→∀ x∈l,x.dim>1→aroundC tl x=0
 | [],_,x,hx,_=>by simp at hx
 | y::r,h,x,hx,hd=>by
  unfold chk2 at h;split at h
  ·cases h
  ·rename_i hn
   rcases List.mem_cons.1 hx with rfl | hx
   ·exact Decidable.of_not_not fun h=>hn ⟨hd,h⟩
   ·exact chk2_none_form h x hx hd
theorem chk2_some {tl:List Cl}:∀ {l:List Cl} {p:Int×Int},chk2 tl l=some p→p.2≠0
 | [],_,h=>by cases h
 | y::r,p,h=>by
  unfold chk2 at h;split at h
  ·rename_i hn; cases h; exact hn.2
  ·exact chk2_some h
theorem canon_sides (l:List Cl):∀ c∈canonC l,c.sides.Pairwise fun a b=>a.cell≤b.cell:=fun c hc=>by
 obtain ⟨d,_,rfl⟩:=List.mem_map.1 hc;exact sortBy_srt d.sides
theorem rt_of {l:List Cl}(h:(checkC l).2=0):Rt (canonC l):=by
 have h1:=check_ne h;obtain ⟨h2,h3,h4⟩:=chk1_none_form h1;have ht:=tabC_strict h2;have h5:l.length≤4000:=check_len h;refine⟨by rw[canonC_length]; exact h5,h2,h3,fun x hx=>fm_of (by rw[← ht]; exact h4 x hx) (canon_sides l x hx),?_⟩;have h6:chk2 (tabC l) (canonC l)=none:=by
  unfold checkC at h;rw[if_neg oM,h1] at h;cases hc:chk2 (tabC l) (canonC l) with
  | none=>rfl
  | some p =>
   rw[hc] at h;exact absurd h (chk2_some hc)
 rw[ht] at h6;exact chk2_none_form h6
theorem perm_sumI {l m:List Int}(h:l.Perm m):l.sum=m.sum:=by
 induction h with
 | nil=>rfl
 | cons x _ ih=>simp[ih]
 | swap x y l=>simp; omega
 | trans _ _ ih1 ih2=>exact ih1.trans ih2
theorem perm_sumN {l m:List Nat}(h:l.Perm m):l.sum=m.sum:=by
 induction h with
 | nil=>rfl
 | cons x _ ih=>simp[ih]
 | swap x y l=>simp; omega
 | trans _ _ ih1 ih2=>exact ih1.trans ih2
theorem sortBy_perm {α:Type}{key:α→Int}(l:List α):(sortBy key l).Perm l:=by
 have hi:∀ (x:α) (l:List α),(ins key x l).Perm (x::l):=by
  intro x l;induction l with
  | nil=>exact .refl _
  | cons y r ih =>
   unfold ins;split
   ·exact .refl _
   ·exact (ih.cons y).trans (.swap x y r)
 induction l with
 | nil=>exact .refl _
 | cons x r ih=>exact (hi x _).trans (ih.cons x)
def inner (tl:List Cl)(x:Side)(r:Int):Int:=((sidesOf tl x).map fun q=>if q.cell=r then x.sign * q.sign else 0).sum
theorem sumR_inner (tl:List Cl)(l:List Side)(r:Int):sumR tl l r=(l.map fun x=>inner tl x r).sum:=by
 unfold sumR;induction l with
 | nil=>rfl
 | cons x q ih=>simp only[List.flatMap_cons,List.sum_append,List.map_cons,List.sum_cons,ih]; rfl
theorem sumR_perm {tl:List Cl}{l m:List Side}(h:l.Perm m)(r:Int):sumR tl l r=sumR tl m r:=by
 rw[sumR_inner,sumR_inner];exact perm_sumI (h.map _)
theorem cntR_perm {tl:List Cl}{l m:List Side}(h:l.Perm m)(r:Int):cntR tl l r=cntR tl m r:=perm_sumN (h.map _)
def sgn (b:Bool):Int:=if b then -1 else 1
theorem negIf_sgn (b:Bool){a:Int}(h:a=1∨a = -1):negIf b a=sgn b * a∧(negIf b a=1∨negIf b a = -1):=by
 rcases h with rfl | rfl <;> cases b <;> exact⟨by decide,by decide⟩
theorem sum_const {α:Type}{l:List α}{f g:α→Int}{K:Int}(h:∀ x∈l,f x=K * g x):(l.map f).sum=K * (l.map g).sum:=by
 induction l with
 | nil=>simp
 | cons x r ih =>
  simp only[List.map_cons,List.sum_cons];rw[h x (by simp),ih fun y hy=>h y (by simp[hy]),Int.mul_add]
structure Nm (l:List Cl)(k:Int):Prop where
 inj:∀ a∈l,∀ b∈l,mixC a.id k=mixC b.id k→a=b
 pos:∀ a∈l,0<mixC a.id k
section
variable {l:List Cl}(h:Rt l){k:Int}(hn:Nm l k)(t:Int)
include h hn
omit hn in
theorem ren_sub (c:Cl)(hc:c∈l){x:Side}(hx:x∈c.sides):∃ d∈l,d.id=x.cell∧findT l x.cell=some d∧d.dim=c.dim - 1:=by
 obtain ⟨d,hd,hdd⟩:=(h.form c hc).found x hx;obtain ⟨h1,h2⟩:=findT_mem hd;exact⟨d,h1,h2,hd,hdd⟩
theorem ren_ids:((l.map (renCell k t)).map Cl.id).Nodup:=by
 rw[List.map_map,List.Nodup,List.pairwise_map];refine List.Pairwise.imp_of_mem ?_ h.asc;intro a b ha hb hlt e;have:=hn.inj a ha b hb e;subst this;omega
theorem ren_nodup:((canonC (l.map (renCell k t))).map Cl.id).Nodup:=by
 have h1:=ren_ids h hn t;have h2:((canonC (l.map (renCell k t))).map Cl.id).Perm ((l.map (renCell k t)).map Cl.id):=by
  rw[canonC_ids];exact (sortBy_perm _).map _
 exact h2.symm.nodup h1
omit h hn in
theorem ren_mem {c:Cl}(hc:c∈l):normC (renCell k t c)∈canonC (l.map (renCell k t)) :=
 List.mem_map.2 ⟨_,(sortBy_mem _ _).2 (List.mem_map.2 ⟨c,hc,rfl⟩),rfl⟩
omit h hn in
theorem mem_ren {c':Cl}(hc:c'∈canonC (l.map (renCell k t))):∃ c∈l,c'=normC (renCell k t c):=by
 obtain ⟨d,hd,rfl⟩:=List.mem_map.1 hc;obtain ⟨c,hc',rfl⟩:=List.mem_map.1 ((sortBy_mem _ _).1 hd);exact⟨c,hc',I⟩
theorem ren_find {c:Cl}(hc:c∈l):findT (canonC (l.map (renCell k t))) (mixC c.id k)=some (normC (renCell k t c)) :=
 find_mem (x:=normC (renCell k t c)) (ren_nodup h hn t) (ren_mem t hc)
omit h hn in
theorem ren_perm (c:Cl):(normC (renCell k t c)).sides.Perm (c.sides.map (renSide k t c)):=sortBy_perm _
omit hn in
theorem ren_sign {c:Cl}(hc:c∈l){x:Side}(hx:x∈c.sides):(renSide k t c x).sign=sgn (turn2 t c x.cell) * (sgn (turn1 t c) * x.sign)∧((renSide k t c x).sign=1∨(renSide k t c x).sign = -1):=by
 have h1:=negIf_sgn (turn1 t c) ((h.form c hc).sg x hx);have h2:=negIf_sgn (turn2 t c x.cell) h1.2;exact⟨by rw[← h1.1]; exact h2.1,h2.2⟩
theorem ren_form {c:Cl}(hc:c∈l):Fm (canonC (l.map (renCell k t))) (normC (renCell k t c)):=by
 have hf:=h.form c hc;have hlen:(normC (renCell k t c)).sides.length=c.sides.length:=by rw[(ren_perm t c).length_eq,List.length_map]
 have hmem:∀ x',x'∈(normC (renCell k t c)).sides↔∃ x∈c.sides,renSide k t c x=x':=fun x'=>by rw[(ren_perm t c).mem_iff,List.mem_map]
 refine⟨hf.dim,?_,fun x' hx'=>?_,?_,fun x' hx'=>?_,fun hd=>?_⟩
 ·have:=hf.cnt;unfold cntBad at this ⊢;rw[hlen];exact this
 ·obtain ⟨x,hx,rfl⟩:=(hmem x').1 hx';obtain ⟨d,hd,hid,_,hdd⟩:=ren_sub h c hc hx;have:=ren_find h hn t hd;rw[hid] at this;exact⟨_,this,hdd⟩
 ·have h1:(normC (renCell k t c)).sides.Pairwise fun a b=>a.cell≤b.cell:=sortBy_srt _;have h2:((normC (renCell k t c)).sides.map Side.cell).Nodup:=by
   refine ((ren_perm t c).map Side.cell).symm.nodup ?_;rw[List.map_map,List.Nodup,List.pairwise_map];refine List.Pairwise.imp_of_mem ?_ hf.asc;intro a b ha hb hlt e;obtain ⟨d,hd,hid,_⟩:=ren_sub h c hc ha;obtain ⟨d',hd',hid',_⟩:=ren_sub h c hc hb;have e:mixC a.cell k=mixC b.cell k:=e;rw[← hid,← hid'] at e;have:=hn.inj d hd d' hd' e;subst this;omega
  rw[List.Nodup,List.pairwise_map] at h2;exact (h1.and h2).imp fun ⟨h3,h4⟩=>by omega
 ·obtain ⟨x,hx,rfl⟩:=(hmem x').1 hx';exact (ren_sign h t hc hx).2
 ·have hd:c.dim=1:=hd;have h1:=hf.one hd;unfold sumS at h1 ⊢;rw[perm_sumI ((ren_perm t c).map Side.sign),List.map_map];rw[sum_const (g:=Side.sign) (K:=sgn (turn1 t c)) fun x hx=>?_,h1,Int.mul_zero];have h2:=(ren_sign (k:=k) h t hc hx).1;have h3:turn2 t c x.cell=false:=by unfold turn2; simp[hd]
  rw[h3] at h2;show (renSide k t c x).sign=_;rw[h2];unfold sgn;simp
theorem ren_hits {c:Cl}(hc:c∈l){x:Side}(hx:x∈c.sides){e:Cl}(he:e∈l):hits (canonC (l.map (renCell k t))) (renSide k t c x) (mixC e.id k)=hits l x e.id:=by
 obtain ⟨d,hd,hid,hfd,_⟩:=ren_sub h c hc hx;unfold hits sidesOf;rw[hfd,show (renSide k t c x).cell=mixC d.id k by rw[hid]; rfl,ren_find h hn t hd];show ((normC (renCell k t d)).sides.filter _).length=_;rw[((ren_perm t d).filter _).length_eq,List.filter_map,List.length_map];congr 1;refine List.filter_congr fun q hq=>?_;obtain ⟨u,hu,hui,_⟩:=ren_sub h d hd hq;show decide (mixC q.cell k=mixC e.id k)=decide (q.cell=e.id);rw[decide_eq_decide,← hui];by_cases hue:u=e
 ·subst hue; simp
 ·have h1:¬ mixC u.id k=mixC e.id k:=fun e'=>hue (hn.inj u hu e he e');have h2:¬ u.id=e.id:=fun e'=>hue (by have a1:=h.find hu; have a2:=h.find he; rw[e',a2] at a1; injection a1 with a1; exact a1.symm);simp[h1,h2]
theorem ren_hits_no {c:Cl}(hc:c∈l){x:Side}(hx:x∈c.sides){r:Int}(hr:∀ e∈l,mixC e.id k≠r):hits (canonC (l.map (renCell k t))) (renSide k t c x) r=0:=by
 obtain ⟨d,hd,hid,hfd,_⟩:=ren_sub h c hc hx;unfold hits sidesOf;rw[show (renSide k t c x).cell=mixC d.id k by rw[hid]; rfl,ren_find h hn t hd];show ((normC (renCell k t d)).sides.filter _).length=_;rw[((ren_perm t d).filter _).length_eq,List.length_eq_zero_iff,List.filter_eq_nil_iff];intro q' hq';obtain ⟨q,hq,rfl⟩:=List.mem_map.1 hq';obtain ⟨u,hu,hui,_⟩:=ren_sub h d hd hq;have:=hr u hu;rw[hui] at this;show ¬ decide (mixC q.cell k=r)=true;simpa using this
theorem ren_inner {c:Cl}(hc:c∈l)(hd1:c.dim>1){x:Side}(hx:x∈c.sides){e:Cl}(he:e∈l) :
  inner (canonC (l.map (renCell k t))) (renSide k t c x) (mixC e.id k)=sgn (turn1 t c) * sgn ((decide (t>1)&&decide (c.dim - 1>1))&&decide (e.id.tmod t=1)) * inner l x e.id:=by
 obtain ⟨d,hd,hid,hfd,hdd⟩:=ren_sub h c hc hx;have hsx:=(ren_sign (k:=k) h t hc hx).1;unfold inner sidesOf;rw[hfd,show (renSide k t c x).cell=mixC d.id k by rw[hid]; rfl,ren_find h hn t hd];show ((normC (renCell k t d)).sides.map _).sum=_;rw[perm_sumI ((ren_perm t d).map _),List.map_map];show _=_ * (d.sides.map _).sum;refine sum_const fun q hq=>?_;obtain ⟨u,hu,hui,_⟩:=ren_sub h d hd hq;have hsq:=(ren_sign (k:=k) h t hd hq).1;simp only[Function.comp_def];show (if mixC q.cell k=mixC e.id k then (renSide k t c x).sign * (renSide k t d q).sign else 0)=_;by_cases hue:u=e
 ·subst hue;rw[hui,if_pos rfl,if_pos rfl,hsx,hsq];have h1:turn2 t c x.cell=turn1 t d:=by
   unfold turn2 turn1;rw[hid];simp[hd1]
  have h2:turn2 t d q.cell=((decide (t>1)&&decide (c.dim - 1>1))&&decide (q.cell.tmod t=1)):=by
   unfold turn2;rw[hdd]
  rw[h1,h2];generalize turn1 t d=b1;generalize turn1 t c=b2;generalize ((decide (t>1)&&decide (c.dim - 1>1))&&decide (q.cell.tmod t=1))=b3;cases b1 <;> cases b2 <;> cases b3 <;> simp[sgn,Int.neg_mul,Int.mul_neg]
 ·have h1:¬ mixC q.cell k=mixC e.id k:=fun e'=>hue (hn.inj u hu e he (by rw[hui]; exact e'));have h2:¬ q.cell=e.id:=fun e'=>hue (by have a1:=h.find hu; have a2:=h.find he; rw[hui,e',a2] at a1; injection a1 with a1; exact a1.symm);rw[if_neg h1,if_neg h2,Int.mul_zero]
omit h hn in
theorem inner_no {tl:List Cl}{x:Side}{r:Int}(h0:hits tl x r=0):inner tl x r=0:=by
 unfold hits at h0;rw[List.length_eq_zero_iff,List.filter_eq_nil_iff] at h0;unfold inner;have:((sidesOf tl x).map fun q=>if q.cell=r then x.sign * q.sign else 0)=(sidesOf tl x).map fun _=>(0:Int):=List.map_congr_left fun q hq=>if_neg (by simpa using h0 q hq);rw[this];generalize sidesOf tl x=m;induction m with
 | nil=>rfl
 | cons a b ih=>simpa using ih
theorem ren_around {c:Cl}(hc:c∈l)(hd1:c.dim>1):aroundC (canonC (l.map (renCell k t))) (normC (renCell k t c))=0:=by
 have hf:=h.form c hc;have hf':=ren_form h hn t hc;have hn0:0<c.sides.length:=by
  have:=hf.cnt;simp[cntBad] at this;have:=this.2 hd1;omega
 have hlen:(normC (renCell k t c)).sides.length=c.sides.length:=by rw[(ren_perm t c).length_eq,List.length_map]
 have nd:∀ {c:Cl},(c.sides.Pairwise fun a b=>a.cell<b.cell)→(c.sides.map Side.cell).Nodup:=fun h=>by
  rw[List.Nodup,List.pairwise_map];exact h.imp fun h=>by omega
 obtain ⟨a1,a2,a3⟩:=(around_iff hn0 (nd hf.asc)).1 (h.around c hc hd1);refine (around_iff (by rw[hlen]; exact hn0) (nd hf'.asc)).2 ⟨fun r=>?_,fun r=>?_,fun x' hx' y' hy'=>?_⟩
 ·rw[sumR_perm (ren_perm t c),sumR_inner,List.map_map];simp only[Function.comp_def];by_cases hr:∃ e∈l,mixC e.id k=r
  ·obtain ⟨e,he,rfl⟩:=hr;have h1:=a1 e.id;rw[sumR_inner] at h1;rw[sum_const (g:=fun x=>inner l x e.id) (K:=sgn (turn1 t c) * sgn ((decide (t>1)&&decide (c.dim - 1>1))&&decide (e.id.tmod t=1))) fun x hx=>ren_inner h hn t hc hd1 hx he,h1,Int.mul_zero]
  ·have hr:∀ e∈l,mixC e.id k≠r:=fun e he e'=>hr ⟨e,he,e'⟩;rw[sum_const (g:=fun _=>(0:Int)) (K:=0) fun x hx=>by
    rw[inner_no (ren_hits_no h hn t hc hx hr)];rfl,Int.zero_mul]
 ·rw[cntR_perm (ren_perm t c)];unfold cntR;rw[List.map_map];simp only[Function.comp_def];by_cases hr:∃ e∈l,mixC e.id k=r
  ·obtain ⟨e,he,rfl⟩:=hr;have h1:=a2 e.id;unfold cntR at h1;rw[List.map_congr_left (g:=fun x=>hits l x e.id) fun x hx=>ren_hits h hn t hc hx he];exact h1
  ·have hr:∀ e∈l,mixC e.id k≠r:=fun e he e'=>hr ⟨e,he,e'⟩;left;rw[List.map_congr_left (g:=fun _=>0) fun x hx=>ren_hits_no h hn t hc hx hr];generalize c.sides=m;induction m with
   | nil=>rfl
   | cons a b ih=>simpa using ih
 ·have hmem:∀ x',x'∈(normC (renCell k t c)).sides↔x'∈c.sides.map (renSide k t c):=fun x'=>(ren_perm t c).mem_iff;obtain ⟨x,hx,rfl⟩:=List.mem_map.1 ((hmem x').1 hx');obtain ⟨y,hy,rfl⟩:=List.mem_map.1 ((hmem y').1 hy');have hm:∀ x∈c.sides,renSide k t c x∈(normC (renCell k t c)).sides:=fun x hx=>(hmem _).2 (List.mem_map.2 ⟨x,hx,rfl⟩);refine (a3 x hx y hy).map (f:=fun a=>mixC a k) fun a b=>?_;rintro ⟨u,hu,v,hv,rfl,rfl,r,h1,h2⟩;obtain ⟨du,hdu,hidu,hfu,_⟩:=ren_sub h c hc hu;have hr:∃ e∈l,e.id=r:=by
   unfold hits sidesOf at h1;rw[hfu] at h1;obtain ⟨q,hq⟩:=List.exists_mem_of_length_pos h1;obtain ⟨hq1,hq2⟩:=List.mem_filter.1 hq;obtain ⟨e,he,hei,_⟩:=ren_sub h du hdu (x:=q) hq1;exact⟨e,he,by rw[hei]; simpa using hq2⟩
  obtain ⟨e,he,rfl⟩:=hr;exact .one ⟨_,hm u hu,_,hm v hv,I,I,mixC e.id k,by rw[ren_hits h hn t hc hu he]; exact h1,by rw[ren_hits h hn t hc hv he]; exact h2⟩
theorem ren_right:Rt (canonC (l.map (renCell k t))):=by
 refine⟨by rw[canonC_length,List.length_map]; exact h.few,?_,fun x' hx'=>?_,fun x' hx'=>?_,fun x' hx' hd=>?_⟩
 ·have h1:=canonC_sorted (l.map (renCell k t));have h2:=ren_nodup h hn t;rw[List.pairwise_map] at h1;rw[List.Nodup,List.pairwise_map] at h2;exact (h1.and h2).imp fun ⟨h3,h4⟩=>by omega
 ·obtain ⟨c,hc,rfl⟩:=mem_ren t hx';exact hn.pos c hc
 ·obtain ⟨c,hc,rfl⟩:=mem_ren t hx';exact ren_form h hn t hc
 ·obtain ⟨c,hc,rfl⟩:=mem_ren t hx';exact ren_around h hn t hc hd
end
def Bd (l:List Cl):Prop:=∀ c∈l,c.id≤l.length
theorem rt_simp (ls:List (List Int)):Rt (simpC ls)∧Bd (simpC ls):=by
 have h1:=rt_of (l:=simpC ls) (by rw[simpC_right]);have h2:canonC (simpC ls)=simpC ls:=by
  unfold simpC;cases simpAll [] ls with
  | none=>rfl
  | some all=>exact canonC_idem _
 rw[h2] at h1;refine⟨h1,?_⟩;unfold simpC;cases h:simpAll [] ls with
 | none=>intro c hc; simp at hc
 | some all =>
  obtain ⟨hg,_⟩:=simpAll_good ls [] h Good.nil (by simp);dsimp only;rw[hg.cells];intro c hc;obtain ⟨s,hs,rfl⟩:=List.mem_map.1 hc;have:=(List.getElem?_eq_some_iff.1 (hg.get_lb hs)).1;show ixC all s≤_;unfold ixC;rw[List.length_map];omega
theorem lbI_lt {l:List Int}{x:Int}(h:x∈l):lbI l x<l.length:=by
 unfold lbI;induction l with
 | nil=>simp at h
 | cons a r ih =>
  rw[List.filter_cons]
  rcases List.mem_cons.1 h with rfl | h
  ·have:=List.length_filter_le (fun y=>decide (y<x)) r;simp;omega
  ·have:=ih h;split
   ·simp only[List.length_cons]; omega
   ·simp only[List.length_cons]; omega
theorem rt_prod (a b:List Cl):Rt (refProdC a b)∧Bd (refProdC a b)∧(refProdC a b).length≤a.length * b.length:=by
 rw[prod_ref];unfold prodC;split
 ·exact⟨⟨by simp,List.Pairwise.nil,by simp,by simp,by simp⟩,fun c hc=>by simp at hc,by simp⟩
 ·rename_i hbad;split
  ·rename_i hok;have hlen:(canonC (prodAll a b)).length=a.length * b.length:=by
    rw[canonC_length];unfold prodAll;rw[flatMap_len,canonC_length,canonC_length]
   refine⟨rt_of hok,fun c hc=>?_,by rw[hlen]; exact lR _⟩;rw[hlen];obtain ⟨h1,h2,_⟩:=prodBad_no (by simpa using hbad);have ta:=tabC_strict (chk1_none_form (check_ne h1)).1;have tb:=tabC_strict (chk1_none_form (check_ne h2)).1;obtain ⟨d,hd,rfl⟩:=List.mem_map.1 hc;have hd:=(sortBy_mem _ _).1 hd;unfold prodAll at hd;rw[ta,tb] at hd;obtain ⟨x,hx,hd⟩:=List.mem_flatMap.1 hd;obtain ⟨y,hy,rfl⟩:=List.mem_map.1 hd;have l1:=lbI_lt (List.mem_map.2 ⟨x,hx,rfl⟩:x.id∈(canonC a).map Cl.id);have l2:=lbI_lt (List.mem_map.2 ⟨y,hy,rfl⟩:y.id∈(canonC b).map Cl.id);rw[List.length_map,canonC_length] at l1 l2;show prodId (canonC a) (canonC b) x.id y.id≤_;unfold prodId;rw[canonC_length];have h3:(lbI ((canonC a).map Cl.id) x.id+1) * b.length≤a.length * b.length:=Nat.mul_le_mul_right _ l1;rw[Nat.succ_mul] at h3;have h4:((lbI ((canonC a).map Cl.id) x.id * b.length:Nat):Int)=(lbI ((canonC a).map Cl.id) x.id:Int) * (b.length:Int):=Int.natCast_mul _ _;rw[← h4];omega
  ·exact⟨⟨by simp,List.Pairwise.nil,by simp,by simp,by simp⟩,fun c hc=>by simp at hc,by simp⟩
theorem poly_check:∀ n,n<7→2≤n→(checkC (polyC n)).2=0∧∀ c∈polyC n,c.id≤90:=by decide +kernel
theorem simpAll_two:∀ (ls acc:List (List Int)) {all:List (List Int)},simpAll acc ls=some all→(∀ x∈ls,x.length≤2)→all.length≤acc.length+3 * ls.length
 | [],acc,all,h,_=>by cases h; simp
 | s::r,acc,all,h,hl=>by
  have hs:=hl s (by simp);have h3:(setC s).length≤s.length:=by
   unfold setC;exact Nat.le_trans (uniq_length _ _) (by rw[sortI_length]; exact lR _)
  simp only[List.length_cons];unfold simpAll at h;split at h
  ·have:=simpAll_two r acc h fun x hx=>hl x (by simp[hx]);omega
  ·split at h
   ·cases h
   ·have h1:=simpAll_two r _ h fun x hx=>hl x (by simp[hx]);have h2:(addSets acc (setC s)).length≤acc.length+3:=by
     unfold addSets;refine Nat.le_trans (uniq_length _ _) ?_;rw[(sortL_perm _).length_eq,List.length_append];have:2 ^ (setC s).length≤2 ^ 2:=Nat.pow_le_pow_right dC oM;simp[subsetsC];omega
    omega
theorem circle_len:(simpC [[0,1],[1,2],[0,2]]).length≤9:=by
 unfold simpC;cases h:simpAll [] [[0,1],[1,2],[0,2]] with
 | none=>simp
 | some all =>
  have:=simpAll_two _ _ h dC;dsimp only;rw[canonC_length,simpCells_length];simpa using this
theorem rt_base (m:Int)(ls:List (List Int))(y:Int):Rt (bigC (baseM m ls y))∧∀ c∈bigC (baseM m ls y),c.id≤90:=by
 have key:∀ l:List Cl,Rt l→(l.length≤45→∀ c∈l,c.id≤90)→Rt (bigC l)∧∀ c∈bigC l,c.id≤90:=by
  intro l h1 h2;unfold bigC;split
  ·have h3:=rt_prod (simpC [[0,1],[1,2],[0,2]]) (simpC [[0,1],[1,2],[0,2]]);refine⟨h3.1,fun c hc=>?_⟩;have h4:=h3.2.1 c hc;have h5:=h3.2.2;have h6:torusC.length≤9 * 9:=Nat.le_trans h5 (Nat.mul_le_mul circle_len circle_len);have h7:c.id≤torusC.length:=h4;omega
  ·exact⟨h1,h2 oM⟩
 have hS:∀ ls,Rt (bigC (simpC ls))∧∀ c∈bigC (simpC ls),c.id≤90:=fun ls=>key _ (rt_simp ls).1 fun hl c hc=>by have:=(rt_simp ls).2 c hc; omega
 have hP:∀ a b,Rt (bigC (refProdC a b))∧∀ c∈bigC (refProdC a b),c.id≤90:=fun a b=>key _ (rt_prod a b).1 fun hl c hc=>by have:=(rt_prod a b).2.1 c hc; omega
 have h5:=modW_range y 5 dC dC;unfold baseM
 repeat' split
 ·exact hS _
 ·exact hP _ _
 ·have h6:=poly_check (2+modW y 5).toNat oM oM;have h7:=rt_of h6.1;rw[show canonC (polyC (2+modW y 5).toNat)=polyC (2+modW y 5).toNat from canonC_idem _] at h7;exact key _ h7 fun _=>h6.2
 ·exact hP _ _
 ·exact hS _
 ·exact hS _
theorem mix_inj:∀ k∈[1,3,5],∀ a,a<91→∀ b,b<91→mixC (a:Nat) k=mixC (b:Nat) k→a=b:=by decide +kernel
theorem mix_pos:∀ k∈[1,3,5],∀ a,a<91→0<a→0<mixC (a:Nat) k:=by decide +kernel
theorem made_right (kd:Int)(ls:List (List Int))(y:Int):Rt (madeC kd ls y):=by
 obtain ⟨h1,h2⟩:=rt_base (modW kd 8) ls y;have hk:renK y∈[(1:Int),3,5]:=by
  have:=modW_range (IntKind.i64.wrap (y.tdiv 7)) 3 dC dC;unfold renK;generalize modW (IntKind.i64.wrap (y.tdiv 7)) 3=q at *
  rcases (by omega:q=0∨q=1∨q=2) with rfl | rfl | rfl <;> decide
 refine ren_right h1 ⟨fun a ha b hb e=>?_,fun a ha=>?_⟩ _
 ·have p1:=h1.pos a ha;have p2:=h1.pos b hb;have q1:=h2 a ha;have q2:=h2 b hb;have e1:((a.id.toNat:Nat):Int)=a.id:=Int.toNat_of_nonneg oM;have e2:((b.id.toNat:Nat):Int)=b.id:=Int.toNat_of_nonneg oM;have:=mix_inj _ hk a.id.toNat oM b.id.toNat oM (by rw[e1,e2]; exact e);have hid:a.id=b.id:=oM;have f1:=h1.find ha;have f2:=h1.find hb;rw[hid,f2] at f1;injection f1 with f1
  exact f1.symm
 ·have p1:=h1.pos a ha;have q1:=h2 a ha;have e1:((a.id.toNat:Nat):Int)=a.id:=Int.toNat_of_nonneg oM;have:=mix_pos _ hk a.id.toNat oM oM;rw[e1] at this;exact this
def part (l:List Cl)(p:Int→Bool):List Cl:=l.filter fun c=>p c.id
theorem Rt.same {l:List Cl}(h:Rt l){a b:Cl}(ha:a∈l)(hb:b∈l)(e:a.id=b.id):a=b:=by
 have f1:=h.find ha;have f2:=h.find hb;rw[e,f2] at f1;injection f1 with f1
 exact f1.symm
def Ws (gc g:PH)(x:Sv):Prop:=∃ l,RK encSide 55 (mns g gc) (.slice x.p x.n x.c) l
def Wr (gc g:PH)(v:Value)(svs:List Sv):Prop:=∃ rs,RK encCell 53 (mns g gc) v rs∧rs.map Rc.sv=svs∧∀ x∈svs,Ws gc g x
theorem CellK.ws {gc g:PH}{c:Cl}{r:Rc}(h:CellK (mns g gc) c r):Ws gc g r.sv:=⟨_,h.2.2⟩
theorem rk_slen {α:Type}{k:Nat}{e:Enc α k}{T:TypeId}{g:PH}{p:Option Addr}{n c:Nat}{l:List α}(h:RK e T g (.slice p n c) l):n=l.length:=Sl.slen h.sl
theorem CellsK.wr {gc g:PH}{v:Value}{l:List Cl}(h:CellsK (mns g gc) v l)(hf:Fits l):∃ p n c svs,v = .slice p n c∧n=svs.length∧svs.length<1099511627776∧(∀ x∈svs,x.n<1099511627776)∧Wr gc g v svs:=by
 obtain ⟨rs,h1,h2⟩:=h;obtain ⟨p,c,rfl⟩:=h1.form;have hl:=h2.length;have key:∀ {l:List Cl} {rs:List Rc},All2 (CellK (mns g gc)) l rs→(∀ c∈l,c.sides.length<1099511627776)→∀ x∈rs.map Rc.sv,x.n<1099511627776∧Ws gc g x:=by
  intro l;induction l with
  | nil=>intro rs h _ x hx; cases rs with | nil=>cases hx | cons _ _=>exact h.elim
  | cons a t ih =>
   intro rs h hn x hx;cases rs with
   | nil=>cases hx
   | cons r rs =>
    rcases List.mem_cons.1 hx with rfl | hx
    ·exact⟨by have:=rk_slen h.1.2.2; rw[this]; exact hn a (by simp),h.1.ws⟩
    ·exact ih h.2 (fun c hc=>hn c (by simp[hc])) x hx
 have hk:=key h2 hf.2;exact⟨p,rs.length,c,rs.map Rc.sv,I,by simp,by rw[List.length_map,← hl]; exact hf.1,fun x hx=>(hk x hx).1,rs,h1,I,fun x hx=>(hk x hx).2⟩
def Keep (gc g g':PH):Prop:=Le gc g'∧(∀ x,Ws gc g x→Ws gc g' x)∧∀ v svs,Wr gc g v svs→Wr gc g' v svs
theorem Keep.refl {gc g:PH}(h:Le gc g):Keep gc g g:=⟨h,fun _ h=>h,fun _ _ h=>h⟩
theorem Keep.trans {gc g g' g'':PH}(h:Keep gc g g')(k:Keep gc g' g''):Keep gc g g'':=⟨k.1,fun x hx=>k.2.1 x (h.2.1 x hx),fun v svs hv=>k.2.2 v svs (h.2.2 v svs hv)⟩
theorem mns_upd {g gc:PH}{b:Nat}{o:Obj}(h:gc b=none):mns (upd g b o) gc=upd (mns g gc) b o:=by
 funext k;by_cases hk:k=b
 ·subst hk; simp[mns,upd,h]
 ·simp only[mns,upd,hk,if_false]
theorem le_write {gc g:PH}{b:Nat}{o:Obj}(hl:Le gc g)(h:gc b=none):Le gc (upd g b o):=fun k x hx=>by
 have:k≠b:=fun e=>by subst e; rw[h] at hx; cases hx
 simp only[upd,this,if_false];exact hl _ _ hx
theorem keep_side {gc g:PH}{b j:Nat}{cs:Array Value}(z:Side)(hl:Le gc g)(hb:gc b=none)(hg:g b=some (.cells cs 55 (0,0)))(hj:j * 2+2≤cs.size):Keep gc g (upd g b (.cells (spl cs (j * 2) (encSide.enc z)) 55 (0,0))):=by
 have hg':mns g gc b=some (.cells cs 55 (0,0)):=by rw[mns_none hb]; exact hg
 have hw:∀ x,Ws gc g x→Ws gc (upd g b (.cells (spl cs (j * 2) (encSide.enc z)) 55 (0,0))) x:=by
  rintro x ⟨l,h⟩;unfold Ws;rw[mns_upd hb]
  rcases h.same (o:=0) (vs:=encSide.enc z) (up:=fun _=>z) (fun y=>by simp[encSide]) (by simp[encSide]) hg' hj with h1 | ⟨_,h1⟩
  ·exact⟨_,h1⟩
  ·exact⟨_,h1⟩
 refine⟨le_write hl hb,hw,?_⟩;rintro v svs ⟨rs,h1,h2,h3⟩;refine⟨rs,?_,h2,fun x hx=>hw x (h3 x hx)⟩;rw[mns_upd hb];exact h1.other hg' dC
section
variable {N:Nat}{E:World}{f:Fr}{gc g:PH}{s:Own}{dst:Option Tmp}{ty:TypeId}{pos:String}{af:Array Edge}{gd:Option (Nat×Bool)}
theorem SO.wside {x y:Operand}{p:Option Addr}{n c j:Nat}(z:Side)(hx:ev f x=some (cptr (.slice p n c) (j * 2)))(hy:ev f y=some (.agg (encSide.enc z).toArray))(hl:Le gc g)(hw:Ws gc g ⟨p,n,c⟩)(hj:j<n) :
  SO Tryz.prog N E ⟨dst,.store 55 x y,ty,pos,af,gd⟩ f g s fun _ g' s'=>s=s'∧Keep gc g g':=by
 obtain ⟨l,h⟩:=hw;have hn:=rk_slen h;dsimp only at h hn
 rcases h with ⟨q,h1,h2⟩ | ⟨b,cap,cur,h1,h2,h3,h4,h5⟩
 ·subst h2; simp at hn; omega
 ·obtain ⟨hb,hg⟩:=mns_some h2;injection h1 with h6 h7 h8
  subst h6;simp only[cptr,Nat.zero_add] at hx;have hjs:j * 2+2≤cur.size:=by rw[h4]; omega
  intro a w ha hat Q next hn';refine SO.writeK (P:=Tryz.prog) (k:=2) zT55 hx hy hg I hjs (fun u hu=>encSide.one z u hu) a w ha hat Q next ?_;rintro v g' s' w' ⟨rfl,rfl⟩ hat';exact hn' _ _ _ _ ⟨I,keep_side z hl hb hg hjs⟩ hat'
end
set_option maxHeartbeats 1000000
def swp {α:Type}(l:List α)(i k:Nat)(hi:i<l.length)(hk:k<l.length):List α:=(l.set i l[k]).set k l[i]
theorem swp_perm {α:Type}(l:List α)(i k:Nat)(hi:i<l.length)(hk:k<l.length):(swp l i k hi hk).Perm l:=List.set_set_perm hi hk
theorem swp_length {α:Type}(l:List α)(i k:Nat)(hi:i<l.length)(hk:k<l.length):(swp l i k hi hk).length=l.length:=by simp[swp]
theorem All2.set {α β:Type}{R:α→β→Prop}{a:α}{b:β}(h:R a b):∀ {l:List α} {m:List β} (k:Nat),All2 R l m→All2 R (l.set k a) (m.set k b)
 | [],[],_,_=>trivial
 | _::_,_::_,0,h'=>⟨h,h'.2⟩
 | _::_,_::_,k+1,h'=>⟨h'.1,All2.set h k h'.2⟩
 | [],_::_,_,h'=>h'.elim
 | _::_,[],_,h'=>h'.elim
theorem all2_at {α β:Type}{R:α→β→Prop}{l:List α}{m:List β}(h:All2 R l m){i:Nat}(h1:i<l.length)(h2:i<m.length):R l[i] m[i] :=
 h.get (gE h1) (gE h2)
theorem ownS_swp {l:List Cl}{rs:List Rc}(h:l.length=rs.length)(i k:Nat)(hi:i<l.length)(hk:k<l.length):(ownS l rs).Perm (ownS (swp l i k hi hk) (swp rs i k (h ▸ hi) (h ▸ hk))):=by
 have h1:∀ j (hj:j<l.length),(ownS l rs)[j]'(by rw[ownS_length h]; exact hj)=ownC l[j] (rs[j]'(h ▸ hj)):=fun j hj=>by
  have:=ownS_get (gE hj) (gE (h ▸ hj:j<rs.length));rw[gE (by rw[ownS_length h]; exact hj)] at this;exact Option.some.inj this
 unfold swp;rw[← ownS_set _ _ (by simp[h]),← ownS_set _ _ h,← h1 i hi,← h1 k hk];exact (List.set_set_perm _ _).symm
def ShC (a b:Cl):Prop:=a.id=b.id∧a.dim=b.dim∧a.sides.Perm b.sides
def ShL (l m:List Cl):Prop:=∃ l1:List Cl,l1.Perm l∧All2 ShC l1 m
theorem ShL.fits {l m:List Cl}(h:ShL l m)(hf:Fits l):Fits m:=by
 obtain ⟨l1,h1,h2⟩:=h;refine⟨by rw[← h2.length,h1.length_eq]; exact hf.1,fun c hc=>?_⟩;have:∀ {l m:List Cl},All2 ShC l m→∀ c∈m,∃ d∈l,ShC d c:=by
  intro l;induction l with
  | nil=>intro m h c hc; cases m with | nil=>cases hc | cons _ _=>exact h.elim
  | cons x t ih =>
   intro m h c hc;cases m with
   | nil=>cases hc
   | cons y m =>
    rcases List.mem_cons.1 hc with rfl | hc
    ·exact⟨x,by simp,h.1⟩
    ·obtain ⟨d,hd,he⟩:=ih h.2 c hc;exact⟨d,by simp[hd],he⟩
 obtain ⟨d,hd,he⟩:=this h2 c hc;rw[← he.2.2.length_eq];exact hf.2 d (h1.mem_iff.1 hd)
theorem mod_some (E:World)(g:PH)(s:Own)(a:Int)(n:Nat)(h:n<1099511627776):Ctr Tryz.prog E 29 #[vi a,vi ((n:Int)+1)] g s (fun r g' s'=>∃ k:Nat,k≤n∧r=vi (k:Int)∧g=g'∧s=s'):=by
 obtain ⟨h1,h2⟩:=modW_nat a (n+1) oM oM;refine (mod_spec E g s a ((n:Int)+1) oM).mono ?_;rintro _ _ _ ⟨rfl,rfl,rfl⟩;exact⟨(modW a ((n+1:Nat):Int)).toNat,oM,by rw[← h1]; rfl,rfl,rfl⟩
theorem shuffled_spec (E:World)(g:PH)(s:Own)(v:Value)(l:List Cl)(y:Int)(hv:Cells g v l)(hf:Fits l) :
  Ctr Tryz.prog E 14 #[.agg #[v],vi y] g s (fun r g' s'=>s=s'∧Le g g'∧∃ u m,r = .agg #[u]∧Cells g' u m∧ShL l m):=by
 obtain ⟨p,c,rfl⟩:=hv.form;have hll:=hf.1;refine Ctr.of (args:=[.agg #[.slice p l.length c],vi y]) func14 I ntmps14 (bE I) ?_;refine rZ (bW (bO I) fun b2=>?_);refine bW (aL zeroValue29) fun b4=>?_;refine tZ (rZ (lK (qV 1 iT29 zT29 I I I) (lW (cL call15 I (copy_own E g _ _ l hv hf)) ?_)));rintro _ _ _ ⟨rfl,u,rs,rfl,hO,rfl⟩;have el:=hO.length;refine SL.facts fun ⟨w0,hw0⟩=>?_;obtain ⟨q,d,rfl⟩:=rowA_form (i:=0) hw0 rfl;have hbq:0<rs.length→based (.slice q rs.length d)=true:=fun h=>(by obtain ⟨b0,c0,he⟩:=rowA_based (i:=0) hw0 rfl h; rw[he]; rfl);clear hw0 w0;refine bW (aL zeroValue29) fun b5=>?_;refine oZ (sK 0 zT29 I I I I I sB) ?_;refine tZ ?_;refine SC.to (fun w hw=>hw) (g':=g) (s':=pt b5 (.cells #[.slice q rs.length d] 29 (0,0))::rowA encCell 53 (.slice q rs.length d) rs::(ownS l rs++(pt b4 (.cells #[.slice none 0 0] 29 (0,0))::pt b2 (.cells #[.slice p l.length c] 29 (0,0))::s))) ?_;generalize hR:(pt b4 (.cells #[.slice none 0 0] 29 (0,0))::pt b2 (.cells #[.slice p l.length c] 29 (0,0))::s)=R;refine SC.cut (ι:=List Cl×List Rc) (fun _=>[(1,vi y),(2,pp b2 0),(4,pp b4 0),(5,pp b5 0)]) (fun _=>g)
  (fun i=>pt b5 (.cells #[.slice q rs.length d] 29 (0,0))::rowA encCell 53 (.slice q rs.length d) i.2::(ownS i.1 i.2++R))
  (fun i=>i.1.Perm l∧All2 CellO i.1 i.2∧i.2.length=rs.length) ?_ ?_
 ·refine rZ (lU (fA uT29 I zT27 I) (lK (qL (v:=.slice q rs.length d) iT27 I (cO 0 I I)) (lU (eN uT27 I) (lU (sU I I oM) (aT I (bK ?_))))));refine oP (ι:=List Cl×List Rc×Int) (fun i=>[(1,vi y),(2,pp b2 0),(4,pp b4 0),(5,pp b5 0),(6,vi i.2.2)]) (fun _=>g)
   (fun i=>pt b5 (.cells #[.slice q rs.length d] 29 (0,0))::rowA encCell 53 (.slice q rs.length d) i.2.1::(ownS i.1 i.2.1++R))
   (fun i=>i.1.Perm l∧All2 CellO i.1 i.2.1∧i.2.1.length=rs.length∧(-1≤i.2.2∧i.2.2<rs.length)) (fun i=>(i.2.2+1).toNat) (l,rs,(rs.length:Int) - 1)
   sB rfl rfl ⟨.refl _,hO,rfl,by dsimp only; omega,by dsimp only; omega⟩ ?_
  rintro ⟨l1,rs1,j⟩ ⟨hp,hO1,hrl,hj0,hj1⟩;dsimp only at hp hO1 hrl hj0 hj1 ⊢;have hll1:=hO1.length;refine sQ (sW I (lU (gR I I) (tZ ?_)));refine iP I (fun hgt=>?_) (fun hgt=>?_)
  ·obtain ⟨jn,rfl⟩:∃ n:Nat,j=n:=⟨j.toNat,oM⟩;have hjl:jn<rs1.length:=oM;have hbs:=hbq oM;have hgj:rs1[((jn:Nat):Int).toNat]?=some rs1[jn]:=gE hjl;obtain ⟨⟨xi,xd,⟨xp,xn,xc⟩⟩,hx⟩:∃ x,x=rs1[jn]:=⟨_,rfl⟩;rw[← hx] at hgj;refine kP (tN (sQ (bK (sW I (lM I (lU (SU.mulW I I) (lU (SU.addW I I) (lM I (lU (aD I I oM) (lW (cL kT29 I (mod_some E g _ _ jn oM)) ?_))))))))));rintro _ _ _ ⟨kn,hkn,rfl,rfl,rfl⟩;have hkl:kn<rs1.length:=oM;have hgk:rs1[((kn:Nat):Int).toNat]?=some rs1[kn]:=gE hkl;refine aT I (rZ (lU (fA uT29 I zT27 I) (lK (qL (v:=.slice q rs.length d) iT27 I (cO 0 I I)) (lM I (lU (iA uT27 zT53 I I hbs oM sL) (lK (eA iT53 zT53 I (Rd.rowA 1 I) hgj) (bW (aL zeroValue53) fun b8=>?_)))))));refine oZ (sK 0 zT53 I I I I I sB) ?_;refine tZ (sQ ?_);refine dW [9] [(0,2),(1,1),(2,2),(3,2),(4,1),(5,2),(6,2),(7,1),(8,2),(9,0)] Tryz.mixed kR ?_;refine pU I (fA uT29 I zT27 I) (pK I (qL (v:=.slice q rs.length d) iT27 I (cO 1 I I)) (pU I (mV I) (pU I (fA uT29 I zT27 I) (pK I (qL (v:=.slice q rs.length d) iT27 I (cO 1 I I)) (pU I (mV I) (pU I (iA uT27 zT53 I I hbs oM sL) (pK I (eA iT53 zT53 I (Rd.rowA 2 I) hgk) (pU I (iA uT27 zT53 I I hbs oM sL) (SP.on I (sT (a:=rs1[kn]) 2 zT53 I I I hjl I) (.inl dC) ?_)))))))));rintro _ _ _ ⟨rfl,rfl⟩;refine pN (tN (rG (lU (fA uT29 I zT27 I) (lK (qL (v:=.slice q rs.length d) iT27 I (cO 1 I I)) (lM I (lK (qV 0 iT53 zT53 I I I) (lU (iA uT27 zT53 I I hbs oM sL) (oZ (sT (a:=(⟨xi,xd,⟨xp,xn,xc⟩⟩:Rc)) 2 zT53 I I I (by simp only[List.length_set]; exact hkl) I) ?_))))))));refine nL (bN (tN (rG (lM I (lU (sU I I oM) (lA I (nL ?_)))))));refine ST.to (fun w hw=>?_) (g':=g) (s':=pt b5 (.cells #[.slice q rs.length d] 29 (0,0))::rowA encCell 53 (.slice q rs.length d) (swp rs1 jn kn hjl hkl)::(ownS (swp l1 jn kn oM oM) (swp rs1 jn kn hjl hkl)++R)) ?_
   ·have h1:=hw.sublist (List.sublist_cons_self _ _);have h2:=h1.perm (.cons _ (.cons _ ((ownS_swp hll1 jn kn oM oM).append_right R)));have e:swp rs1 jn kn hjl hkl=(rs1.set jn rs1[kn]).set kn (⟨xi,xd,⟨xp,xn,xc⟩⟩:Rc):=by unfold swp; rw[hx]
    rw[show rowA encCell 53 (.slice q rs.length d) (swp rs1 jn kn hjl hkl)=rowA encCell 53 (.slice q rs.length d) ((rs1.set jn rs1[kn]).set kn (⟨xi,xd,⟨xp,xn,xc⟩⟩:Rc)) by rw[e]];exact h2
   exact gA (swp l1 jn kn oM oM,swp rs1 jn kn hjl hkl,(jn:Int) - 1) sB I I ⟨(swp_perm _ _ _ _ _).trans hp,All2.set (all2_at hO1 oM hjl) kn (All2.set (all2_at hO1 oM hkl) jn hO1),by rw[swp_length]; exact hrl,by dsimp only; omega,by dsimp only; omega⟩ (by dsimp only; omega)
  ·refine xI (tX (tX (bX ?_)));exact ST.mid (l1,rs1) sB I I ⟨hp,hO1,hrl⟩
 ·rintro ⟨l1,rs1⟩ ⟨hp,hO1,hrl⟩;dsimp only at hp hO1 hrl ⊢;have hll1:=hO1.length;have hfl:=fun x hx=>hf.2 x (hp.mem_iff.1 hx);refine sQ (rZ (aT I (bK ?_)));refine oP (ι:=PH×List Cl×List Cl×List Rc×List Cl×List Rc) (fun i=>[(1,vi y),(2,pp b2 0),(4,pp b4 0),(5,pp b5 0),(9,vi i.2.2.2.1.length)]) (fun i=>i.1)
   (fun i=>pt b5 (.cells #[.slice q rs.length d] 29 (0,0))::rowA encCell 53 (.slice q rs.length d) rs1::(ownS i.2.2.2.2.1 i.2.2.2.2.2++R))
   (fun i=>Le g i.1∧rs1=i.2.2.2.1++i.2.2.2.2.2∧l1=i.2.1++i.2.2.2.2.1∧All2 ShC i.2.1 i.2.2.1∧All2 (CellR i.1) i.2.2.1 i.2.2.2.1∧All2 CellO i.2.2.2.2.1 i.2.2.2.2.2) (fun i=>i.2.2.2.2.2.length) (g,[],[],[],l1,rs1)
   sB rfl rfl ⟨Le.refl g,rfl,rfl,trivial,trivial,hO1⟩ ?_
  rintro ⟨g1,D0,D,RD,L,RL⟩ ⟨hle,hrs,hls,hsh,hcr,hOL⟩;dsimp only at hle hrs hls hsh hcr hOL ⊢;have hlr:rs1.length=RD.length+RL.length:=by rw[hrs]; simp
  have hLl:=hOL.length;refine sQ (sW I (lU (fA uT29 I zT27 I) (lK (qL iT27 I (cO 0 I I)) (lU (eN uT27 I) (lU (lS I I) (tZ ?_))))));refine iP I (fun hlt=>?_) (fun hlt=>?_)
  ·cases RL with
   | nil=>simp at hlr; omega
   | cons x RL =>
   obtain ⟨cx,L',hLe,hcx,hOL'⟩:=hOL.cons_right;subst hLe;obtain ⟨xi,xd,⟨xp,xn,xc⟩⟩:=x;obtain ⟨e1,e2,e3⟩:=hcx;dsimp only at e1 e2 e3;subst e1 e2 e3;have hbs:=hbq (by simp at hlr; omega);have hgx:rs1[((RD.length:Nat):Int).toNat]?=some (⟨cx.id,cx.dim,⟨xp,cx.sides.length,xc⟩⟩:Rc):=by rw[hrs]; exact get_mid oM
   have hxl:cx.sides.length<1099511627776:=hfl cx (by rw[hls]; simp);simp only[List.length_cons] at hlr;refine cP (s':=rowA encSide 55 (.slice xp cx.sides.length xc) cx.sides::pt b5 (.cells #[.slice q rs.length d] 29 (0,0))::rowA encCell 53 (.slice q rs.length d) rs1::(ownS L' RL++R)) (List.perm_middle (l₁:=[_,_])) ?_;refine SC.facts fun ⟨w0,hw0⟩=>?_;have hbx:0<cx.sides.length→based (.slice xp cx.sides.length xc)=true:=fun h=>by obtain ⟨b0,c0,he⟩:=rowA_based (i:=0) hw0 rfl h; rw[he]; rfl
   clear hw0 w0;refine kP (tN (sQ (bK (rZ (lU (fA uT29 I zT27 I) (lK (qL (v:=.slice q rs.length d) iT27 I (cO 1 I I)) (lM I (lU (iA uT27 zT53 I I hbs oM sL) (lU (fC uT53 I zT32 I hbs) (lK (aZ (o:=2) (u:=.slice xp cx.sides.length xc) iT32 I (Rd.rowA 2 I) hgx I) (aT I (sW I (lU (eN uT32 I) (lU (sU I I oM) (aT I (bK ?_))))))))))))))));refine oP (ι:=List Side×Int) (fun i=>[(1,vi y),(2,pp b2 0),(4,pp b4 0),(5,pp b5 0),(9,vi RD.length),(10,.slice xp cx.sides.length xc),(11,vi i.2)]) (fun _=>g1)
    (fun i=>rowA encSide 55 (.slice xp cx.sides.length xc) i.1::pt b5 (.cells #[.slice q rs.length d] 29 (0,0))::rowA encCell 53 (.slice q rs.length d) rs1::(ownS L' RL++R))
    (fun i=>i.1.Perm cx.sides∧(-1≤i.2∧i.2<cx.sides.length)) (fun i=>(i.2+1).toNat) (cx.sides,(cx.sides.length:Int) - 1)
    sB rfl rfl ⟨.refl _,by dsimp only; omega,by dsimp only; omega⟩ ?_
   rintro ⟨ss,j⟩ ⟨hps,hj0,hj1⟩;dsimp only at hps hj0 hj1 ⊢;have hsl:=hps.length_eq;refine sQ (sW I (lU (gR I I) (tZ ?_)));refine iP I (fun hgt=>?_) (fun hgt=>?_)
   ·obtain ⟨jn,rfl⟩:∃ n:Nat,j=n:=⟨j.toNat,oM⟩;have hjl:jn<ss.length:=oM;have hbsx:=hbx oM;have hgj:ss[((jn:Nat):Int).toNat]?=some ss[jn]:=gE hjl;obtain ⟨⟨zc,zs⟩,hz⟩:∃ z,z=ss[jn]:=⟨_,rfl⟩;rw[← hz] at hgj;refine kP (tN (sQ (bK (sW I (lU (SU.quo I I dC) (lM I (lU (SU.mulW I I) (lU (SU.addW I I) (lM I (lU (aD I I oM) (lW (cL kT29 I (mod_some E g1 _ _ jn oM)) ?_)))))))))));rintro _ _ _ ⟨kn,hkn,rfl,rfl,rfl⟩;have hkl:kn<ss.length:=oM;have hgk:ss[((kn:Nat):Int).toNat]?=some ss[kn]:=gE hkl;refine aT I (sW I (lM I (lU (iA uT32 zT55 I I hbsx oM sL) (lK (eA iT55 zT55 I (Rd.rowA 0 I) hgj) (bW (aL zeroValue55) fun b13=>?_)))));refine oZ (sK 0 zT55 I I I I I sB) ?_;refine tZ (sW I (lM I (lM I (lM I (lU (iA uT32 zT55 I I hbsx oM sL) (lK (eA iT55 zT55 I (Rd.rowA 1 I) hgk) (lU (iA uT32 zT55 I I hbsx oM sL) (oZ (sT (a:=ss[kn]) 1 zT55 I I I hjl I) (tZ (rG (lM I (lM I (lK (qV 0 iT55 zT55 I I I) (lU (iA uT32 zT55 I I hbsx oM sL) (oZ (sT (a:=(⟨zc,zs⟩:Side)) 1 zT55 I I I (by simp only[List.length_set]; exact hkl) I) ?_)))))))))))))));refine nL (bN (tN (rG (lM I (lU (sU I I oM) (lA I (nL (dR (List.sublist_cons_self _ _) ?_))))))));have e:swp ss jn kn hjl hkl=(ss.set jn ss[kn]).set kn (⟨zc,zs⟩:Side):=by unfold swp; rw[hz]
    exact gA ((ss.set jn ss[kn]).set kn (⟨zc,zs⟩:Side),(jn:Int) - 1) sB I I ⟨by dsimp only; rw[← e]; exact (swp_perm _ _ _ _ _).trans hps,by dsimp only; omega,by dsimp only; omega⟩ (by dsimp only; omega)
   ·refine xI (tX (tX (bX (bN (tN (fS fun g2 hle2 hs2=>?_))))));refine rG (lM I (lU (aD I I oM) (lA I (nL ?_))));exact gA (g2,D0++[cx],D++[⟨cx.id,cx.dim,ss⟩],RD++[⟨cx.id,cx.dim,⟨xp,cx.sides.length,xc⟩⟩],L',RL) ⟨I,I,I,I,vi_eq lN,trivial⟩ I I
     ⟨hle.trans hle2,by rw[hrs]; simp,by rw[hls]; simp,hsh.append ⟨⟨rfl,rfl,hps.symm⟩,trivial⟩,(hcr.mono fun _ _=>CellR.mono hle2).append ⟨(show CellR g2 ⟨cx.id,cx.dim,ss⟩ ⟨cx.id,cx.dim,⟨xp,cx.sides.length,xc⟩⟩ from ⟨rfl,rfl,hs2⟩),trivial⟩,hOL'⟩ lN
  ·have hr0:RL=[]:=List.eq_nil_of_length_eq_zero oM;subst hr0;have hl0:L=[]:=List.eq_nil_of_length_eq_zero (by simpa using hLl);subst hl0;rw[List.append_nil] at hrs hls;subst hrs hls;subst hR;refine SC.to (fun w hw=>hw.perm (List.Perm.swap _ _ _)) (g':=g1) (s':=rowA encCell 53 (.slice q rs.length d) rs1::pt b5 (.cells #[.slice q rs.length d] 29 (0,0))::(pt b4 (.cells #[.slice none 0 0] 29 (0,0))::pt b2 (.cells #[.slice p l.length c] 29 (0,0))::s)) ?_;refine fS fun g2 hle2 hs2=>?_;refine xI (tX (tX (bX (tN (rZ (lK (qV 0 iT29 zT29 I I I) (oZ (sK 1 zT29 I I I I I sB) ?_)))))));refine tZ (rE ?_);exact ST.retCD 1 s (.inl I) results14 I iT29 zT29 I I uR ⟨I,hle.trans hle2,_,D,I,⟨rs1,hs2,hcr.mono fun _ _=>CellR.mono hle2⟩,⟨l1,hp,hsh⟩⟩
end Go.Proofs.YtackilpikhkijaaGreatDoor
