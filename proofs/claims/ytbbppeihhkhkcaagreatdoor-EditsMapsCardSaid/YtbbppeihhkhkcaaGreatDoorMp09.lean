/- 9 -/
import Derived.Test.YtbbppeihhkhkcaaGreatDoorMp08
import Derived.Test.YtbbppeihhkhkcaaGreatDoorMp07
import Derived.SizedLaws
import Derived.Test.YtbbppeihhkhkcaaGreatDoorMp05
import Derived.Test.YtbbppeihhkhkcaaGreatDoorMp04
import Derived.RangeFuncLeaves
import Derived.RangeFuncRecord
import Derived.RangeFuncSeq
import Derived.OrdersIn
import Derived.TacticsIn
set_option linter.unusedSimpArgs false
set_option linter.unusedVariables false
namespace Go.Proofs.YtbbppeihhkhkcaaGreatDoor
open _root_.Go.Proofs.Tryz _root_.Go.Proofs.YtbbppeihhkhkcaaGreatDoor.Tryz
open Go Go.Sy Go.Pl Go.Proofs
theorem ja (b:Nat)(a:Int)(l:List Int):e7 b (a::l)=(if b % 2=1 then [a] else [])++e7 (b / 2) l:=by
 unfold e7;have hz:∀ (l:List Int) (i:Nat),((l.zipIdx (i+1)).filter fun p=>b / 2 ^ p.2 % 2 == 1).map (·.1)=((l.zipIdx i).filter fun p=>b / 2 / 2 ^ p.2 % 2 == 1).map (·.1):=by
  intro l;induction l with
  | nil=>intro i; rfl
  | cons x r ih =>
   intro i;have hp:b / 2 ^ (i+1)=b / 2 / 2 ^ i:=by rw[Nat.pow_succ,Nat.mul_comm,Nat.div_div_eq_div_mul]
   simp only[List.zipIdx_cons,zi7,hp];have:=ih (i+1);split
   ·simp only[zg4,this]
   ·exact this
 simp only[List.zipIdx_cons,zi7,Nat.pow_zero,Nat.div_one];by_cases h:b % 2=1
 ·simp only[h,if_true,beq_self_eq_true,zg4];rw[hz l 0];rfl
 ·have h2:(b % 2 == 1)=false:=by simpa using h
  simp only[h,h2,if_false,Bool.false_eq_true];rw[hz l 0];rfl
theorem Cc (l:List Int):∀ b,(e7 b l).Sublist l:=by
 induction l with
 | nil=>intro b; exact .slnil
 | cons a r ih =>
  intro b;rw[ja];split
  ·exact (ih _).cons_cons a
  ·exact (ih _).cons a
theorem DG (l:List Int):∀ b,b≠0→b<2 ^ l.length→e7 b l≠[]:=by
 induction l with
 | nil=>intro b h0 h; simp at h; exact absurd h h0
 | cons a r ih =>
  intro b h0 h;rw[ja];split
  ·simp
  ·rename_i h1;rw[ze8,Nat.pow_succ] at h;simpa using ih (b / 2) oM oM
theorem wV {x l:List Int}(h:x.Sublist l):∃ b,b<2 ^ l.length∧e7 b l=x:=by
 induction h with
 | slnil=>exact⟨0,by simp,rfl⟩
 | cons a _ ih =>
  obtain ⟨b,hb,e⟩:=ih;refine⟨2 * b,by rw[ze8,Nat.pow_succ]; omega,?_⟩;rw[ja,zf9 oM,show 2 * b / 2=b by omega,e];rfl
 | cons_cons a _ ih =>
  obtain ⟨b,hb,e⟩:=ih;refine⟨2 * b+1,by rw[ze8,Nat.pow_succ]; omega,?_⟩;rw[ja,zg1 oM,show (2 * b+1) / 2=b by omega,e];rfl
theorem kB (t x:List Int):x∈bU t↔x.Sublist t∧x≠[]:=by
 unfold bU;constructor
 ·intro h;obtain ⟨i,hi,rfl⟩:=zf2.1 h;have:=List.mem_range.1 hi;exact⟨Cc _ _,DG _ _ oM oM⟩
 ·rintro ⟨h,hne⟩;obtain ⟨b,hb,rfl⟩:=wV h;have h0:b≠0:=fun e=>by
   subst e;apply hne;have:∀ l:List Int,e7 0 l=[]:=by
    intro l;induction l with
    | nil=>rfl
    | cons a r ih=>rw[ja]; simpa using ih
   exact this t
  exact zf2.2 ⟨b - 1,List.mem_range.2 oM,by rw[show b - 1+1=b by omega]⟩
structure iD (all:List (List Int)):Prop where
 strict:fe all
 form:∀ s∈all,s≠[]∧ek s∧s.length≤9
 faces:∀ s∈all,2≤s.length→∀ k,k<s.length→s.eraseIdx k∈all
theorem iD.nil:iD []:=⟨List.Pairwise.nil,by simp,by simp⟩
theorem iD.add {all:List (List Int)}{t:List Int}(h:iD all)(ht:ek t)(hl:t.length≤9):iD (eO all t):=by
 refine⟨ll all t,fun s hs=>?_,fun s hs h2 k hk=>?_⟩
 ·rcases (jC all t s).1 hs with h1 | h1
  ·exact h.form s h1
  ·obtain ⟨h2,h3⟩:=(kB t s).1 h1;exact⟨h3,ht.sublist h2,zk8 h2.length_le hl⟩
 ·refine (jC all t _).2 ?_
  rcases (jC all t s).1 hs with h1 | h1
  ·exact .inl (h.faces s h1 h2 k hk)
  ·refine .inr ((kB t _).2 ⟨(List.eraseIdx_sublist s k).trans ((kB t s).1 h1).1,fun e=>?_⟩);have:=ze2 List.length e;rw[List.length_eraseIdx] at this;simp[hk] at this;omega
theorem iw:∀ (ls acc:List (List Int)) {all:List (List Int)},be acc ls=some all→iD acc→acc.length≤4000→iD all∧all.length≤4000
 | [],acc,all,h,hg,hl=>by cases h; exact⟨hg,hl⟩
 | s::r,acc,all,h,hg,hl=>by
  unfold be at h;split at h
  ·exact iw r acc h hg hl
  ·rename_i hb;split at h
   ·cases h
   ·rename_i hlen;refine iw r _ h (hg.add (lz s) ?_) oM;cases hc:dA s with
    | nil=>simp
    | cons a q =>
     rw[hc] at hb;simp[jO] at hb;simp;omega
section
variable {all:List (List Int)}(hg:iD all)
include hg
theorem iD.get_lb {t:List Int}(ht:t∈all):all[lbL all t]?=some t:=by
 obtain ⟨h1,h2⟩:=pj t hg.strict.srt;have hs:fe (all.take (lbL all t)++all.drop (lbL all t)):=by rw[zj2]; exact hg.strict
 have hd:=(List.pairwise_append.1 hs).2.1;have hm:t∈all.drop (lbL all t):=by
  have:t∈all.take (lbL all t)++all.drop (lbL all t):=by rw[zj2]; exact ht
  rcases zf3.1 this with h | h
  ·have:=h1 t h;rw[cE] at this;exact absurd this dC
  ·exact h
 have e:all[lbL all t]?=(all.drop (lbL all t))[0]?:=by simp
 rw[e];cases hc:all.drop (lbL all t) with
 | nil=>rw[hc] at hm; simp at hm
 | cons y r =>
  rw[hc] at hm hd h2
  rcases zf1.1 hm with rfl | hm
  ·rfl
  ·exact absurd ((zk4.1 hd).1 t hm) (h2 y (by simp))
theorem iD.lb_get {k:Nat}(hk:k<all.length):lbL all all[k]=k:=by
 have h1:=hg.get_lb (gM hk);obtain ⟨h2,h3⟩:=zf5.1 h1;have hself:¬ ao all[k] all[k]<0:=by rw[cE]; decide
 rcases Nat.lt_trichotomy (lbL all all[k]) k with h | h | h
 ·have:=zc9.1 hg.strict _ _ h2 hk h;rw[h3] at this;exact absurd this hself
 ·exact h
 ·have:=zc9.1 hg.strict _ _ hk h2 h;rw[h3] at this;exact absurd this hself
end
def ixC (all:List (List Int))(t:List Int):Int:=((lbL all t:Nat):Int)+1
theorem iD.inj {all:List (List Int)}(hg:iD all){t u:List Int}(ht:t∈all)(hu:u∈all)(h:ixC all t=ixC all u):t=u:=by
 have h1:=hg.get_lb ht;have h2:=hg.get_lb hu;have:lbL all t=lbL all u:=by unfold ixC at h; omega
 rw[this,h2] at h1;injection h1 with h1
 exact h1.symm
theorem iD.lt {all:List (List Int)}(hg:iD all){t u:List Int}(ht:t∈all)(hu:u∈all)(h:ao t u<0):ixC all t<ixC all u:=by
 obtain ⟨i1,e1⟩:=zf5.1 (hg.get_lb ht);obtain ⟨i2,e2⟩:=zf5.1 (hg.get_lb hu);unfold ixC
 rcases Nat.lt_trichotomy (lbL all t) (lbL all u) with h1 | h1 | h1
 ·omega
 ·have:t=u:=hg.inj ht hu (by unfold ixC; omega);subst this;rw[cE] at h;exact absurd h dC
 ·have:=zc9.1 hg.strict _ _ i2 i1 h1;rw[e1,e2] at this;exact absurd h (iU this)
def fQ (all:List (List Int))(s:List Int):List Side:=if s.length≤1 then [] else (List.range s.length).reverse.map fun k:Nat=>⟨ixC all (s.eraseIdx k),dh k⟩
def jm (all:List (List Int))(s:List Int):Cl:=⟨ixC all s,(s.length:Int) - 1,fQ all s⟩
theorem yQ {s:List Int}(hs:ek s):∀ {i j:Nat},i<j→j<s.length→ao (s.eraseIdx j) (s.eraseIdx i)<0:=by
 induction s with
 | nil=>intro i j _ h; simp at h
 | cons a r ih =>
  intro i j hij hj;obtain ⟨h1,h2⟩:=zk4.1 hs;cases j with
  | zero=>omega
  | succ j =>
   simp only[ze8] at hj;cases i with
   | zero =>
    cases r with
    | nil=>simp at hj
    | cons b q =>
     have hab:=h1 b (by simp);have hl:((a::b::q).eraseIdx (j+1)).length=((a::b::q).eraseIdx 0).length:=by
      simp[List.length_eraseIdx] at hj ⊢;omega
     rw[gL hl];simp only[List.eraseIdx_cons_succ,List.eraseIdx_cons_zero,ik];have:jA a b = -1:=by unfold jA; rw[zg1 hab]
     simp[this]
   | succ i =>
    have h3:=ih h2 (i:=i) (j:=j) oM oM;have hl:(r.eraseIdx j).length=(r.eraseIdx i).length:=by
     rw[List.length_eraseIdx,List.length_eraseIdx,zg1 oM,zg1 oM]
    have hl2:((a::r).eraseIdx (j+1)).length=((a::r).eraseIdx (i+1)).length:=by simp[hl]
    rw[gL hl] at h3;rw[gL hl2];simp only[List.eraseIdx_cons_succ,ik];have:jA a a=0:=by unfold jA; rw[zf9 oM,zf9 oM]
    simpa [this] using h3
theorem oD {A:List Cl}(h:(A.map Cl.id).Nodup){x:Cl}(hx:x∈A):am A x.id=some x:=by
 induction A with
 | nil=>simp at hx
 | cons c t ih =>
  simp only[zg4,zk3] at h;unfold am
  rcases zf1.1 hx with rfl | hx
  ·simp
  ·have hne:¬ c.id=x.id:=fun e=>h.1 (by rw[e]; exact zf2.2 ⟨x,hx,I⟩);rw[zi6];simp only[hne,decide_false];exact ih h.2 hx
theorem zT (c:Cl):bP (bP c)=bP c:=by
 unfold bP;rw[← cB (ck c.sides) (aA.refl _)]
theorem fL (l:List Cl):aa (aa l)=aa l:=by
 have h1:sortBy Cl.id (aa l)=aa l:=(cB (gO l) (aA.refl _)).symm;show (sortBy Cl.id (aa l)).map bP=aa l;rw[h1];unfold aa;rw[zi5];exact zc8 fun c _=>zT c
theorem Dr {α:Type}{key:α→Int}{l:List α}(h:l.Pairwise fun a b=>key b<key a):sortBy key l=l.reverse:=by
 refine (cB ?_ ⟨by simp,fun c=>?_⟩).symm
 ·unfold Srt;rw[List.pairwise_reverse];exact h.imp fun h=>by omega
 ·rw[List.filter_reverse];have:∀ m:List α,m.Pairwise (fun a b=>key b<key a)→(∀ a∈m,(key a == c)=true)→m.reverse=m:=by
   intro m hm hc
   match m,hm,hc with
   | [],_,_=>rfl
   | [_],_,_=>rfl
   | a::b::r,hm,hc =>
    have h1:=(zk4.1 hm).1 b (by simp);have h2:=hc a (by simp);have h3:=hc b (by simp);simp at h2 h3;omega
  exact this _ (h.sublist List.filter_sublist) fun a ha=>(zh4.1 ha).2
section
variable {all:List (List Int)}(hg:iD all)
include hg
theorem iD.face {s:List Int}(hs:s∈all){k:Nat}(hk:k<s.length)(h2:2≤s.length):s.eraseIdx k∈all∧(s.eraseIdx k).length=s.length - 1 :=
 ⟨hg.faces s hs h2 k hk,by rw[List.length_eraseIdx,zg1 hk]⟩
theorem iD.sides {s:List Int}(hs:s∈all):sortBy Side.cell (a8 all s s.length)=fQ all s:=by
 have hne:=(hg.form s hs).1;have hst:=(hg.form s hs).2.1;by_cases h1:s.length≤1
 ·have h0:s.length=1:=by have:=List.length_pos_iff.2 hne; omega
  unfold fQ;rw[zg1 h1,h0];have:fN all s 0=[]:=by
   unfold fN;have h3:(s.eraseIdx 0).length=0:=by rw[List.length_eraseIdx,zg1 oM]; omega
   rw[zf9 oM]
  simp[a8,List.range_succ,this,sortBy]
 ·have h2:2≤s.length:=oM;have e:a8 all s s.length=(List.range s.length).map fun k:Nat=>(⟨ixC all (s.eraseIdx k),dh k⟩:Side):=by
   unfold a8;rw[List.flatMap_def];have:(List.range s.length).map (fN all s)=(List.range s.length).map fun k:Nat=>[(⟨ixC all (s.eraseIdx k),dh k⟩:Side)]:=zc8 fun k hk=>by
    have hk:=List.mem_range.1 hk;unfold fN;rw[(hg.face hs hk h2).2,zg1 oM];rfl
   rw[this];generalize List.range s.length=R;induction R with
   | nil=>rfl
   | cons x r ih=>simp only[zg4,List.flatten_cons,ih]; rfl
  unfold fQ;rw[zf9 h1,e,List.map_reverse];refine Dr ?_;rw[zk5];refine List.Pairwise.imp_of_mem ?_ (List.pairwise_lt_range (n:=s.length));intro i j hi hj hij;have hi:=List.mem_range.1 hi;have hj:=List.mem_range.1 hj;exact hg.lt (hg.face hs hj h2).1 (hg.face hs hi h2).1 (yQ hst hij hj)
theorem iD.cells:aa (br all)=all.map (jm all):=by
 rw[r5];apply List.ext_getElem?;intro k;simp only[zh9];by_cases hk:k<all.length
 ·rw[jF hk,gE hk];simp only[Option.map_some,zg7];unfold bP ol jm;simp only[hg.sides (gM hk),ixC,hg.lb_get hk]
 ·rw[List.getElem?_eq_none (by rw[bT]; omega),List.getElem?_eq_none oM];rfl
theorem iD.ids:((all.map (jm all)).map Cl.id).Pairwise (· < ·):=by
 rw[zi5,zk5];refine List.Pairwise.imp_of_mem ?_ hg.strict;intro a b ha hb h;exact hg.lt ha hb h
theorem iD.find {s:List Int}(hs:s∈all):am (all.map (jm all)) (ixC all s)=some (jm all s) :=
 oD (x:=jm all s) (hg.ids.imp fun h=>by omega) (zf2.2 ⟨s,hs,rfl⟩)
end
theorem BT (k:Nat):dh k=1∨dh k = -1:=by unfold dh; omega
theorem rV {all:List (List Int)}{s:List Int}(h:2≤s.length){i:Nat}(hi:i<s.length):(fQ all s)[i]?=some ⟨ixC all (s.eraseIdx (s.length - 1 - i)),dh ((s.length - 1 - i:Nat):Int)⟩:=by
 unfold fQ;rw[zf9 oM,zh9,List.getElem?_reverse (by simpa using hi)];simp only[zi4];rw[List.getElem?_range oM];rfl
theorem tG {all:List (List Int)}{s:List Int}:(fQ all s).length=if s.length≤1 then 0 else s.length:=by
 unfold fQ;split <;> simp
section
variable {all:List (List Int)}(hg:iD all)
include hg
theorem iD.formOk {s:List Int}(hs:s∈all):cq (all.map (jm all)) (jm all s)=0:=by
 obtain ⟨hne,hst,h9⟩:=hg.form s hs;have hp:=List.length_pos_iff.2 hne;have hlen:(jm all s).sides.length=if s.length≤1 then 0 else s.length:=tG
 have hdim:(jm all s).dim=(s.length:Int) - 1:=rfl;have h1:eZ (jm all s)=false:=by unfold eZ; rw[hdim]; simp; omega
 have h2:aR (jm all s)=false:=by
  unfold aR;rw[hdim,hlen];split
  ·simp; omega
  ·simp; omega
 have h3:(List.range (jm all s).sides.length).any (fF (all.map (jm all)) (jm all s))=false:=by
  rw[zk6];intro i hi;have hi:=List.mem_range.1 hi;rw[hlen] at hi;split at hi
  ·omega
  ·rename_i hl;have h2:2≤s.length:=oM;have hgi:=rV (all:=all) h2 hi;have hf:=hg.face hs (k:=s.length - 1 - i) oM h2;unfold fF;rw[show (jm all s).sides[i]?=_ from hgi];show ¬ bV _ _ i ⟨ixC all (s.eraseIdx (s.length - 1 - i)),_⟩=true;unfold bV;dsimp only;rw[hg.find hf.1];have hd:(jm all (s.eraseIdx (s.length - 1 - i))).dim=(jm all s).dim - 1:=by
    show ((s.eraseIdx (s.length - 1 - i)).length:Int) - 1=(s.length:Int) - 1 - 1;rw[hf.2];omega
   simp only[Option.isSome_some,Bool.not_true,Bool.false_or,Option.getD_some,hd,ne_eq,not_true_eq_false,decide_false];by_cases hi0:i>0
   ·have hgp:=rV (all:=all) h2 (i:=i - 1) oM;rw[show (jm all s).sides[i - 1]?=_ from hgp];have hf2:=hg.face hs (k:=s.length - 1 - (i - 1)) oM h2;have:=hg.lt hf2.1 hf.1 (yQ hst oM oM);simp;omega
   ·simp[hi0]
 have h4:(jm all s).sides.any bM=false:=by
  rw[zk6];intro x hx;show ¬ bM x=true;have hx:x∈fQ all s:=hx;unfold fQ at hx;split at hx
  ·simp at hx
  ·obtain ⟨k,_,rfl⟩:=zf2.1 hx
   rcases BT k with h | h <;> simp[bM,h]
 have h5:(decide ((jm all s).dim=1)&&decide (mf (jm all s).sides≠0))=false:=by
  by_cases hd:(jm all s).dim=1
  ·rw[hdim] at hd;have hl2:s.length=2:=oM;have:mf (jm all s).sides=0:=by
    show mf (fQ all s)=0;unfold fQ;rw[zf9 oM,hl2];simp[List.range_succ,mf,dh]
   rw[this];simp
  ·simp[hd]
 unfold cq;rw[h1,h2,h3,h4,h5];rfl
end
theorem Aj (s:List Int):∀ {k q:Nat},k≤q→(s.eraseIdx k).eraseIdx q=(s.eraseIdx (q+1)).eraseIdx k:=by
 induction s with
 | nil=>intro k q _; rfl
 | cons a r ih =>
  intro k q h;cases k with
  | zero=>simp
  | succ k =>
   cases q with
   | zero=>omega
   | succ q =>
    simp only[List.eraseIdx_cons_succ];rw[ih oM]
theorem rN {s:List Int}(hs:s.Nodup){a b i:Nat}(hab:a<b)(hb:b<s.length)(hi:i<s.length):s[i]∈(s.eraseIdx b).eraseIdx a↔i≠a∧i≠b:=by
 have hinj:∀ {j k:Nat} (hj:j<s.length) (hk:k<s.length),s[j]=s[k]→j=k:=fun {j k} hj hk e=>by
  rcases Nat.lt_trichotomy j k with h | h | h
  ·exact absurd e (zc9.1 hs j k hj hk h)
  ·exact h
  ·exact absurd e.symm (zc9.1 hs k j hk hj h)
 rw[List.mem_eraseIdx_iff_getElem];constructor
 ·rintro ⟨j,hj1,hj2,e⟩;have hj1':=hj1;rw[List.length_eraseIdx,zg1 hb] at hj1';rw[List.getElem_eraseIdx] at e;split at e
  ·have:=hinj _ _ e;omega
  ·have:=hinj _ _ e;omega
 ·rintro ⟨h1,h2⟩
  rcases Nat.lt_or_ge i b with h | h
  ·refine⟨i,by rw[List.length_eraseIdx,zg1 hb]; omega,h1,?_⟩;rw[List.getElem_eraseIdx,dif_pos h]
  ·refine⟨i - 1,by rw[List.length_eraseIdx,zg1 hb]; omega,oM,?_⟩;rw[List.getElem_eraseIdx,dif_neg oM];congr 1;omega
theorem Ak {s:List Int}(hs:s.Nodup){a b c d:Nat}(hab:a<b)(hb:b<s.length)(hcd:c<d)(hd:d<s.length)(h:(s.eraseIdx b).eraseIdx a=(s.eraseIdx d).eraseIdx c):a=c∧b=d:=by
 have key:∀ i,i<s.length→((i≠a∧i≠b)↔(i≠c∧i≠d)):=fun i hi=>by
  rw[← rN hs hab hb hi,← rN hs hcd hd hi,h]
 have ha:=key a oM;have hb':=key b hb;have hc:=key c oM;have hd':=key d hd;omega
def GO (all:List (List Int))(s:List Int)(c:Int):Int:=ixC all ((s.eraseIdx (c % 16).toNat).eraseIdx (c / 16).toNat)
theorem Bl {n k q:Nat}(hk:k<n)(hq:q<n - 1):∃ a b:Nat,a<b∧b<n∧code k q=((a * 16+b:Nat):Int)∧((q<k∧a=q∧b=k)∨(k≤q∧a=k∧b=q+1)):=by
 unfold code;by_cases h:q<k
 ·rw[zg1 h]; exact⟨q,k,h,hk,I,.inl ⟨h,I,I⟩⟩
 ·rw[zf9 h]; exact⟨k,q+1,oM,oM,I,.inr ⟨oM,I,I⟩⟩
theorem j9 {a b:Nat}(h:b<16):((((a * 16+b:Nat):Int) % 16).toNat=b)∧((((a * 16+b:Nat):Int) / 16).toNat=a):=oM
section
variable {all:List (List Int)}(hg:iD all)
include hg
theorem iD.aroundOk {s:List Int}(hs:s∈all)(h3:2<s.length):dp (all.map (jm all)) (jm all s)=0:=by
 obtain ⟨hne,hst,h9⟩:=hg.form s hs;have hnd:s.Nodup:=hst.imp fun h=>by omega
 have hE:∀ a b,a<b→b<s.length→(s.eraseIdx b).eraseIdx a∈all:=fun a b hab hb=>by
  have h1:=hg.face hs (k:=b) hb oM;exact (hg.face h1.1 (k:=a) (by rw[h1.2]; omega) (by rw[h1.2]; omega)).1
 have hlook:qK (all.map (jm all)) (jm all s)=xN (GO all s) (Gf s.length):=by
  unfold qK xN Gf;show (fQ all s).map _=_;unfold fQ;rw[zf9 oM,zi5,zi5];refine zc8 fun k hk=>?_;have hk:k<s.length:=by simpa using hk
  have hf:=hg.face hs hk oM;simp only[Function.comp_def];congr 1;unfold aM;rw[hg.find hf.1];show fQ all (s.eraseIdx k)=_;unfold fQ;rw[hf.2,zf9 oM,zi5];refine zc8 fun q hq=>?_;have hq:q<s.length - 1:=by simpa using hq
  obtain ⟨a,b,hab,hb,hc,hcase⟩:=Bl hk hq;simp only[Function.comp_def,Dc];congr 1;unfold GO;rw[hc,(j9 (a:=a) (b:=b) oM).1,(j9 (a:=a) (b:=b) oM).2]
  rcases hcase with ⟨_,rfl,rfl⟩ | ⟨h,rfl,rfl⟩
  ·rfl
  ·rw[Aj s h]
 rw[CY,hlook,xG,FD _ oM h3];have hkey:∀ x∈AI (Gf s.length),∃ a b:Nat,a<b∧b<s.length∧x=((a * 16+b:Nat):Int):=by
  intro x hx;obtain ⟨p,hp,hx⟩:=List.mem_flatMap.1 hx;obtain ⟨k,hk,rfl⟩:=zf2.1 hp;obtain ⟨r,hr,rfl⟩:=zf2.1 hx;obtain ⟨q,hq,rfl⟩:=zf2.1 hr;obtain ⟨a,b,hab,hb,hc,_⟩:=Bl (n:=s.length) (k:=k) (q:=q) (by simpa using hk) (by simpa using hq);exact⟨a,b,hab,hb,hc⟩
 intro x hx y hy h;obtain ⟨a,b,hab,hb,rfl⟩:=hkey x hx;obtain ⟨c,d,hcd,hd,rfl⟩:=hkey y hy;unfold GO at h;rw[(j9 (a:=a) (b:=b) oM).1,(j9 (a:=a) (b:=b) oM).2,(j9 (a:=c) (b:=d) oM).1,(j9 (a:=c) (b:=d) oM).2] at h;obtain ⟨rfl,rfl⟩:=Ak hnd hab hb hcd hd (hg.inj (hE a b hab hb) (hE c d hcd hd) h);rfl
end
theorem uQ {tl:List Cl}:∀ {l:List Cl} {n:Int},(∀ x∈l,n<x.id)→l.Pairwise (fun a b=>a.id<b.id)→(∀ x∈l,cq tl x=0)→fY tl l n=none
 | [],_,_,_,_=>rfl
 | x::r,n,h1,h2,h3=>by
  have hx:=h1 x (by simp);obtain ⟨h4,h5⟩:=zk4.1 h2;unfold fY;rw[zf9 oM,zf9 (by rw[h3 x (by simp)]; simp)];exact uQ h4 h5 fun y hy=>h3 y (by simp[hy])
theorem uO {tl:List Cl}:∀ {l:List Cl},(∀ x∈l,x.dim>1→dp tl x=0)→oS tl l=none
 | [],_=>rfl
 | x::r,h=>by
  unfold oS;rw[zf9 fun ⟨h1,h2⟩=>h2 (h x (by simp) h1)];exact uO fun y hy=>h y (by simp[hy])
theorem yT {l:List Cl}(h0:l.length≤4000)(h1:∀ x∈aa l,0<x.id)(h2:(aa l).Pairwise fun a b=>a.id<b.id)(h3:∀ x∈aa l,cq (aa l) x=0)(h4:∀ x∈aa l,x.dim>1→dp (aa l) x=0):aG l=(0,0):=by
 unfold aG;rw[zf9 oM,bG h2,uQ h1 h2 h3,uO h4];rfl
theorem wH (ls:List (List Int)):aG (dg ls)=(0,0):=by
 unfold dg;cases h:be [] ls with
 | none=>rfl
 | some all =>
  obtain ⟨hg,hl⟩:=iw ls [] h iD.nil (by simp);dsimp only;have hc:aa (aa (br all))=all.map (jm all):=by rw[fL,hg.cells]
  have hi:=hg.ids;rw[zk5] at hi;refine yT (by rw[hg.cells]; simpa using hl) ?_ ?_ ?_ ?_ <;> rw[hc]
  ·intro x hx;obtain ⟨s,_,rfl⟩:=zf2.1 hx;show 0<ixC all s;unfold ixC;omega
  ·exact hi
  ·intro x hx;obtain ⟨s,hs,rfl⟩:=zf2.1 hx;exact hg.formOk hs
  ·intro x hx hd;obtain ⟨s,hs,rfl⟩:=zf2.1 hx;refine hg.aroundOk hs ?_;have:(s.length:Int) - 1>1:=hd;omega
open Go.ChangeShapes Go.WideShapes Go.ChangeAt Go.RowKit
set_option maxRecDepth 100000
section
variable {H:Type}{enc:TypeId×Value→H}{W:World}{base:Nat}{spare:Nat→Bool}{hd:Bool}
end
inductive Cn (E:Int→Int→Prop):Int→Int→Prop
 | refl (a:Int):Cn E a a
 | step {a b c:Int} (h:E a b∨E b a) (r:Cn E b c):Cn E a c
theorem Cn.trans {E:Int→Int→Prop}{a b c:Int}(h:Cn E a b)(k:Cn E b c):Cn E a c:=by
 induction h with
 | refl _=>exact k
 | step h _ ih=>exact .step h (ih k)
theorem Cn.one {E:Int→Int→Prop}{a b:Int}(h:E a b):Cn E a b:=.step (.inl h) (.refl b)
theorem Cn.symm {E:Int→Int→Prop}{a b:Int}(h:Cn E a b):Cn E b a:=by
 induction h with
 | refl _=>exact .refl _
 | step h _ ih=>exact ih.trans (.step h.symm (.refl _))
theorem Cn.mono {E E':Int→Int→Prop}(h:∀ a b,E a b→Cn E' a b){a b:Int}(hc:Cn E a b):Cn E' a b:=by
 induction hc with
 | refl _=>exact .refl _
 | step e _ ih =>
  rcases e with e | e
  ·exact (h _ _ e).trans ih
  ·exact (h _ _ e).symm.trans ih
theorem Cn.iso {E:Int→Int→Prop}{a b:Int}(h:∀ b,¬ E a b∧¬ E b a)(hc:Cn E a b):a=b:=by
 cases hc with
 | refl _=>rfl
 | step e _ =>
  rcases e with e | e
  ·exact absurd e (h _).1
  ·exact absurd e (h _).2
theorem Cn.add {E E':Int→Int→Prop}{x y:Int}(h:∀ a b,E' a b↔E a b∨(a=x∧b=y))(a b:Int):Cn E' a b↔Cn E a b∨(Cn E a x∧Cn E y b)∨(Cn E a y∧Cn E x b):=by
 have hxy:Cn E' x y:=.one ((h x y).2 (.inr ⟨rfl,rfl⟩));have hm:∀ {a b:Int},Cn E a b→Cn E' a b:=fun hc=>hc.mono fun a b e=>.one ((h a b).2 (.inl e));constructor
 ·intro hc;induction hc with
  | refl _=>exact .inl (.refl _)
  | step e _ ih =>
   have key:∀ {p q r:Int},Cn E p q→(Cn E q r∨(Cn E q x∧Cn E y r)∨(Cn E q y∧Cn E x r))→Cn E p r∨(Cn E p x∧Cn E y r)∨(Cn E p y∧Cn E x r):=by
    rintro p q r h1 (h2 | ⟨h2,h3⟩ | ⟨h2,h3⟩)
    ·exact .inl (h1.trans h2)
    ·exact .inr (.inl ⟨h1.trans h2,h3⟩)
    ·exact .inr (.inr ⟨h1.trans h2,h3⟩)
   rcases e with e | e
   ·rcases (h _ _).1 e with e | ⟨rfl,rfl⟩
    ·exact key (.one e) ih
    ·rcases ih with h2 | ⟨_,h3⟩ | ⟨_,h3⟩
     ·exact .inr (.inl ⟨.refl _,h2⟩)
     ·exact .inr (.inl ⟨.refl _,h3⟩)
     ·exact .inl h3
   ·rcases (h _ _).1 e with e | ⟨rfl,rfl⟩
    ·exact key (Cn.one e).symm ih
    ·rcases ih with h2 | ⟨_,h3⟩ | ⟨_,h3⟩
     ·exact .inr (.inr ⟨.refl _,h2⟩)
     ·exact .inl h3
     ·exact .inr (.inr ⟨.refl _,h3⟩)
 ·rintro (h1 | ⟨h1,h2⟩ | ⟨h1,h2⟩)
  ·exact hm h1
  ·exact (hm h1).trans (hxy.trans (hm h2))
  ·exact (hm h1).trans (hxy.symm.trans (hm h2))
def eK (ml:List (Int×List Int))(a b:Int):Prop:=∃ p∈ml,p.2.head?=some a∧b∈p.2
def RZ (e:En)(z:Int×Int):Prop:=e.id=z.1∧e.sum=z.2
def RM (e:En)(p:Int×List Int):Prop:=e.id=p.1∧e.many=p.2.length∧p.2.head?=some (e.fst:Int)
theorem s7 {x:Int}(h : -9223372036854775808≤x∧x<9223372036854775808):wr x=x:=zk9 _ oM
theorem ES {i:Nat}{c p:Int}:∀ {es:List En} {zl:List (Int×Int)},aF RZ es zl→(∀ e∈es,wr (e.sum+p)=e.sum+p)→wr (0+p)=p→aF RZ (lJ i c p es) (em zl c p)
 | [],[],_,_,hp=>⟨⟨rfl,hp⟩,trivial⟩
 | e::es,(a,z)::zl,h,hb,hp=>by
  obtain ⟨⟨h1,h2⟩,h3⟩:=h;have h1:e.id=a:=h1;have h2:e.sum=z:=h2;simp only[lJ,em];by_cases hc:e.id=c
  ·rw[zg1 hc,zg1 (by rw[← h1,hc])];exact⟨⟨h1,by show wr (e.sum+p)=z+p; rw[hb e (by simp),h2]⟩,h3⟩
  ·rw[zf9 hc,zf9 (by rw[← h1]; exact fun e=>hc e.symm)];exact⟨⟨h1,h2⟩,ES h3 (fun x hx=>hb x (by simp[hx])) hp⟩
 | [],_::_,h,_,_=>h.elim
 | _::_,[],h,_,_=>h.elim
theorem ET {i:Nat}{c p:Int}:∀ {es:List En} {ml:List (Int×List Int)},aF RM es ml→(∀ e∈es,wr (e.many+1)=e.many+1)→aF RM (lJ i c p es) (gC ml c i) ∧
  ∀ a b,eK (gC ml c i) a b↔eK ml a b∨(a=j7 i c es∧b=i)
 | [],[],_,_=>by
  refine⟨⟨⟨rfl,by rfl,rfl⟩,trivial⟩,fun a b=>?_⟩;constructor
  ·rintro ⟨q,hq,h1,h2⟩;simp[gC] at hq;subst hq;simp at h1 h2;exact .inr ⟨h1.symm,h2⟩
  ·rintro (⟨q,hq,_⟩ | ⟨rfl,rfl⟩)
   ·simp at hq
   ·exact⟨(c,[(i:Int)]),by simp[gC],I,by simp⟩
 | e::es,(k,l)::ml,h,hb=>by
  obtain ⟨⟨h1,h2,h4⟩,h3⟩:=h;have h1:e.id=k:=h1;have h2:e.many=l.length:=h2;have h4:l.head?=some (e.fst:Int):=h4;simp only[lJ,gC,j7];by_cases hc:e.id=c
  ·rw[zg1 hc,zg1 (by rw[← h1,hc]),zg1 hc];have hh:(l++[(i:Int)]).head?=some (e.fst:Int):=by
    cases l with
    | nil=>simp at h4
    | cons x r=>simpa using h4
   refine⟨⟨⟨h1,by show wr (e.many+1)=_; rw[hb e (by simp),h2]; simp,hh⟩,h3⟩,fun a b=>?_⟩;constructor
   ·rintro ⟨q,hq,h5,h6⟩
    rcases zf1.1 hq with rfl | hq
    ·dsimp only at h5 h6;rw[hh] at h5
     rcases zf3.1 h6 with h6 | h6
     ·exact .inl ⟨(k,l),by simp,by rw[h4,h5],h6⟩
     ·simp at h6;injection h5 with h5
      exact .inr ⟨h5.symm,h6⟩
    ·exact .inl ⟨q,by simp[hq],h5,h6⟩
   ·rintro (⟨q,hq,h5,h6⟩ | ⟨rfl,rfl⟩)
    ·rcases zf1.1 hq with rfl | hq
     ·exact⟨(k,l++[(i:Int)]),by simp,by rw[hh,← h4,h5],by simp[h6]⟩
     ·exact⟨q,by simp[hq],h5,h6⟩
    ·exact⟨(k,l++[(i:Int)]),by simp,hh,by simp⟩
  ·rw[zf9 hc,zf9 (by rw[← h1]; exact fun e=>hc e.symm),zf9 hc];obtain ⟨i1,i2⟩:=ET (i:=i) (c:=c) (p:=p) h3 fun x hx=>hb x (by simp[hx]);refine⟨⟨⟨h1,h2,h4⟩,i1⟩,fun a b=>?_⟩;have e1:∀ L,eK ((k,l)::L) a b↔(l.head?=some a∧b∈l)∨eK L a b:=fun L=>by
    unfold eK;simp
   rw[e1,e1,i2,or_assoc]
 | [],_::_,h,_=>h.elim
 | _::_,[],h,_=>h.elim
structure Sd (n t k:Nat)(es:List En)(part:List Int)(zl:List (Int×Int))(ml:List (Int×List Int)):Prop where
 z:aF RZ es zl
 m:aF RM es ml
 bz:∀ e∈es,-(t:Int)≤e.sum∧e.sum≤t∧0≤e.many∧e.many≤t
 bf:∀ e∈es,e.fst<k
 bm:∀ p∈ml,∀ x∈p.2,0≤x∧x<k
 len:part.length=n
 bp:∀ a,a<k→0≤part.getD a 0∧part.getD a 0<k
 cn:∀ a b:Nat,a<k→b<k→(part.getD a 0=part.getD b 0↔Cn (eK ml) a b)
theorem iX {ml:List (Int×List Int)}{k:Nat}(h:∀ p∈ml,∀ x∈p.2,0≤x∧x<(k:Int)){a b:Int}(hl:eK ml a b):(0≤a∧a<k)∧(0≤b∧b<k):=by
 obtain ⟨p,hp,h1,h2⟩:=hl;exact⟨h p hp a (List.mem_of_head? h1),h p hp b h2⟩
theorem Sd.open {n t k:Nat}{es:List En}{part:List Int}{zl:List (Int×Int)}{ml:List (Int×List Int)}(h:Sd n t k es part zl ml)(hk:k<n):Sd n t (k+1) es (part.set k k) zl ml:=by
 have hl:=h.len;have g1:(part.set k (k:Int)).getD k 0=k:=by rw[zh1,List.getElem?_set]; simp[hl,hk]
 have g2:∀ a,a≠k→(part.set k (k:Int)).getD a 0=part.getD a 0:=fun a ha=>by
  rw[zh1,zh1,List.getElem?_set,zf9 fun e=>ha e.symm]
 have iso:∀ b,¬ eK ml k b∧¬ eK ml b k:=fun b=>⟨fun e=>by have:=iX h.bm e; omega,fun e=>by have:=iX h.bm e; omega⟩;refine⟨h.z,h.m,h.bz,fun e he=>by have:=h.bf e he; omega,fun p hp x hx=>by have:=h.bm p hp x hx; omega,by simp[hl],fun a ha=>?_,fun a b ha hb=>?_⟩
 ·by_cases e:a=k
  ·subst e; rw[g1]; omega
  ·rw[g2 a e]; have:=h.bp a oM; omega
 ·by_cases e:a=k <;> by_cases e2:b=k
  ·subst e; subst e2; exact⟨fun _=>.refl _,fun _=>I⟩
  ·subst e;rw[g1,g2 b e2];have:=h.bp b oM;exact⟨fun h=>by omega,fun hc=>by have:=hc.iso iso; omega⟩
  ·subst e2;rw[g1,g2 a e];have:=h.bp a oM;exact⟨fun h=>by omega,fun hc=>by have:=hc.symm.iso iso; omega⟩
  ·rw[g2 a e,g2 b e2];exact h.cn a b oM oM
theorem lB {m:Nat}{old now:Int}{p:List Int}{a:Nat}(h:a<p.length)(hm:a<m):(eI m old now p).getD a 0=if p.getD a 0=now then old else p.getD a 0:=by
 rw[zh1,zh1];simp only[eI,List.getElem?_mapIdx,gE h,Option.map_some,Option.getD_some,hm,true_and]
theorem D2 {i:Nat}{c:Int}{es:List En}(h:∀ e∈es,e.fst<i+1):j7 i c es<i+1:=by
 induction es with
 | nil=>exact Nat.lt_succ_self i
 | cons e r ih =>
  unfold j7;split
  ·exact h e (by simp)
  ·exact ih fun x hx=>h x (by simp[hx])
theorem yY {P:En→Prop}{i:Nat}{c p:Int}(hn:P (En.up ⟨c,0,0,i⟩ p))(hu:∀ e,P e→P (e.up p))(ho:∀ e,P e→P e):∀ {es:List En},(∀ e∈es,P e)→∀ e∈lJ i c p es,P e
 | [],_,e,he=>by simp[lJ] at he; subst he; exact hn
 | x::r,h,e,he=>by
  unfold lJ at he;split at he
  ·rcases zf1.1 he with rfl | he
   ·exact hu x (h x (by simp))
   ·exact h e (by simp[he])
  ·rcases zf1.1 he with rfl | he
   ·exact h e (by simp)
   ·exact yY hn hu ho (fun y hy=>h y (by simp[hy])) e he
theorem zm {P:Int→Prop}{c:Int}{i:Int}(hi:P i):∀ {ml:List (Int×List Int)},(∀ p∈ml,∀ x∈p.2,P x)→∀ p∈gC ml c i,∀ x∈p.2,P x
 | [],_,p,hp,x,hx=>by simp[gC] at hp; subst hp; simp at hx; subst hx; exact hi
 | (k,l)::r,h,p,hp,x,hx=>by
  unfold gC at hp;split at hp
  ·rcases zf1.1 hp with rfl | hp
   ·rcases zf3.1 hx with hx | hx
    ·exact h (k,l) (by simp) x hx
    ·simp at hx; subst hx; exact hi
   ·exact h p (by simp[hp]) x hx
  ·rcases zf1.1 hp with rfl | hp
   ·exact h (k,l) (by simp) x hx
   ·exact zm hi (fun q hq=>h q (by simp[hq])) p hp x hx
theorem Sd.next {n t i:Nat}{es:List En}{part:List Int}{zl:List (Int×Int)}{ml:List (Int×List Int)}{x r:Side}(h:Sd n t (i+1) es part zl ml)(hi:i<n)(ht:t<1000000)(hx:x.sign=1∨x.sign = -1)(hr:r.sign=1∨r.sign = -1) :
  Sd n (t+1) (i+1) (mR i x.sign (es,part) r).1 (mR i x.sign (es,part) r).2 (mQ x zl r) (fo i ml r):=by
 have hp:=x6 hx hr;have hw:wr (x.sign * r.sign)=x.sign * r.sign:=s7 oM;unfold mR mQ fo;dsimp only;rw[hw];generalize x.sign * r.sign=p at *;have hl:=h.len;have hbm:=ET (i:=i) (c:=r.cell) (p:=p) h.m fun e he=>by have:=h.bz e he; exact s7 oM
 have hf:=D2 (c:=r.cell) h.bf;refine⟨ES h.z (fun e he=>by have:=h.bz e he; exact s7 oM) (by rw[Int.zero_add]; exact s7 oM),hbm.1,?_,?_,?_,by rw[mJ]; exact hl,fun a ha=>?_,fun a b ha hb=>?_⟩
 ·have:∀ e∈lJ i r.cell p es,(-(t:Int)≤e.sum∧e.sum≤t∧0≤e.many∧e.many≤t)∨(-((t+1:Nat):Int)≤e.sum∧e.sum≤((t+1:Nat):Int)∧0≤e.many∧e.many≤((t+1:Nat):Int)):=by
   have h0:=h.bz;clear h hbm hf hl;generalize hes:lJ i r.cell p es=fs;intro e he;subst hes;induction es with
   | nil =>
    simp[lJ] at he;subst he;right;simp only[En.up];rw[s7 oM,s7 oM];omega
   | cons y q ih =>
    unfold lJ at he;split at he
    ·rcases zf1.1 he with rfl | he
     ·right;have:=h0 y (by simp);simp only[En.up];rw[s7 oM,s7 oM];omega
     ·exact .inl (h0 e (by simp[he]))
    ·rcases zf1.1 he with rfl | he
     ·exact .inl (h0 e (by simp))
     ·exact ih (fun z hz=>h0 z (by simp[hz])) he
  intro e he
  rcases this e he with h1 | h1 <;> omega
 ·exact yY (P:=fun e=>e.fst<i+1) (Nat.lt_succ_self i) (fun e he=>he) (fun e he=>he) h.bf
 ·exact zm (P:=fun x=>0≤x∧x<((i+1:Nat):Int)) oM h.bm
 ·rw[lB oM ha];split
  ·exact h.bp _ hf
  ·exact h.bp a ha
 ·rw[lB oM ha,lB oM hb,Cn.add (x:=(j7 i r.cell es:Int)) (y:=(i:Int)) hbm.2 a b];rw[← h.cn a b ha hb,← h.cn a _ ha hf,← h.cn i b oM hb,← h.cn a i ha oM,← h.cn _ b hf hb];generalize part.getD a 0=pa;generalize part.getD b 0=pb;generalize part.getD i 0=pi;generalize part.getD (j7 i r.cell es) 0=pf;by_cases h1:pa=pi <;> by_cases h2:pb=pi <;> simp[h1,h2] <;> omega
theorem Sd.inner {n i:Nat}{x:Side}(hi:i<n)(hx:x.sign=1∨x.sign = -1):∀ (l:List Side) {t:Nat} {es:List En} {part:List Int} {zl:List (Int×Int)} {ml:List (Int×List Int)},Sd n t (i+1) es part zl ml→t+l.length<1000000→(∀ r∈l,r.sign=1∨r.sign = -1) →
  Sd n (t+l.length) (i+1) (l.foldl (mR i x.sign) (es,part)).1 (l.foldl (mR i x.sign) (es,part)).2 (l.foldl (mQ x) zl) (l.foldl (fo i) ml)
 | [],_,_,_,_,_,h,_,_=>h
 | r::l,t,es,part,zl,ml,h,ht,hr=>by
  simp only[ze8] at ht;have h1:=h.next (x:=x) (r:=r) hi oM hx (hr r (by simp));have:=Sd.inner hi hx l h1 oM (fun q hq=>hr q (by simp[hq]));simp only[zi8,ze8];rw[show t+(l.length+1)=t+1+l.length by omega];exact this
theorem Sd.outer {tl:List Cl}{n:Nat}:∀ (l:List Side) {t k:Nat} {es:List En} {part:List Int} {zl:List (Int×Int)} {ml:List (Int×List Int)},Sd n t k es part zl ml→k+l.length≤n→t+64 * l.length<1000000→(∀ x∈l,x.sign=1∨x.sign = -1)→(∀ x∈l,(aM tl x).length≤64∧∀ r∈aM tl x,r.sign=1∨r.sign = -1) →
  ∃ t',Sd n t' (k+l.length) ((l.zipIdx k).foldl (o6 tl) (es,part)).1 ((l.zipIdx k).foldl (o6 tl) (es,part)).2 (l.foldl (fun zl x=>(aM tl x).foldl (mQ x) zl) zl) ((l.zipIdx k).foldl (fun ml p=>(aM tl p.1).foldl (fo p.2) ml) ml)
 | [],t,_,_,_,_,_,h,_,_,_,_=>⟨t,h⟩
 | x::l,t,k,es,part,zl,ml,h,hk,ht,hs,hq=>by
  simp only[ze8] at hk ht;have h0:=hq x (by simp);have h1:=(h.open oM).inner (x:=x) oM (hs x (by simp)) (aM tl x) oM h0.2;obtain ⟨t',h2⟩:=Sd.outer l h1 oM oM (fun y hy=>hs y (by simp[hy])) (fun y hy=>hq y (by simp[hy]));refine⟨t',?_⟩;simp only[List.zipIdx_cons,zi8,ze8];rw[show k+(l.length+1)=k+1+l.length by omega];exact h2
theorem pJ {α β:Type}{R:α→β→Prop}{p:α→Bool}{q:β→Bool}(h:∀ a b,R a b→p a=q b):∀ {l:List α} {m:List β},aF R l m→l.any p=m.any q
 | [],[],_=>rfl
 | a::l,b::m,hr=>by simp only[List.any_cons,h a b hr.1,pJ h hr.2]
 | [],_::_,hr=>hr.elim
 | _::_,[],hr=>hr.elim
theorem tM {ml:List (Int×List Int)}(h2:∀ p∈ml,p.2.length=2)(a b:Int):Rch (kx (dJ ml)) a b↔Cn (eK ml) a b:=by
 have hstep:∀ x y,y∈ft (dJ ml) x→Cn (eK ml) x y:=fun x y hy=>by
  obtain ⟨p,hp,h⟩:=(lP ml x y).1 hy
  rcases h with h | h
  ·exact .one ⟨p,hp,by rw[h]; rfl,by rw[h]; simp⟩
  ·exact (Cn.one (E:=eK ml) ⟨p,hp,by rw[h]; rfl,by rw[h]; simp⟩).symm
 have hadj:∀ x,kx (dJ ml) x≠none:=fun x=>by simp[kx]
 constructor
 ·intro h;induction h with
  | refl _ _=>exact .refl _
  | step x y _ l hl hy _ ih =>
   simp only[kx,zg7] at hl;subst hl;exact (hstep x y hy).trans ih
 ·intro h;induction h with
  | refl a=>exact .refl a (hadj a)
  | @step x y z e _ ih =>
   have key:∀ u v,eK ml u v→v=u∨v∈ft (dJ ml) u:=fun u v ⟨p,hp,h3,h4⟩=>by
    have:=h2 p hp
    match hq:p.2,this with
    | [c,d],_ =>
     rw[hq] at h3 h4;simp at h3 h4;subst h3
     rcases h4 with h4 | h4
     ·exact .inl h4
     ·exact .inr ((lP ml c v).2 ⟨p,hp,.inl (by rw[hq,h4])⟩)
   rcases e with e | e
   ·rcases key x y e with rfl | h5
    ·exact ih
    ·exact .step x y z _ I h5 ih
   ·rcases key y x e with rfl | h5
    ·exact ih
    ·refine .step x y z _ I ?_ ih;obtain ⟨p,hp,h6⟩:=(lP ml y x).1 h5;exact (lP ml x y).2 ⟨p,hp,h6.symm⟩
theorem pg {l:List Int}(hn:l.Nodup)(hb:∀ x∈l,0≤x):(l.map Int.toNat).Nodup:=by
 rw[List.Nodup,zk5];refine List.Pairwise.imp_of_mem ?_ hn;intro a b ha hb' hne e;have:=hb a ha;have:=hb b hb';omega
theorem my {l:List Int}{n:Nat}(hn:l.Nodup)(hb:∀ x∈l,0≤x∧x<(n:Int)):l.length≤n:=by
 have h1:=pg hn fun x hx=>(hb x hx).1;have:=eo (l:=List.range n) h1 List.nodup_range fun x hx=>by
  obtain ⟨y,hy,rfl⟩:=zf2.1 hx;have:=hb y hy;exact List.mem_range.2 oM
 simpa using this
theorem tA {tl:List Cl}{c:Cl}(hok:AOk tl c)(h0:0<c.sides.length):jf tl c=dp tl c:=by
 obtain ⟨h64,hs,hq⟩:=hok;have start:Sd c.sides.length 0 0 [] (List.replicate c.sides.length 0) [] []:=⟨trivial,trivial,by simp,by simp,by simp,by simp,by simp,fun a b ha=>by omega⟩;obtain ⟨t,hd⟩:=start.outer c.sides (tl:=tl) oM oM hs hq;have e1:((c.sides.zipIdx 0).foldl (o6 tl) ([],List.replicate c.sides.length 0))=nK tl c.sides c.sides.length:=rfl;rw[e1] at hd;have hz:aF RZ (nK tl c.sides c.sides.length).1 (iI tl c.sides):=hd.z;have hm:aF RM (nK tl c.sides c.sides.length).1 (fg tl c.sides):=hd.m;unfold jf dp;rw[pJ (p:=fun e=>decide (e.sum≠0)) (q:=fun p:Int×Int=>decide (p.2≠0)) (fun a b h=>by rw[h.2]) hz];rw[pJ (p:=fun e=>decide (e.many≠2)) (q:=fun p:Int×List Int=>decide ((p.2.length:Int)≠2)) (fun a b h=>by rw[h.2.1]) hm];split
 ·rfl
 ·split
  ·rfl
  ·rename_i hno;have h2:∀ p∈fg tl c.sides,p.2.length=2:=fun p hp=>by
    have:=zk6.1 ((zj7 _).mp hno) p hp;simp at this;omega
   have hbm:∀ p∈fg tl c.sides,∀ x∈p.2,0≤x∧x<((0+c.sides.length:Nat):Int):=hd.bm;rw[Nat.zero_add] at hbm;have hcn:∀ a b:Nat,a<c.sides.length→b<c.sides.length→((nK tl c.sides c.sides.length).2.getD a 0=(nK tl c.sides c.sides.length).2.getD b 0↔Rch (kx (dJ (fg tl c.sides))) a b):=fun a b ha hb=>by
    rw[tM h2];exact hd.cn a b oM oM
   have hln:=hd.len;have hmem:∀ x:Int,x∈jM (dJ (fg tl c.sides))↔Rch (kx (dJ (fg tl c.sides))) 0 x:=fun x=>vV (cnt:=oO (dJ (fg tl c.sides))) (fun v v' h=>j6 h) (lG _) (Nat.lt_succ_of_le (zc5 _ _)) (by simp[kx]) x;have hnd:(jM (dJ (fg tl c.sides))).Nodup:=j5 _ _ _ _ (by simp);have hin:∀ x∈jM (dJ (fg tl c.sides)),0≤x∧x<(c.sides.length:Int):=fun x hx=>by
    have hr:=(tM h2 0 x).1 ((hmem x).1 hx);have:∀ a b,Cn (eK (fg tl c.sides)) a b→(0≤a∧a<(c.sides.length:Int))→(0≤b∧b<(c.sides.length:Int)):=by
     intro a b h;induction h with
     | refl _=>exact fun h=>h
     | step e _ ih =>
      intro _
      rcases e with e | e
      ·exact ih (iX hbm e).2
      ·exact ih (iX hbm e).1
    exact this 0 x hr oM
   generalize (nK tl c.sides c.sides.length).2=part at *;generalize jM (dJ (fg tl c.sides))=seen at *;by_cases hall:∀ a,a<c.sides.length→part.getD a 0=part.getD 0 0
   ·have hf:part.any (fun x=>decide (x≠part.getD 0 0))=false:=by
     rw[zk6];intro x hx;obtain ⟨i,hi,rfl⟩:=zc7 hx;have:=hall i oM;rw[zh1,gE hi] at this;simpa using this
    have hlen:seen.length=c.sides.length:=by
     refine Nat.le_antisymm (my hnd hin) ?_;have h3:=eo (m:=List.range c.sides.length) (l:=seen.map Int.toNat) List.nodup_range (pg hnd fun x hx=>(hin x hx).1) fun i hi=>by
      have hi:=List.mem_range.1 hi;exact zf2.2 ⟨(i:Int),(hmem i).2 ((hcn 0 i h0 hi).1 (hall i hi).symm),by simp⟩
     simpa using h3
    rw[hf,hlen];simp
   ·have ht:part.any (fun x=>decide (x≠part.getD 0 0))=true:=by
     simp only[Classical.not_forall] at hall;obtain ⟨a,ha,hne⟩:=hall;rw[zj8];refine⟨part.getD a 0,?_,by simpa using hne⟩;rw[zh1,gE oM];exact gM _
    have hlen:(seen.length:Int)≠c.sides.length:=by
     simp only[Classical.not_forall] at hall;obtain ⟨a,ha,hne⟩:=hall;have hna:(a:Int) ∉ seen:=fun h=>hne ((hcn 0 a h0 ha).2 ((hmem a).1 h)).symm;have:=my (l:=(a:Int)::seen) (n:=c.sides.length) (zk3.2 ⟨hna,hnd⟩) fun x hx=>by
      rcases zf1.1 hx with rfl | hx
      ·omega
      ·exact hin x hx
     simp at this;omega
    rw[ht,zg1 rfl,zg1 hlen]
theorem cR {tl:List Cl}:∀ {l:List Cl} {n:Int},fY tl l n=none→l.Pairwise (fun a b=>a.id<b.id)∧(∀ x∈l,n<x.id)∧∀ x∈l,cq tl x=0
 | [],_,_=>⟨List.Pairwise.nil,by simp,by simp⟩
 | x::r,n,h=>by
  unfold fY at h;split at h
  ·cases h
  ·rename_i hid;split at h
   ·cases h
   ·rename_i hf;obtain ⟨h1,h2,h3⟩:=cR h;refine⟨zk4.2 ⟨h2,h1⟩,fun y hy=>?_,fun y hy=>?_⟩
    ·rcases zf1.1 hy with rfl | hy
     ·omega
     ·have:=h2 y hy; omega
    ·rcases zf1.1 hy with rfl | hy
     ·exact zg9 hf
     ·exact h3 y hy
theorem kE (l:List Cl):aN l=aG l:=by
 unfold aN aG;split
 ·rfl
 ·cases h:fY (ak l) (aa l) 0 with
  | some p=>rfl
  | none =>
   obtain ⟨h1,_,h3⟩:=cR h;have ht:=bG h1;have key:∀ m:List Cl,(∀ x∈m,x∈aa l)→nO (aa l) m=oS (ak l) m:=by
    intro m;induction m with
    | nil=>intro _; rfl
    | cons x r ih =>
     intro hm;have hx:=hm x (by simp);unfold nO oS;rw[ih fun y hy=>hm y (by simp[hy])];by_cases hd:x.dim>1
     ·have hok:=AQ h3 hx;have hn:0<x.sides.length:=by
       have hf:=h3 x hx;unfold cq at hf;split at hf
       ·cases hf
       ·split at hf
        ·cases hf
        ·rename_i hc;simp[aR] at hc;have:=hc.2 hd;omega
      rw[ht] at hok ⊢;rw[tA hok hn]
     ·simp[hd]
   rw[key _ fun x hx=>hx]
set_option maxRecDepth 10000
theorem l5 {l:List Cl}(h:(aG l).2=0):fY (ak l) (aa l) 0=none:=by
 unfold aG at h;split at h
 ·simp at h
 ·cases h1:fY (ak l) (aa l) 0 with
  | none=>rfl
  | some p=>rw[h1] at h; exact absurd h (wg h1)
theorem DF (a b:List Cl):cM a b=E8 a b:=by
 have hb:cG a b=oW a b:=by
  unfold cG oW;rw[kE,kE];by_cases h1:(aG a).2=0
  ·by_cases h2:(aG b).2=0
   ·rw[bG (cR (l5 h1)).1,bG (cR (l5 h2)).1,aB,aB]
   ·simp[h2]
  ·simp[h1]
 unfold cM E8;rw[hb,kE]
section
variable {A:List (List Int)}(hA:iD A)
include hA
end
theorem FP {tl:List Cl}{c:Cl}(h1:0≤c.dim∧c.dim≤8)(h2:aR c=false)(h3:∀ x∈c.sides,∃ d,am tl x.cell=some d∧d.dim=c.dim - 1)(h4:c.sides.Pairwise fun a b=>a.cell<b.cell)(h5:∀ x∈c.sides,x.sign=1∨x.sign = -1)(h6:c.dim=1→mf c.sides=0):cq tl c=0:=by
 have e1:eZ c=false:=by unfold eZ; simp; omega
 have e3:(List.range c.sides.length).any (fF tl c)=false:=by
  rw[zk6];intro i hi;have hi:=List.mem_range.1 hi;obtain ⟨d,hd1,hd2⟩:=h3 _ (gM hi);unfold fF;rw[gE hi];show ¬ bV _ _ i c.sides[i]=true;unfold bV;rw[hd1];simp only[Option.isSome_some,Bool.not_true,Bool.false_or,Option.getD_some,hd2,ne_eq,not_true_eq_false,decide_false];by_cases hi0:i>0
  ·have hlt:=zc9.1 h4 (i - 1) i oM hi oM;rw[gE oM];simp;omega
  ·simp[hi0]
 have e4:c.sides.any bM=false:=by
  rw[zk6];intro x hx
  rcases h5 x hx with h | h <;> simp[bM,h]
 have e5:(decide (c.dim=1)&&decide (mf c.sides≠0))=false:=by
  by_cases hd:c.dim=1
  ·rw[h6 hd]; simp
  ·simp[hd]
 unfold cq;rw[e1,h2,e3,e4,e5];rfl
section
variable {A B:List (List Int)}(hA:iD A)(hB:iD B)
include hA hB
end
section
variable {A B:List (List Int)}(hA:iD A)(hB:iD B)
include hA hB
end
structure Few (a:List Cl)(A:List (List Int)):Prop where
 good:iD A
 cells:a=A.map (jm A)
 small:∀ s∈A,s.length≤3
 few:A.length≤14
def vQ (tl:List Cl)(l:List Side)(r:Int):Int:=(l.flatMap fun x=>(aM tl x).map fun q=>if q.cell=r then x.sign * q.sign else 0).sum
def qE (tl:List Cl)(x:Side)(r:Int):Nat:=((aM tl x).filter fun q=>decide (q.cell=r)).length
def xP (tl:List Cl)(l:List Side)(r:Int):Nat:=(l.map fun x=>qE tl x r).sum
def vr (tl:List Cl)(l:List Side)(a b:Int):Prop:=∃ x∈l,∃ y∈l,x.cell=a∧y.cell=b∧∃ r,0<qE tl x r∧0<qE tl y r
theorem po (zl:List (Int×Int))(k x r:Int):c8 (em zl k x) r=c8 zl r+if r=k then x else 0:=by
 induction zl with
 | nil =>
  simp only[em,c8];split <;> simp
 | cons p q ih =>
  obtain ⟨a,z⟩:=p;simp only[em];by_cases h:k=a
  ·subst h;simp only[if_true,c8];split <;> simp
  ·rw[zf9 h];simp only[c8,ih];by_cases hr:r=a
   ·subst hr;rw[zg1 rfl,zg1 rfl,zf9 fun e=>h e.symm];omega
   ·rw[zf9 hr,zf9 hr]
theorem rR (x:Side)(r:Int):∀ (l:List Side) (zl:List (Int×Int)),c8 (l.foldl (mQ x) zl) r=c8 zl r+(l.map fun q=>if q.cell=r then x.sign * q.sign else 0).sum
 | [],zl=>by simp
 | q::l,zl=>by
  simp only[zi8,zg4,List.sum_cons];rw[rR x r l,mQ,po];by_cases h:r=q.cell
  ·rw[zg1 h,zg1 h.symm]; omega
  ·rw[zf9 h,zf9 fun e=>h e.symm]; omega
theorem uD (tl:List Cl)(l:List Side)(r:Int):c8 (iI tl l) r=vQ tl l r:=by
 have:∀ (l:List Side) (zl:List (Int×Int)),c8 (l.foldl (fun zl x=>(aM tl x).foldl (mQ x) zl) zl) r=c8 zl r+vQ tl l r:=by
  intro l;induction l with
  | nil=>intro zl; simp[vQ]
  | cons x q ih =>
   intro zl;simp only[zi8];rw[ih,rR];simp only[vQ,zh5,List.sum_append];omega
 have h:=this l [];simpa [iI,c8] using h
theorem pL (ml:List (Int×Int))(k x:Int):(em ml k x).map Prod.fst=if ml.any (fun p=>decide (p.1=k)) then ml.map Prod.fst else ml.map Prod.fst++[k]:=by
 induction ml with
 | nil=>simp[em]
 | cons p r ih =>
  obtain ⟨a,l⟩:=p;simp only[em];by_cases h:k=a
  ·subst h;simp
  ·have h2:¬ a=k:=fun e=>h e.symm;rw[zf9 h];simp only[zg4,ih,List.any_cons,h2,decide_false,Bool.false_or];split <;> simp
theorem nF {ml:List (Int×Int)}(h:(ml.map Prod.fst).Nodup)(k x:Int):((em ml k x).map Prod.fst).Nodup:=by
 rw[pL];split
 ·exact h
 ·rename_i hk;rw[List.nodup_append];refine⟨h,by simp,fun a ha b hb e=>hk ?_⟩;simp at hb;subst hb;obtain ⟨p,hp,hpe⟩:=zf2.1 ha;rw[zj8];exact⟨p,hp,by simp[hpe,e]⟩
theorem wA (tl:List Cl)(l:List Side):((iI tl l).map Prod.fst).Nodup:=by
 have h1:∀ (x:Side) (q:List Side) (zl:List (Int×Int)),(zl.map Prod.fst).Nodup→((q.foldl (mQ x) zl).map Prod.fst).Nodup:=by
  intro x q;induction q with
  | nil=>intro zl h; exact h
  | cons r t ih=>intro zl h; exact ih _ (nF h _ _)
 have h2:∀ (q:List Side) (zl:List (Int×Int)),(zl.map Prod.fst).Nodup→((q.foldl (fun zl x=>(aM tl x).foldl (mQ x) zl) zl).map Prod.fst).Nodup:=by
  intro q;induction q with
  | nil=>intro zl h; exact h
  | cons x t ih=>intro zl h; exact ih _ (h1 _ _ _ h)
 exact h2 _ _ (by simp)
theorem lV:∀ {zl:List (Int×Int)},(zl.map Prod.fst).Nodup→∀ p∈zl,c8 zl p.1=p.2
 | [],_,p,hp=>by simp at hp
 | (a,z)::r,h,p,hp=>by
  simp only[zg4,zk3] at h
  rcases zf1.1 hp with rfl | hp
  ·simp[c8]
  ·simp only[c8];rw[zf9 fun e=>h.1 (zf2.2 ⟨p,hp,e⟩)];exact lV h.2 p hp
theorem pn:∀ {zl:List (Int×Int)} {k:Int},c8 zl k≠0→∃ p∈zl,p.1=k∧p.2=c8 zl k
 | [],_,h=>by simp[c8] at h
 | (a,z)::r,k,h=>by
  simp only[c8] at h ⊢;split
  ·rename_i e;exact⟨(a,z),by simp,e.symm,I⟩
  ·rename_i e;rw[zf9 e] at h;obtain ⟨p,hp,h1,h2⟩:=pn h;exact⟨p,by simp[hp],h1,h2⟩
theorem ue (tl:List Cl)(l:List Side):(iI tl l).any (fun p=>decide (p.2≠0))=false↔∀ r,vQ tl l r=0:=by
 rw[zk6];constructor
 ·intro h r;rw[← uD];refine zg9 fun hne=>?_;obtain ⟨p,hp,_,h2⟩:=pn hne;exact h p hp (by simpa [h2] using hne)
 ·intro h p hp;have:=lV (wA tl l) p hp;rw[uD,h] at this;simp[← this]
theorem rS (i r:Int):∀ (l:List Side) (ml:List (Int×List Int)),ft (l.foldl (fo i) ml) r=ft ml r++List.replicate (l.filter fun q=>decide (q.cell=r)).length i
 | [],ml=>by simp
 | q::l,ml=>by
  simp only[zi8];rw[rS i r l,fo,uG,zi7];by_cases h:r=q.cell
  ·rw[zg1 h,zg1 (by simp[h])];simp[List.replicate_succ]
  ·rw[zf9 h,zf9 (by simp; exact fun e=>h e.symm)]
theorem yy (tl:List Cl)(l:List Side)(r:Int):ft (fg tl l) r=l.zipIdx.flatMap fun p=>List.replicate (qE tl p.1 r) (p.2:Int):=by
 have:∀ (q:List (Side×Nat)) (ml:List (Int×List Int)),ft (q.foldl (fun ml p=>(aM tl p.1).foldl (fo p.2) ml) ml) r=ft ml r++q.flatMap fun p=>List.replicate (qE tl p.1 r) (p.2:Int):=by
  intro q;induction q with
  | nil=>intro ml; simp
  | cons p t ih =>
   intro ml;simp only[zi8];rw[ih,rS];simp[qE]
 have h:=this l.zipIdx [];simpa [fg,ft] using h
theorem Ba (tl:List Cl)(l:List Side)(r:Int):(ft (fg tl l) r).length=xP tl l r:=by
 rw[yy];have:∀ (l:List Side) (k:Nat),((l.zipIdx k).flatMap fun p=>List.replicate (qE tl p.1 r) (p.2:Int)).length=xP tl l r:=by
  intro l;induction l with
  | nil=>intro k; rfl
  | cons x q ih=>intro k; simp only[List.zipIdx_cons,zh5,ze5,List.length_replicate,ih,xP,zg4,List.sum_cons]
 exact this l 0
theorem o0 (tl:List Cl)(l:List Side)(r i:Int):i∈ft (fg tl l) r↔∃ k:Nat,i=k∧∃ x,l[k]?=some x∧0<qE tl x r:=by
 rw[yy,List.mem_flatMap];constructor
 ·rintro ⟨⟨x,k⟩,hp,hi⟩;obtain ⟨h1,rfl⟩:=List.mem_replicate.1 hi;refine⟨k,I,x,?_,Nat.pos_of_ne_zero h1⟩;simpa using List.mem_zipIdx_iff_getElem?.1 hp
 ·rintro ⟨k,rfl,x,hx,hh⟩;exact⟨(x,k),List.mem_zipIdx_iff_getElem?.2 (by simpa using hx),List.mem_replicate.2 ⟨Nat.ne_of_gt hh,I⟩⟩
theorem oB:∀ {ml:List (Int×List Int)},(ml.map Prod.fst).Nodup→∀ p∈ml,ft ml p.1=p.2
 | [],_,p,hp=>by simp at hp
 | (a,z)::r,h,p,hp=>by
  simp only[zg4,zk3] at h
  rcases zf1.1 hp with rfl | hp
  ·simp[ft]
  ·simp only[ft];rw[zf9 fun e=>h.1 (zf2.2 ⟨p,hp,e⟩)];exact oB h.2 p hp
theorem pw:∀ {ml:List (Int×List Int)} {k:Int},ft ml k≠[]→∃ p∈ml,p.1=k∧p.2=ft ml k
 | [],_,h=>by simp[ft] at h
 | (a,z)::r,k,h=>by
  simp only[ft] at h ⊢;split
  ·rename_i e;exact⟨(a,z),by simp,e.symm,I⟩
  ·rename_i e;rw[zf9 e] at h;obtain ⟨p,hp,h1,h2⟩:=pw h;exact⟨p,by simp[hp],h1,h2⟩
theorem BB:∀ {ml:List (Int×List Int)} {k x:Int},(∀ p∈ml,p.2≠[])→∀ p∈gC ml k x,p.2≠[]
 | [],_,_,_,p,hp=>by simp[gC] at hp; subst hp; simp
 | (a,l)::r,k,x,h,p,hp=>by
  unfold gC at hp;split at hp
  ·rcases zf1.1 hp with rfl | hp
   ·simp
   ·exact h p (by simp[hp])
  ·rcases zf1.1 hp with rfl | hp
   ·exact h _ (by simp)
   ·exact BB (fun q hq=>h q (by simp[hq])) p hp
theorem Gs (tl:List Cl)(l:List Side):∀ p∈fg tl l,p.2≠[]:=by
 have h1:∀ (i:Int) (q:List Side) (ml:List (Int×List Int)),(∀ p∈ml,p.2≠[])→∀ p∈q.foldl (fo i) ml,p.2≠[]:=by
  intro i q;induction q with
  | nil=>intro ml h; exact h
  | cons r t ih=>intro ml h; exact ih _ (BB h)
 have h2:∀ (q:List (Side×Nat)) (ml:List (Int×List Int)),(∀ p∈ml,p.2≠[])→∀ p∈q.foldl (fun ml p=>(aM tl p.1).foldl (fo p.2) ml) ml,p.2≠[]:=by
  intro q;induction q with
  | nil=>intro ml h; exact h
  | cons x t ih=>intro ml h; exact ih _ (h1 _ _ _ h)
 exact h2 _ _ (by simp)
theorem yo (tl:List Cl)(l:List Side):(fg tl l).any (fun p=>decide ((p.2.length:Int)≠2))=false↔∀ r,xP tl l r=0∨xP tl l r=2:=by
 rw[zk6];constructor
 ·intro h r;rw[← Ba];by_cases hne:ft (fg tl l) r=[]
  ·left; rw[hne]; rfl
  ·right;obtain ⟨p,hp,_,h2⟩:=pw hne;have:=h p hp;rw[h2] at this;simp at this;omega
 ·intro h p hp;have h1:=oB (kQ tl l) p hp;have h2:=h p.1;rw[← Ba,h1] at h2;have h3:=List.length_pos_iff.2 (Gs tl l p hp);simp;omega
theorem Gt (tl:List Cl)(l:List Side):∀ p∈fg tl l,∀ x∈p.2,0≤x∧x<(l.length:Int):=fun p hp x hx=>by
 rw[← oB (kQ tl l) p hp] at hx;obtain ⟨k,rfl,y,hy,_⟩:=(o0 tl l p.1 x).1 hx;have:=(zf5.1 hy).1;omega
theorem DA {ml:List (Int×List Int)}{n:Nat}(h2:∀ p∈ml,p.2.length=2)(hb:∀ p∈ml,∀ x∈p.2,0≤x∧x<(n:Int))(h0:0<n):(jM (dJ ml)).length=n↔∀ a:Nat,a<n→Cn (eK ml) 0 a:=by
 have hmem:∀ x:Int,x∈jM (dJ ml)↔Rch (kx (dJ ml)) 0 x:=fun x=>vV (cnt:=oO (dJ ml)) (fun v v' h=>j6 h) (lG _) (Nat.lt_succ_of_le (zc5 _ _)) (by simp[kx]) x;have hnd:(jM (dJ ml)).Nodup:=j5 _ _ _ _ (by simp);have hin:∀ x∈jM (dJ ml),0≤x∧x<(n:Int):=fun x hx=>by
  have hr:=(tM h2 0 x).1 ((hmem x).1 hx);have:∀ a b,Cn (eK ml) a b→(0≤a∧a<(n:Int))→(0≤b∧b<(n:Int)):=by
   intro a b h;induction h with
   | refl _=>exact fun h=>h
   | step e _ ih =>
    intro _
    rcases e with e | e
    ·exact ih (iX hb e).2
    ·exact ih (iX hb e).1
  exact this 0 x hr oM
 generalize jM (dJ ml)=seen at *;constructor
 ·intro hl a ha;refine Classical.byContradiction fun hne=>?_;have hna:(a:Int) ∉ seen:=fun h=>hne ((tM h2 0 a).1 ((hmem a).1 h));have:=my (l:=(a:Int)::seen) (n:=n) (zk3.2 ⟨hna,hnd⟩) fun x hx=>by
   rcases zf1.1 hx with rfl | hx
   ·omega
   ·exact hin x hx
  simp at this;omega
 ·intro hall;refine Nat.le_antisymm (my hnd hin) ?_;have h3:=eo (m:=List.range n) (l:=seen.map Int.toNat) List.nodup_range (pg hnd fun x hx=>(hin x hx).1) fun i hi=>by
   have hi:=List.mem_range.1 hi;exact zf2.2 ⟨(i:Int),(hmem i).2 ((tM h2 0 i).2 (hall i hi)),by simp⟩
  simpa using h3
theorem Cn.map {E E':Int→Int→Prop}{f:Int→Int}(h:∀ a b,E a b→Cn E' (f a) (f b)){a b:Int}(hc:Cn E a b):Cn E' (f a) (f b):=by
 induction hc with
 | refl _=>exact .refl _
 | step e _ ih =>
  rcases e with e | e
  ·exact (h _ _ e).trans ih
  ·exact (h _ _ e).symm.trans ih
theorem nD {tl:List Cl}{c:Cl}(h0:0<c.sides.length)(hnd:(c.sides.map Side.cell).Nodup) :
  dp tl c=0↔(∀ r,vQ tl c.sides r=0)∧(∀ r,xP tl c.sides r=0∨xP tl c.sides r=2)∧∀ x∈c.sides,∀ y∈c.sides,Cn (vr tl c.sides) x.cell y.cell:=by
 unfold dp;generalize c.sides=l at *;by_cases hs:(iI tl l).any (fun p=>decide (p.2≠0))=false
 ·rw[zf9 (by rw[hs]; simp)];by_cases hm:(fg tl l).any (fun p=>decide ((p.2.length:Int)≠2))=false
  ·rw[zf9 (by rw[hm]; simp)];have h2:∀ p∈fg tl l,p.2.length=2:=fun p hp=>by
    have:=zk6.1 hm p hp;simp at this;omega
   have hsa:=DA h2 (Gt tl l) h0;have hinj:∀ {i j:Nat} {x y:Side},l[i]?=some x→l[j]?=some y→x.cell=y.cell→i=j:=fun {i j x y} hi hj e=>by
    obtain ⟨i1,e1⟩:=zf5.1 hi;obtain ⟨i2,e2⟩:=zf5.1 hj;have key:∀ {a b:Nat} (ha:a<l.length) (hb:b<l.length),a<b→l[a].cell≠l[b].cell:=fun {a b} ha hb h=>by
     have:=zc9.1 hnd a b (by simpa using ha) (by simpa using hb) h;simpa using this
    rcases Nat.lt_trichotomy i j with h | h | h
    ·exact absurd (by rw[e1,e2]; exact e) (key i1 i2 h)
    ·exact h
    ·exact absurd (by rw[e1,e2]; exact e.symm) (key i2 i1 h)
   have hconn:(∀ a:Nat,a<l.length→Cn (eK (fg tl l)) 0 a)↔∀ x∈l,∀ y∈l,Cn (vr tl l) x.cell y.cell:=by
    constructor
    ·intro hall x hx y hy;obtain ⟨i,hi,rfl⟩:=zc7 hx;obtain ⟨j,hj,rfl⟩:=zc7 hy;have hc:=(hall i hi).symm.trans (hall j hj);have:=hc.map (f:=fun a=>(l.getD a.toNat ⟨0,0⟩).cell) (E':=vr tl l) fun a b hl=>by
      obtain ⟨p,hp,h3,h4⟩:=hl;rw[← oB (kQ tl l) p hp] at h3 h4;obtain ⟨k,rfl,x,hx,hh⟩:=(o0 tl l p.1 a).1 (List.mem_of_head? h3);obtain ⟨m,rfl,y,hy,hh2⟩:=(o0 tl l p.1 b).1 h4;refine .one ⟨x,zg2 hx,y,zg2 hy,?_,?_,p.1,hh,hh2⟩
      ·simp[zh1,hx]
      ·simp[zh1,hy]
     simpa [zh1,hi,hj] using this
    ·intro hall;have key:∀ a b,Cn (vr tl l) a b→∀ (i:Nat) (x:Side),l[i]?=some x→x.cell=a→∀ (j:Nat) (y:Side),l[j]?=some y→y.cell=b→Cn (eK (fg tl l)) (i:Int) (j:Int):=by
      have one:∀ {a b:Int},vr tl l a b→∀ (i:Nat) (x:Side),l[i]?=some x→x.cell=a→∃ (j:Nat) (y:Side),l[j]?=some y∧y.cell=b∧Cn (eK (fg tl l)) (i:Int) (j:Int):=by
       rintro a b ⟨x',hx',y,hy,rfl,rfl,r,h3,h4⟩ i x hi he;obtain ⟨i',hi',rfl⟩:=zc7 hx';obtain ⟨j,hj,rfl⟩:=zc7 hy;have hii:=hinj hi (gE hi') he;subst hii;refine⟨j,l[j],gE hj,I,?_⟩;have m1:=(o0 tl l r i).2 ⟨i,rfl,l[i],gE hi',h3⟩;have m2:=(o0 tl l r j).2 ⟨j,rfl,l[j],gE hj,h4⟩;obtain ⟨p,hp,_,hp2⟩:=pw (ml:=fg tl l) (k:=r) fun e=>by rw[e] at m1; simp at m1
       rw[← hp2] at m1 m2;cases hh:p.2 with
       | nil=>rw[hh] at m1; simp at m1
       | cons u q =>
        have hu:∀ v∈p.2,eK (fg tl l) u v:=fun v hv=>⟨p,hp,by rw[hh]; rfl,hv⟩;exact (Cn.one (hu _ m1)).symm.trans (Cn.one (hu _ m2))
      intro a b hc;induction hc with
      | refl a =>
       intro i x hi he j y hj he2;have:=hinj hi hj (he.trans he2.symm);subst this;exact .refl _
      | step e _ ih =>
       intro i x hi he j y hj he2;have e':vr tl l _ _:=e.elim (fun e=>e) fun ⟨x,hx,y,hy,h1,h2,r,h3,h4⟩=>⟨y,hy,x,hx,h2,h1,r,h4,h3⟩;obtain ⟨k,z,hk,hz,hc⟩:=one e' i x hi he;exact hc.trans (ih k z hk hz j y hj he2)
     intro a ha;exact key _ _ (hall _ (gM h0) _ (gM ha)) 0 _ (gE h0) I a _ (gE ha) I
   rw[← hconn,← hsa];constructor
   ·intro h;refine⟨(ue tl l).1 hs,(yo tl l).1 hm,?_⟩;refine zg9 fun hne=>?_;rw[zg1 oM] at h;exact absurd h dC
   ·rintro ⟨_,_,h⟩;rw[zf9 oM]
  ·have hm':(fg tl l).any (fun p=>decide ((p.2.length:Int)≠2))=true:=by simpa using hm
   rw[zg1 hm'];exact⟨fun h=>absurd h dC,fun h=>absurd ((yo tl l).2 h.2.1) hm⟩
 ·have hs':(iI tl l).any (fun p=>decide (p.2≠0))=true:=by simpa using hs
  rw[zg1 hs'];exact⟨fun h=>absurd h dC,fun h=>absurd ((ue tl l).2 h.1) hs⟩
structure Fm (tl:List Cl)(c:Cl):Prop where
 dim:0≤c.dim∧c.dim≤8
 cnt:aR c=false
 found:∀ x∈c.sides,∃ d,am tl x.cell=some d∧d.dim=c.dim - 1
 asc:c.sides.Pairwise fun a b=>a.cell<b.cell
 sg:∀ x∈c.sides,x.sign=1∨x.sign = -1
 one:c.dim=1→mf c.sides=0
theorem Fm.ok {tl:List Cl}{c:Cl}(h:Fm tl c):cq tl c=0:=FP h.dim h.cnt h.found h.asc h.sg h.one
theorem GH {l:List Side}(hs:l.Pairwise fun a b=>a.cell≤b.cell)(hd:∀ i x y,l[i]?=some x→l[i+1]?=some y→x.cell≠y.cell):l.Pairwise fun a b=>a.cell<b.cell:=by
 induction l with
 | nil=>exact List.Pairwise.nil
 | cons a r ih =>
  obtain ⟨h1,h2⟩:=zk4.1 hs;have hr:=ih h2 fun i x y hx hy=>hd (i+1) x y (by simpa using hx) (by simpa using hy);refine zk4.2 ⟨fun b hb=>?_,hr⟩;cases r with
  | nil=>simp at hb
  | cons z q =>
   have hz:a.cell<z.cell:=by
    have:=h1 z (by simp);have:=hd 0 a z rfl rfl;omega
   rcases zf1.1 hb with rfl | hb
   ·exact hz
   ·have:=(zk4.1 hr).1 b hb;omega
theorem F9 {tl:List Cl}{c:Cl}(h:cq tl c=0)(hs:c.sides.Pairwise fun a b=>a.cell≤b.cell):Fm tl c:=by
 unfold cq at h;split at h
 ·cases h
 ·rename_i h1;split at h
  ·cases h
  ·rename_i h2;split at h
   ·cases h
   ·rename_i h3;split at h
    ·cases h
    ·rename_i h4;split at h
     ·cases h
     ·rename_i h5;have hbad:∀ i x,c.sides[i]?=some x→bV tl c i x=false:=fun i x hx=>by
       have hi:=(zf5.1 hx).1;have:=zk6.1 ((zj7 _).mp h3) i (List.mem_range.2 hi);unfold fF at this;rw[hx] at this;simpa using this
      refine⟨?_,by simpa using h2,fun x hx=>?_,GH hs fun i x y hx hy e=>?_,fun x hx=>?_,fun hd=>?_⟩
      ·simp[eZ] at h1; omega
      ·obtain ⟨i,hi,rfl⟩:=zc7 hx;have:=hbad i _ (gE hi);unfold bV at this;simp only[Bool.or_eq_false_iff,Bool.not_eq_false',decide_eq_false_iff_not,ne_eq,Decidable.not_not] at this;obtain ⟨⟨g1,g2⟩,_⟩:=this;obtain ⟨d,hd⟩:=zh8.1 g1;rw[hd] at g2;exact⟨d,hd,g2⟩
      ·have:=hbad (i+1) y hy;unfold bV at this;rw[show i+1 - 1=i by omega,hx] at this;simp[e] at this
      ·have:=zk6.1 ((zj7 _).mp h4) x hx;simp[bM] at this;by_cases h6:x.sign=1
       ·exact .inl h6
       ·exact .inr (this h6)
      ·simpa [hd] using h5
structure Rt (l:List Cl):Prop where
 few:l.length≤4000
 asc:l.Pairwise fun a b=>a.id<b.id
 pos:∀ x∈l,0<x.id
 form:∀ x∈l,Fm l x
 around:∀ x∈l,x.dim>1→dp l x=0
theorem Rt.canon {l:List Cl}(h:Rt l):aa l=l:=by
 unfold aa;rw[(cB (key:=Cl.id) (h.asc.imp fun h=>by omega) (aA.refl l)).symm];have:∀ c∈l,bP c=c:=fun c hc=>by
  unfold bP;rw[(cB (key:=Side.cell) ((h.form c hc).asc.imp fun h=>by omega) (aA.refl c.sides)).symm]
 rw[zc8 this];simp
theorem Rt.tab {l:List Cl}(h:Rt l):ak l=l:=by rw[bG (by rw[h.canon]; exact h.asc),h.canon]
theorem Rt.check {l:List Cl}(h:Rt l):aG l=(0,0):=by
 refine yT h.few ?_ ?_ ?_ ?_ <;> rw[h.canon]
 ·exact h.pos
 ·exact h.asc
 ·exact fun x hx=>(h.form x hx).ok
 ·exact h.around
theorem Rt.find {l:List Cl}(h:Rt l){c:Cl}(hc:c∈l):am l c.id=some c:=by
 refine oD ?_ hc;rw[List.Nodup,zk5];exact h.asc.imp fun h=>by omega
theorem lk {tl:List Cl}:∀ {l:List Cl},oS tl l=none→∀ x∈l,x.dim>1→dp tl x=0
 | [],_,x,hx,_=>by simp at hx
 | y::r,h,x,hx,hd=>by
  unfold oS at h;split at h
  ·cases h
  ·rename_i hn
   rcases zf1.1 hx with rfl | hx
   ·exact zg9 fun h=>hn ⟨hd,h⟩
   ·exact lk h x hx hd
theorem uN {tl:List Cl}:∀ {l:List Cl} {p:Int×Int},oS tl l=some p→p.2≠0
 | [],_,h=>by cases h
 | y::r,p,h=>by
  unfold oS at h;split at h
  ·rename_i hn; cases h; exact hn.2
  ·exact uN h
theorem qA (l:List Cl):∀ c∈aa l,c.sides.Pairwise fun a b=>a.cell≤b.cell:=fun c hc=>by
 obtain ⟨d,_,rfl⟩:=zf2.1 hc;exact ck d.sides
theorem iL {l:List Cl}(h:(aG l).2=0):Rt (aa l):=by
 have h1:=l5 h;obtain ⟨h2,h3,h4⟩:=cR h1;have ht:=bG h2;have h5:l.length≤4000:=CQ h;refine⟨by rw[aB]; exact h5,h2,h3,fun x hx=>F9 (by rw[← ht]; exact h4 x hx) (qA l x hx),?_⟩;have h6:oS (ak l) (aa l)=none:=by
  unfold aG at h;rw[zf9 oM,h1] at h;cases hc:oS (ak l) (aa l) with
  | none=>rfl
  | some p =>
   rw[hc] at h;exact absurd h (uN hc)
 rw[ht] at h6;exact lk h6
theorem iW {l m:List Int}(h:l.Perm m):l.sum=m.sum:=by
 induction h with
 | nil=>rfl
 | cons x _ ih=>simp[ih]
 | swap x y l=>simp; omega
 | trans _ _ ih1 ih2=>exact ih1.trans ih2
theorem Cd {l m:List Nat}(h:l.Perm m):l.sum=m.sum:=by
 induction h with
 | nil=>rfl
 | cons x _ ih=>simp[ih]
 | swap x y l=>simp; omega
 | trans _ _ ih1 ih2=>exact ih1.trans ih2
theorem dj {α:Type}{key:α→Int}(l:List α):(sortBy key l).Perm l:=by
 have hi:∀ (x:α) (l:List α),(ins key x l).Perm (x::l):=by
  intro x l;induction l with
  | nil=>exact .refl _
  | cons y r ih =>
   unfold ins;split
   ·exact .refl _
   ·exact (ih.cons y).trans (.swap x y r)
 induction l with
 | nil=>exact .refl _
 | cons x r ih=>exact (hi x _).trans (ih.cons x)
def inner (tl:List Cl)(x:Side)(r:Int):Int:=((aM tl x).map fun q=>if q.cell=r then x.sign * q.sign else 0).sum
theorem kM (tl:List Cl)(l:List Side)(r:Int):vQ tl l r=(l.map fun x=>inner tl x r).sum:=by
 unfold vQ;induction l with
 | nil=>rfl
 | cons x q ih=>simp only[zh5,List.sum_append,zg4,List.sum_cons,ih]; rfl
theorem BL {tl:List Cl}{l m:List Side}(h:l.Perm m)(r:Int):vQ tl l r=vQ tl m r:=by
 rw[kM,kM];exact iW (h.map _)
theorem CP {tl:List Cl}{l m:List Side}(h:l.Perm m)(r:Int):xP tl l r=xP tl m r:=Cd (h.map _)
def sgn (b:Bool):Int:=if b then -1 else 1
theorem uu (b:Bool){a:Int}(h:a=1∨a = -1):vu b a=sgn b * a∧(vu b a=1∨vu b a = -1):=by
 rcases h with rfl | rfl <;> cases b <;> exact⟨by decide,by decide⟩
theorem mo {α:Type}{l:List α}{f g:α→Int}{K:Int}(h:∀ x∈l,f x=K * g x):(l.map f).sum=K * (l.map g).sum:=by
 induction l with
 | nil=>simp
 | cons x r ih =>
  simp only[zg4,List.sum_cons];rw[h x (by simp),ih fun y hy=>h y (by simp[hy]),Int.mul_add]
structure Nm (l:List Cl)(k:Int):Prop where
 inj:∀ a∈l,∀ b∈l,eS a.id k=eS b.id k→a=b
 pos:∀ a∈l,0<eS a.id k
section
variable {l:List Cl}(h:Rt l){k:Int}(hn:Nm l k)(t:Int)
include h hn
omit hn in
theorem gD (c:Cl)(hc:c∈l){x:Side}(hx:x∈c.sides):∃ d∈l,d.id=x.cell∧am l x.cell=some d∧d.dim=c.dim - 1:=by
 obtain ⟨d,hd,hdd⟩:=(h.form c hc).found x hx;obtain ⟨h1,h2⟩:=cw hd;exact⟨d,h1,h2,hd,hdd⟩
theorem Fy:((l.map (aO k t)).map Cl.id).Nodup:=by
 rw[zi5,List.Nodup,zk5];refine List.Pairwise.imp_of_mem ?_ h.asc;intro a b ha hb hlt e;have:=hn.inj a ha b hb e;subst this;omega
theorem ur:((aa (l.map (aO k t))).map Cl.id).Nodup:=by
 have h1:=Fy h hn t;have h2:((aa (l.map (aO k t))).map Cl.id).Perm ((l.map (aO k t)).map Cl.id):=by
  rw[r6];exact (dj _).map _
 exact h2.symm.nodup h1
omit h hn in
theorem Fx {c:Cl}(hc:c∈l):bP (aO k t c)∈aa (l.map (aO k t)) :=
 zf2.2 ⟨_,(i9 _ _).2 (zf2.2 ⟨c,hc,rfl⟩),rfl⟩
omit h hn in
theorem sn {c':Cl}(hc:c'∈aa (l.map (aO k t))):∃ c∈l,c'=bP (aO k t c):=by
 obtain ⟨d,hd,rfl⟩:=zf2.1 hc;obtain ⟨c,hc',rfl⟩:=zf2.1 ((i9 _ _).1 hd);exact⟨c,hc',I⟩
theorem ox {c:Cl}(hc:c∈l):am (aa (l.map (aO k t))) (eS c.id k)=some (bP (aO k t c)) :=
 oD (x:=bP (aO k t c)) (ur h hn t) (Fx t hc)
omit h hn in
theorem fk (c:Cl):(bP (aO k t c)).sides.Perm (c.sides.map (bA k t c)):=dj _
omit hn in
theorem ow {c:Cl}(hc:c∈l){x:Side}(hx:x∈c.sides):(bA k t c x).sign=sgn (ju t c x.cell) * (sgn (jL t c) * x.sign)∧((bA k t c x).sign=1∨(bA k t c x).sign = -1):=by
 have h1:=uu (jL t c) ((h.form c hc).sg x hx);have h2:=uu (ju t c x.cell) h1.2;exact⟨by rw[← h1.1]; exact h2.1,h2.2⟩
theorem ya {c:Cl}(hc:c∈l):Fm (aa (l.map (aO k t))) (bP (aO k t c)):=by
 have hf:=h.form c hc;have hlen:(bP (aO k t c)).sides.length=c.sides.length:=by rw[(fk t c).length_eq,ze6]
 have hmem:∀ x',x'∈(bP (aO k t c)).sides↔∃ x∈c.sides,bA k t c x=x':=fun x'=>by rw[(fk t c).mem_iff,zf2]
 refine⟨hf.dim,?_,fun x' hx'=>?_,?_,fun x' hx'=>?_,fun hd=>?_⟩
 ·have:=hf.cnt;unfold aR at this ⊢;rw[hlen];exact this
 ·obtain ⟨x,hx,rfl⟩:=(hmem x').1 hx';obtain ⟨d,hd,hid,_,hdd⟩:=gD h c hc hx;have:=ox h hn t hd;rw[hid] at this;exact⟨_,this,hdd⟩
 ·have h1:(bP (aO k t c)).sides.Pairwise fun a b=>a.cell≤b.cell:=ck _;have h2:((bP (aO k t c)).sides.map Side.cell).Nodup:=by
   refine ((fk t c).map Side.cell).symm.nodup ?_;rw[zi5,List.Nodup,zk5];refine List.Pairwise.imp_of_mem ?_ hf.asc;intro a b ha hb hlt e;obtain ⟨d,hd,hid,_⟩:=gD h c hc ha;obtain ⟨d',hd',hid',_⟩:=gD h c hc hb;have e:eS a.cell k=eS b.cell k:=e;rw[← hid,← hid'] at e;have:=hn.inj d hd d' hd' e;subst this;omega
  rw[List.Nodup,zk5] at h2;exact (h1.and h2).imp fun ⟨h3,h4⟩=>by omega
 ·obtain ⟨x,hx,rfl⟩:=(hmem x').1 hx';exact (ow h t hc hx).2
 ·have hd:c.dim=1:=hd;have h1:=hf.one hd;unfold mf at h1 ⊢;rw[iW ((fk t c).map Side.sign),zi5];rw[mo (g:=Side.sign) (K:=sgn (jL t c)) fun x hx=>?_,h1,Int.mul_zero];have h2:=(ow (k:=k) h t hc hx).1;have h3:ju t c x.cell=false:=by unfold ju; simp[hd]
  rw[h3] at h2;show (bA k t c x).sign=_;rw[h2];unfold sgn;simp
theorem sG {c:Cl}(hc:c∈l){x:Side}(hx:x∈c.sides){e:Cl}(he:e∈l):qE (aa (l.map (aO k t))) (bA k t c x) (eS e.id k)=qE l x e.id:=by
 obtain ⟨d,hd,hid,hfd,_⟩:=gD h c hc hx;unfold qE aM;rw[hfd,show (bA k t c x).cell=eS d.id k by rw[hid]; rfl,ox h hn t hd];show ((bP (aO k t d)).sides.filter _).length=_;rw[((fk t d).filter _).length_eq,List.filter_map,ze6];congr 1;refine List.filter_congr fun q hq=>?_;obtain ⟨u,hu,hui,_⟩:=gD h d hd hq;show decide (eS q.cell k=eS e.id k)=decide (q.cell=e.id);rw[decide_eq_decide,← hui];by_cases hue:u=e
 ·subst hue; simp
 ·have h1:¬ eS u.id k=eS e.id k:=fun e'=>hue (hn.inj u hu e he e');have h2:¬ u.id=e.id:=fun e'=>hue (by have a1:=h.find hu; have a2:=h.find he; rw[e',a2] at a1; injection a1 with a1; exact a1.symm);simp[h1,h2]
theorem qg {c:Cl}(hc:c∈l){x:Side}(hx:x∈c.sides){r:Int}(hr:∀ e∈l,eS e.id k≠r):qE (aa (l.map (aO k t))) (bA k t c x) r=0:=by
 obtain ⟨d,hd,hid,hfd,_⟩:=gD h c hc hx;unfold qE aM;rw[show (bA k t c x).cell=eS d.id k by rw[hid]; rfl,ox h hn t hd];show ((bP (aO k t d)).sides.filter _).length=_;rw[((fk t d).filter _).length_eq,List.length_eq_zero_iff,List.filter_eq_nil_iff];intro q' hq';obtain ⟨q,hq,rfl⟩:=zf2.1 hq';obtain ⟨u,hu,hui,_⟩:=gD h d hd hq;have:=hr u hu;rw[hui] at this;show ¬ decide (eS q.cell k=r)=true;simpa using this
theorem B9 {c:Cl}(hc:c∈l)(hd1:c.dim>1){x:Side}(hx:x∈c.sides){e:Cl}(he:e∈l) :
  inner (aa (l.map (aO k t))) (bA k t c x) (eS e.id k)=sgn (jL t c) * sgn ((decide (t>1)&&decide (c.dim - 1>1))&&decide (e.id.tmod t=1)) * inner l x e.id:=by
 obtain ⟨d,hd,hid,hfd,hdd⟩:=gD h c hc hx;have hsx:=(ow (k:=k) h t hc hx).1;unfold inner aM;rw[hfd,show (bA k t c x).cell=eS d.id k by rw[hid]; rfl,ox h hn t hd];show ((bP (aO k t d)).sides.map _).sum=_;rw[iW ((fk t d).map _),zi5];show _=_ * (d.sides.map _).sum;refine mo fun q hq=>?_;obtain ⟨u,hu,hui,_⟩:=gD h d hd hq;have hsq:=(ow (k:=k) h t hd hq).1;simp only[Function.comp_def];show (if eS q.cell k=eS e.id k then (bA k t c x).sign * (bA k t d q).sign else 0)=_;by_cases hue:u=e
 ·subst hue;rw[hui,zg1 rfl,zg1 rfl,hsx,hsq];have h1:ju t c x.cell=jL t d:=by
   unfold ju jL;rw[hid];simp[hd1]
  have h2:ju t d q.cell=((decide (t>1)&&decide (c.dim - 1>1))&&decide (q.cell.tmod t=1)):=by
   unfold ju;rw[hdd]
  rw[h1,h2];generalize jL t d=b1;generalize jL t c=b2;generalize ((decide (t>1)&&decide (c.dim - 1>1))&&decide (q.cell.tmod t=1))=b3;cases b1 <;> cases b2 <;> cases b3 <;> simp[sgn,Int.neg_mul,Int.mul_neg]
 ·have h1:¬ eS q.cell k=eS e.id k:=fun e'=>hue (hn.inj u hu e he (by rw[hui]; exact e'));have h2:¬ q.cell=e.id:=fun e'=>hue (by have a1:=h.find hu; have a2:=h.find he; rw[hui,e',a2] at a1; injection a1 with a1; exact a1.symm);rw[zf9 h1,zf9 h2,Int.mul_zero]
omit h hn in
theorem DW {tl:List Cl}{x:Side}{r:Int}(h0:qE tl x r=0):inner tl x r=0:=by
 unfold qE at h0;rw[List.length_eq_zero_iff,List.filter_eq_nil_iff] at h0;unfold inner;have:((aM tl x).map fun q=>if q.cell=r then x.sign * q.sign else 0)=(aM tl x).map fun _=>(0:Int):=zc8 fun q hq=>zf9 (by simpa using h0 q hq);rw[this];generalize aM tl x=m;induction m with
 | nil=>rfl
 | cons a b ih=>simpa using ih
theorem zK {c:Cl}(hc:c∈l)(hd1:c.dim>1):dp (aa (l.map (aO k t))) (bP (aO k t c))=0:=by
 have hf:=h.form c hc;have hf':=ya h hn t hc;have hn0:0<c.sides.length:=by
  have:=hf.cnt;simp[aR] at this;have:=this.2 hd1;omega
 have hlen:(bP (aO k t c)).sides.length=c.sides.length:=by rw[(fk t c).length_eq,ze6]
 have nd:∀ {c:Cl},(c.sides.Pairwise fun a b=>a.cell<b.cell)→(c.sides.map Side.cell).Nodup:=fun h=>by
  rw[List.Nodup,zk5];exact h.imp fun h=>by omega
 obtain ⟨a1,a2,a3⟩:=(nD hn0 (nd hf.asc)).1 (h.around c hc hd1);refine (nD (by rw[hlen]; exact hn0) (nd hf'.asc)).2 ⟨fun r=>?_,fun r=>?_,fun x' hx' y' hy'=>?_⟩
 ·rw[BL (fk t c),kM,zi5];simp only[Function.comp_def];by_cases hr:∃ e∈l,eS e.id k=r
  ·obtain ⟨e,he,rfl⟩:=hr;have h1:=a1 e.id;rw[kM] at h1;rw[mo (g:=fun x=>inner l x e.id) (K:=sgn (jL t c) * sgn ((decide (t>1)&&decide (c.dim - 1>1))&&decide (e.id.tmod t=1))) fun x hx=>B9 h hn t hc hd1 hx he,h1,Int.mul_zero]
  ·have hr:∀ e∈l,eS e.id k≠r:=fun e he e'=>hr ⟨e,he,e'⟩;rw[mo (g:=fun _=>(0:Int)) (K:=0) fun x hx=>by
    rw[DW (qg h hn t hc hx hr)];rfl,Int.zero_mul]
 ·rw[CP (fk t c)];unfold xP;rw[zi5];simp only[Function.comp_def];by_cases hr:∃ e∈l,eS e.id k=r
  ·obtain ⟨e,he,rfl⟩:=hr;have h1:=a2 e.id;unfold xP at h1;rw[zc8 (g:=fun x=>qE l x e.id) fun x hx=>sG h hn t hc hx he];exact h1
  ·have hr:∀ e∈l,eS e.id k≠r:=fun e he e'=>hr ⟨e,he,e'⟩;left;rw[zc8 (g:=fun _=>0) fun x hx=>qg h hn t hc hx hr];generalize c.sides=m;induction m with
   | nil=>rfl
   | cons a b ih=>simpa using ih
 ·have hmem:∀ x',x'∈(bP (aO k t c)).sides↔x'∈c.sides.map (bA k t c):=fun x'=>(fk t c).mem_iff;obtain ⟨x,hx,rfl⟩:=zf2.1 ((hmem x').1 hx');obtain ⟨y,hy,rfl⟩:=zf2.1 ((hmem y').1 hy');have hm:∀ x∈c.sides,bA k t c x∈(bP (aO k t c)).sides:=fun x hx=>(hmem _).2 (zf2.2 ⟨x,hx,rfl⟩);refine (a3 x hx y hy).map (f:=fun a=>eS a k) fun a b=>?_;rintro ⟨u,hu,v,hv,rfl,rfl,r,h1,h2⟩;obtain ⟨du,hdu,hidu,hfu,_⟩:=gD h c hc hu;have hr:∃ e∈l,e.id=r:=by
   unfold qE aM at h1;rw[hfu] at h1;obtain ⟨q,hq⟩:=List.exists_mem_of_length_pos h1;obtain ⟨hq1,hq2⟩:=zh4.1 hq;obtain ⟨e,he,hei,_⟩:=gD h du hdu (x:=q) hq1;exact⟨e,he,by rw[hei]; simpa using hq2⟩
  obtain ⟨e,he,rfl⟩:=hr;exact .one ⟨_,hm u hu,_,hm v hv,I,I,eS e.id k,by rw[sG h hn t hc hu he]; exact h1,by rw[sG h hn t hc hv he]; exact h2⟩
theorem B8:Rt (aa (l.map (aO k t))):=by
 refine⟨by rw[aB,ze6]; exact h.few,?_,fun x' hx'=>?_,fun x' hx'=>?_,fun x' hx' hd=>?_⟩
 ·have h1:=jJ (l.map (aO k t));have h2:=ur h hn t;rw[zk5] at h1;rw[List.Nodup,zk5] at h2;exact (h1.and h2).imp fun ⟨h3,h4⟩=>by omega
 ·obtain ⟨c,hc,rfl⟩:=sn t hx';exact hn.pos c hc
 ·obtain ⟨c,hc,rfl⟩:=sn t hx';exact ya h hn t hc
 ·obtain ⟨c,hc,rfl⟩:=sn t hx';exact zK h hn t hc hd
end
def Bd (l:List Cl):Prop:=∀ c∈l,c.id≤l.length
theorem AZ (ls:List (List Int)):Rt (dg ls)∧Bd (dg ls):=by
 have h1:=iL (l:=dg ls) (by rw[wH]);have h2:aa (dg ls)=dg ls:=by
  unfold dg;cases be [] ls with
  | none=>rfl
  | some all=>exact fL _
 rw[h2] at h1;refine⟨h1,?_⟩;unfold dg;cases h:be [] ls with
 | none=>intro c hc; simp at hc
 | some all =>
  obtain ⟨hg,_⟩:=iw ls [] h iD.nil (by simp);dsimp only;rw[hg.cells];intro c hc;obtain ⟨s,hs,rfl⟩:=zf2.1 hc;have:=(zf5.1 (hg.get_lb hs)).1;show ixC all s≤_;unfold ixC;rw[ze6];omega
theorem EJ {l:List Int}{x:Int}(h:x∈l):lbI l x<l.length:=by
 unfold lbI;induction l with
 | nil=>simp at h
 | cons a r ih =>
  rw[zi7]
  rcases zf1.1 h with rfl | h
  ·have:=zc5 (fun y=>decide (y<x)) r;simp;omega
  ·have:=ih h;split
   ·simp only[ze8]; omega
   ·simp only[ze8]; omega
theorem vU (a b:List Cl):Rt (cM a b)∧Bd (cM a b)∧(cM a b).length≤a.length * b.length:=by
 rw[DF];unfold E8;split
 ·exact⟨⟨by simp,List.Pairwise.nil,by simp,by simp,by simp⟩,fun c hc=>by simp at hc,by simp⟩
 ·rename_i hbad;split
  ·rename_i hok;have hlen:(aa (dN a b)).length=a.length * b.length:=by
    rw[aB];unfold dN;rw[jz,aB,aB]
   refine⟨iL hok,fun c hc=>?_,by rw[hlen]; exact lR _⟩;rw[hlen];obtain ⟨h1,h2,_⟩:=zN (by simpa using hbad);have ta:=bG (cR (l5 h1)).1;have tb:=bG (cR (l5 h2)).1;obtain ⟨d,hd,rfl⟩:=zf2.1 hc;have hd:=(i9 _ _).1 hd;unfold dN at hd;rw[ta,tb] at hd;obtain ⟨x,hx,hd⟩:=List.mem_flatMap.1 hd;obtain ⟨y,hy,rfl⟩:=zf2.1 hd;have l1:=EJ (zf2.2 ⟨x,hx,rfl⟩:x.id∈(aa a).map Cl.id);have l2:=EJ (zf2.2 ⟨y,hy,rfl⟩:y.id∈(aa b).map Cl.id);rw[ze6,aB] at l1 l2;show bg (aa a) (aa b) x.id y.id≤_;unfold bg;rw[aB];have h3:(lbI ((aa a).map Cl.id) x.id+1) * b.length≤a.length * b.length:=Nat.mul_le_mul_right _ l1;rw[Nat.succ_mul] at h3;have h4:((lbI ((aa a).map Cl.id) x.id * b.length:Nat):Int)=(lbI ((aa a).map Cl.id) x.id:Int) * (b.length:Int):=Int.natCast_mul _ _;rw[← h4];omega
  ·exact⟨⟨by simp,List.Pairwise.nil,by simp,by simp,by simp⟩,fun c hc=>by simp at hc,by simp⟩
theorem zP:∀ n,n<7→2≤n→(aG (wU n)).2=0∧∀ c∈wU n,c.id≤90:=by decide +kernel
theorem ly:∀ (ls acc:List (List Int)) {all:List (List Int)},be acc ls=some all→(∀ x∈ls,x.length≤2)→all.length≤acc.length+3 * ls.length
 | [],acc,all,h,_=>by cases h; simp
 | s::r,acc,all,h,hl=>by
  have hs:=hl s (by simp);have h3:(dA s).length≤s.length:=by
   unfold dA;exact zk8 (lr _ _) (by rw[ff]; exact lR _)
  simp only[ze8];unfold be at h;split at h
  ·have:=ly r acc h fun x hx=>hl x (by simp[hx]);omega
  ·split at h
   ·cases h
   ·have h1:=ly r _ h fun x hx=>hl x (by simp[hx]);have h2:(eO acc (dA s)).length≤acc.length+3:=by
     unfold eO;refine zk8 (lr _ _) ?_;rw[(i8 _).length_eq,ze5];have:2 ^ (dA s).length≤2 ^ 2:=Nat.pow_le_pow_right dC oM;simp[bU];omega
    omega
theorem rY:(dg [[0,1],[1,2],[0,2]]).length≤9:=by
 unfold dg;cases h:be [] [[0,1],[1,2],[0,2]] with
 | none=>simp
 | some all =>
  have:=ly _ _ h dC;dsimp only;rw[aB,bT];simpa using this
theorem A4 (m:Int)(ls:List (List Int))(y:Int):Rt (tq (td m ls y))∧∀ c∈tq (td m ls y),c.id≤90:=by
 have key:∀ l:List Cl,Rt l→(l.length≤45→∀ c∈l,c.id≤90)→Rt (tq l)∧∀ c∈tq l,c.id≤90:=by
  intro l h1 h2;unfold tq;split
  ·have h3:=vU (dg [[0,1],[1,2],[0,2]]) (dg [[0,1],[1,2],[0,2]]);refine⟨h3.1,fun c hc=>?_⟩;have h4:=h3.2.1 c hc;have h5:=h3.2.2;have h6:qP.length≤9 * 9:=zk8 h5 (Nat.mul_le_mul rY rY);have h7:c.id≤qP.length:=h4;omega
  ·exact⟨h1,h2 oM⟩
 have hS:∀ ls,Rt (tq (dg ls))∧∀ c∈tq (dg ls),c.id≤90:=fun ls=>key _ (AZ ls).1 fun hl c hc=>by have:=(AZ ls).2 c hc; omega
 have hP:∀ a b,Rt (tq (cM a b))∧∀ c∈tq (cM a b),c.id≤90:=fun a b=>key _ (vU a b).1 fun hl c hc=>by have:=(vU a b).2.1 c hc; omega
 have h5:=dD y 5 dC dC;unfold td
 repeat' split
 ·exact hS _
 ·exact hP _ _
 ·have h6:=zP (2+co y 5).toNat oM oM;have h7:=iL h6.1;rw[show aa (wU (2+co y 5).toNat)=wU (2+co y 5).toNat from fL _] at h7;exact key _ h7 fun _=>h6.2
 ·exact hP _ _
 ·exact hS _
 ·exact hS _
theorem FI:∀ k∈[1,3,5],∀ a,a<91→∀ b,b<91→eS (a:Nat) k=eS (b:Nat) k→a=b:=by decide +kernel
theorem FH:∀ k∈[1,3,5],∀ a,a<91→0<a→0<eS (a:Nat) k:=by decide +kernel
theorem zX (kd:Int)(ls:List (List Int))(y:Int):Rt (xg kd ls y):=by
 obtain ⟨h1,h2⟩:=A4 (co kd 8) ls y;have hk:AH y∈[(1:Int),3,5]:=by
  have:=dD (IntKind.i64.wrap (y.tdiv 7)) 3 dC dC;unfold AH;generalize co (IntKind.i64.wrap (y.tdiv 7)) 3=q at *
  rcases (by omega:q=0∨q=1∨q=2) with rfl | rfl | rfl <;> decide
 refine B8 h1 ⟨fun a ha b hb e=>?_,fun a ha=>?_⟩ _
 ·have p1:=h1.pos a ha;have p2:=h1.pos b hb;have q1:=h2 a ha;have q2:=h2 b hb;have e1:((a.id.toNat:Nat):Int)=a.id:=Int.toNat_of_nonneg oM;have e2:((b.id.toNat:Nat):Int)=b.id:=Int.toNat_of_nonneg oM;have:=FI _ hk a.id.toNat oM b.id.toNat oM (by rw[e1,e2]; exact e);have hid:a.id=b.id:=oM;have f1:=h1.find ha;have f2:=h1.find hb;rw[hid,f2] at f1;injection f1 with f1
  exact f1.symm
 ·have p1:=h1.pos a ha;have q1:=h2 a ha;have e1:((a.id.toNat:Nat):Int)=a.id:=Int.toNat_of_nonneg oM;have:=FH _ hk a.id.toNat oM oM;rw[e1] at this;exact this
theorem Gr:∀ k∈[1,3,5],∀ a,a<91→eS (a:Nat) k≤300:=by decide +kernel
theorem DQ (kd:Int)(ls:List (List Int))(y:Int):∀ c∈xg kd ls y,bw c.id:=by
 intro c hc;have h0:=(zX kd ls y).pos c hc;obtain ⟨h1,h2⟩:=A4 (co kd 8) ls y;have hk:AH y∈[(1:Int),3,5]:=by
  have:=dD (IntKind.i64.wrap (y.tdiv 7)) 3 dC dC;unfold AH;generalize co (IntKind.i64.wrap (y.tdiv 7)) 3=q at *
  rcases (by omega:q=0∨q=1∨q=2) with rfl | rfl | rfl <;> decide
 obtain ⟨a,ha,rfl⟩:=sn (FZ y) hc;have p1:=h1.pos a ha;have q1:=h2 a ha;have e1:((a.id.toNat:Nat):Int)=a.id:=Int.toNat_of_nonneg oM;have:=Gr _ hk a.id.toNat oM;rw[e1] at this;have h3:(bP (aO (AH y) (FZ y) a)).id=eS a.id (AH y):=rfl;rw[h3] at h0 ⊢;unfold bw;omega
def part (l:List Cl)(p:Int→Bool):List Cl:=l.filter fun c=>p c.id
theorem Rt.same {l:List Cl}(h:Rt l){a b:Cl}(ha:a∈l)(hb:b∈l)(e:a.id=b.id):a=b:=by
 have f1:=h.find ha;have f2:=h.find hb;rw[e,f2] at f1;injection f1 with f1
 exact f1.symm
set_option maxHeartbeats 1000000
def ShC (a b:Cl):Prop:=a.id=b.id∧a.dim=b.dim∧a.sides.Perm b.sides
def ShL (l m:List Cl):Prop:=∃ l1:List Cl,l1.Perm l∧aF ShC l1 m
end Go.Proofs.YtbbppeihhkhkcaaGreatDoor
namespace Go.Sy
open Go
structure Md where
 ro:Option Nat
 ds:List Deferred
def wf (ro:Option Nat):Fence:={ fn:=fun _=>True,depth:=none,alive:=false,round:=ro }
def ld (a:Act):Act:={ a with defers:=[] }
theorem pG (a:Act):(ld a).eval=a.eval:=by funext x; cases x <;> rfl
theorem El (a:Act)(d:Option Tmp)(v:Value):ld (a.put d v)=(ld a).put d v:=by cases d <;> rfl
theorem rK (a:Act)(d:Option Tmp)(v:Value):(a.put d v).defers=a.defers:=by cases d <;> rfl
def Okd (ds:List Deferred)(N:Nat)(f:Fr)(a:Act):Prop:=a.defers=ds∧Ok N f (ld a)
section
variable {P:Program}{M:Md}{N:Nat}{E:World}{Q:Exit→Act→World→Prop}{f f':Fr}{g g':PH}{s s':Own}{ops:Array Oper}
theorem Okd.put {ds:List Deferred}{a:Act}(h:Okd ds N f a){d:Nat}(hlt:d<N)(v:Value):Okd ds N ((d,v)::f) (a.put (some d) v):=⟨h.1,by rw[El]; exact h.2.put hlt v⟩
theorem Okd.sub {ds:List Deferred}{a:Act}(h:Okd ds N f a)(hs:Sub f' f):Okd ds N f' a:=⟨h.1,h.2.sub hs⟩
theorem Okd.ev {ds:List Deferred}{a:Act}(h:Okd ds N f a){x:Operand}{v:Value}(hx:Sy.ev f x=some v):a.eval x=v:=by rw[← pG]; exact h.2.ev hx
def XC (P:Program)(M:Md)(N:Nat)(E:World)(c:Code)(Q:Exit→Act→World→Prop)(f:Fr)(g:PH)(s:Own):Prop:=∀ a w,Okd M.ds N f a→At E g s w→c.wpIn (wf M.ro) 0 P Q a w
def XT (M:Md)(N:Nat)(E:World)(Q:Exit→Act→World→Prop)(e:Exit)(f:Fr)(g:PH)(s:Own):Prop:=∀ a w,Okd M.ds N f a→At E g s w→Q e a w
def XL (P:Program)(M:Md)(N:Nat)(E:World)(ops:Array Oper)(Q:Exit→Act→World→Prop)(l:List Oper)(f:Fr)(g:PH)(s:Own):Prop:=∀ a w,Okd M.ds N f a→At E g s w→wpListIn (wf M.ro) 0 P ops Q l a w
def XO (P:Program)(M:Md)(N:Nat)(E:World)(o:Oper)(f:Fr)(g:PH)(s:Own)(K:Value→PH→Own→Prop):Prop :=
 ∀ a w,Okd M.ds N f a→At E g s w→∀ (Q:Exit→Act→World→Prop) (next:Act→World→Prop),
  (∀ v g' s' w',K v g' s'→At E g' s' w'→next (a.put o.dst v) w')→o.wpIn (wf M.ro) 0 P a w next Q
theorem XC.to {c:Code}(h:∀ w,At E g s w→At E g' s' w)(hc:XC P M N E c Q f g' s'):XC P M N E c Q f g s:=fun a w ha hw=>hc a w ha (h w hw)
theorem XT.drop {e:Exit}(hs:s'.Sublist s)(h:XT M N E Q e f g s'):XT M N E Q e f g s:=fun a w ha hw=>h a w ha (hw.sublist hs)
theorem XT.to {e:Exit}(h:∀ w,At E g s w→At E g' s' w)(hc:XT M N E Q e f g' s'):XT M N E Q e f g s:=fun a w ha hw=>hc a w ha (h w hw)
theorem XL.to {l:List Oper}(h:∀ w,At E g s w→At E g' s' w)(hc:XL P M N E ops Q l f g' s'):XL P M N E ops Q l f g s:=fun a w ha hw=>hc a w ha (h w hw)
theorem XC.facts {c:Code}(h:(∃ w,At E g s w)→XC P M N E c Q f g s):XC P M N E c Q f g s:=fun a w ha hw=>h ⟨w,hw⟩ a w ha hw
theorem XL.facts {l:List Oper}(h:(∃ w,At E g s w)→XL P M N E ops Q l f g s):XL P M N E ops Q l f g s:=fun a w ha hw=>h ⟨w,hw⟩ a w ha hw
theorem XT.facts {e:Exit}(h:(∃ w,At E g s w)→XT M N E Q e f g s):XT M N E Q e f g s:=fun a w ha hw=>h ⟨w,hw⟩ a w ha hw
theorem XC.skip (h:XT M N E Q .normal f g s):XC P M N E .skip Q f g s:=fun a w ha hw=>wpIn_skip (h a w ha hw)
theorem XC.ret (h:XT M N E Q .ret f g s):XC P M N E .ret Q f g s:=fun a w ha hw=>wpIn_ret (h a w ha hw)
theorem XC.exit {id:Nat}(h:XT M N E Q (.exit id) f g s):XC P M N E (.exit id) Q f g s:=fun a w ha hw=>wpIn_exit (h a w ha hw)
theorem XC.seq {x y:Code}(h:XC P M N E x (Exit.then (y.wpIn (wf M.ro) 0 P Q) Q) f g s):XC P M N E (.seq x y) Q f g s:=fun a w ha hw=>wpIn_seq (h a w ha hw)
theorem XC.block {id:Nat}{c:Code}(h:XC P M N E c (Exit.inBlock id Q) f g s):XC P M N E (.block id c) Q f g s:=fun a w ha hw=>wpIn_block (h a w ha hw)
theorem XC.cond {c:Operand}{x y:Code}{t:Bool}(hc:ev f c=some (.bool t))(h:XC P M N E (if t then x else y) Q f g s):XC P M N E (.cond c x y) Q f g s :=
 fun a w ha hw=>wpIn_cond (ha.ev hc) (h a w ha hw)
theorem XC.condT {c:Operand}{x y:Code}(hc:ev f c=some (.bool true))(h:XC P M N E x Q f g s):XC P M N E (.cond c x y) Q f g s:=XC.cond hc h
theorem XC.condF {c:Operand}{x y:Code}(hc:ev f c=some (.bool false))(h:XC P M N E y Q f g s):XC P M N E (.cond c x y) Q f g s:=XC.cond hc h
theorem XC.ifB {c:Operand}{x y:Code}{t:Bool}(hc:ev f c=some (.bool t))(h1:t=true→XC P M N E x Q f g s)(h2:t=false→XC P M N E y Q f g s) :
  XC P M N E (.cond c x y) Q f g s:=by
 cases t
 ·exact XC.condF hc (h2 I)
 ·exact XC.condT hc (h1 I)
theorem XC.ifP {c:Operand}{x y:Code}{p:Prop}[Decidable p](hc:ev f c=some (.bool (decide p)))(h1:p→XC P M N E x Q f g s)(h2:¬ p→XC P M N E y Q f g s) :
  XC P M N E (.cond c x y) Q f g s :=
 XC.ifB hc (fun h=>h1 (zg3 h)) (fun h=>h2 (of_decide_eq_false h))
theorem XT.thenN {c:Code}(h:XC P M N E c Q f g s):XT M N E (Exit.then (c.wpIn (wf M.ro) 0 P Q) Q) .normal f g s:=h
theorem XT.thenX {K:Act→World→Prop}{id:Nat}(h:XT M N E Q (.exit id) f g s):XT M N E (Exit.then K Q) (.exit id) f g s:=h
theorem XT.blockN {id:Nat}(h:XT M N E Q .normal f g s):XT M N E (Exit.inBlock id Q) .normal f g s:=h
theorem XT.blockX {id:Nat}(h:XT M N E Q .normal f g s):XT M N E (Exit.inBlock id Q) (.exit id) f g s:=fun a w ha hw=>by simpa [Exit.inBlock] using h a w ha hw
def EW {ι:Type}(ds:List Deferred)(N:Nat)(E:World)(F:ι→Fr)(G:ι→PH)(S:ι→Own)(J:ι→Prop)(μ:ι→Nat)(i:ι)(a:Act)(w:World):Prop :=
 ∃ j,Okd ds N (F j) a∧At E (G j) (S j) w∧J j∧μ j<μ i
theorem XT.again {ι:Type}{F:ι→Fr}{G:ι→PH}{S:ι→Own}{J:ι→Prop}{μ:ι→Nat}{i:ι}(j:ι)(hf:Sub (F j) f)(hg:G j=g)(hs:S j=s)(hJ:J j)(hμ:μ j<μ i) :
  XT M N E (Exit.then (EW M.ds N E F G S J μ i) Q) .normal f g s:=fun _ _ ha hw=>⟨j,ha.sub hf,by rw[hg,hs]; exact hw,hJ,hμ⟩
theorem XC.loop {ι:Type}{c:Code}(F:ι→Fr)(G:ι→PH)(S:ι→Own)(J:ι→Prop)(μ:ι→Nat)(i:ι)(hf:Sub (F i) f)(hg:G i=g)(hs:S i=s)(h0:J i)
  (round:∀ i,J i→XC P M N E c (Exit.then (EW M.ds N E F G S J μ i) Q) (F i) (G i) (S i)):XC P M N E (.loop c) Q f g s:=by
 intro a w ha hw;have key:∀ n,∀ (i:ι) (a:Act) (w:World),μ i=n→Okd M.ds N (F i) a→At E (G i) (S i) w→J i→∀ (b:Frame) (k:List Item) (cs:List Frame),b.roundOf=(wf M.ro).round→(wf M.ro).fn b.fn→(wf M.ro).room (cs.length+1+0) →
   ∃ e a' w',Q e a' w'∧ArrivesIn (Machine.fenced P (wf M.ro)) P (lone (b.atR a (.code c :: .inLoop c::k)) cs w) b k cs e a' w':=by
  intro n;induction n using Nat.strongRecOn with
  | _ n ih =>
   intro i a w hn ha hI hJ b k cs hro hb hr;obtain ⟨e,a₁,w₁,hq,harr⟩:=round i hJ a w ha hI b (.inLoop c::k) cs hro hb hr;cases e with
   | normal =>
    obtain ⟨j,hok,hI₁,hJ₁,hlt⟩:=hq;obtain ⟨e₂,a₂,w₂,hq₂,harr₂⟩:=ih (μ j) (hn ▸ hlt) j a₁ w₁ rfl hok hI₁ hJ₁ b k cs hro hb hr;exact⟨e₂,a₂,w₂,hq₂,.of_steps (StepsIn.trans harr (.one (fenced_calm hb hr I) stepR_inLoop)) harr₂⟩
   | exit id=>exact⟨_,a₁,w₁,hq,.pass (x:=.inLoop c) rfl (fun _ _=>.inl (by simp)) harr⟩
   | goto l=>exact⟨_,a₁,w₁,hq,.pass (x:=.inLoop c) rfl (fun _ _=>.inl (by simp)) harr⟩
   | ret=>exact⟨_,a₁,w₁,hq,.pass (x:=.inLoop c) rfl (fun _ _=>.inl (by simp)) harr⟩
   | panic ch=>exact⟨_,a₁,w₁,hq,.pass (x:=.inLoop c) rfl (fun _ _=>.inl (by simp)) harr⟩
   | outgrown=>exact⟨_,a₁,w₁,hq,.pass (x:=.inLoop c) rfl (fun _ _=>.inl (by simp)) harr⟩
 intro b k cs hro hb hr;obtain ⟨e,a',w',hq,harr⟩:=key _ i a w rfl (ha.sub hf) (by rw[hg,hs]; exact hw) h0 b k cs hro hb hr;exact⟨e,a',w',hq,.of_steps (.one (fenced_calm hb hr I) stepR_loop) harr⟩
theorem XC.region {id:Nat}(h:XL P M N E ops Q ops.toList f g s):XC P M N E (.region id ops false) Q f g s:=fun a w ha hw=>wpIn_region_list (h a w ha hw)
theorem XL.nil (h:XT M N E Q .normal f g s):XL P M N E ops Q [] f g s:=fun a w ha hw=>h a w ha hw
theorem SO.xo {o:Oper}{K:Value→PH→Own→Prop}(hno:∀ c,o.op ≠ .defer c)(h:SO P N E o f g s K):XO P M N E o f g s K:=by
 intro a w ha hw Q next hn;refine⟨fun _ _=>trivial,?_⟩;rw[Oper.semAt_eq _ _ _ hno];have h1:=h (ld a) w ha.2 hw (fun _ _ _=>False) (fun a' w'=>a'.defers=[]∧∃ v g' s',a'=(ld a).put o.dst v∧K v g' s'∧At E g' s' w') (fun v g' s' w' hK hw'=>⟨rK _ _ _,v,g',s',rfl,hK,hw'⟩);unfold Oper.wp at h1;rw[pG] at h1;have key:∀ v w',(((ld a).put o.dst v).defers=[]∧∃ v' g' s',(ld a).put o.dst v=(ld a).put o.dst v'∧K v' g' s'∧At E g' s' w')→next (a.put o.dst v) w':=by
  rintro v w' ⟨_,v',g',s',he,hK,hw'⟩;have:a.put o.dst v=a.put o.dst v':=by
   cases hd:o.dst with
   | none=>rfl
   | some d =>
    rw[hd] at he;have h2:=ze2 Act.tmps he;cases a;simp only[Act.put,ld] at h2 ⊢;rw[h2]
  rw[this];exact hn v' g' s' w' hK hw'
 generalize (execOp a.eval o).run P w=r at h1;cases r with
 | ok n w' =>
  cases n <;> simp only[Oper.upon] at h1 <;> first | exact h1.elim | skip
  ·exact key _ _ h1
  ·exact key _ _ h1
  ·rename_i f' args;exact⟨fun h=>(by cases h),(CallsIn.more (n:=0) ((callsIn_wide (n:=0)).2 (Calls.mono h1 (fun e w'' he=>by cases e with | returned v=>exact key _ _ he | panicked c=>exact he.elim | outgrown=>obtain ⟨_,_,h2⟩:=he; exact h2.elim))) (zf6 _))⟩
  ·exact absurd h1.1 (by rw[rK]; simp)
  ·exact⟨fun h=>(by cases h),fun c cs _=>let ⟨v,w'',r,st⟩:=h1 c cs; ⟨v,w'',key _ _ r,stepsIn_wide.2 st⟩⟩
 | halt x w'=>cases x <;> simp only[Oper.upon] at h1 <;> exact h1.elim
theorem XL.step {o:Oper}{l:List Oper}{K:Value→PH→Own→Prop}(hg:Gd N ops f o true)(ho:XO P M N E o f g s K)
  (h:∀ v g' s' a,K v g' s'→Okd M.ds N f a→∃ f',Okd M.ds N f' (a.put o.dst v)∧XL P M N E ops Q l f' g' s'):XL P M N E ops Q (o::l) f g s:=by
 intro a w ha hw;unfold wpListIn;have hwt:Region.wanted o (yielded ops a.tmps)=true:=hg (ld a) ha.2;rw[zg1 hwt];refine ho a w ha hw Q _ fun v g' s' w' hK hw'=>?_;obtain ⟨f',hf',hn⟩:=h v g' s' a hK ha;exact hn _ _ hf' hw'
theorem XL.x {d:Nat}{op:Op}{ty:TypeId}{pos:String}{af:Array Edge}{l:List Oper}{K:Value→PH→Own→Prop}(ho:XO P M N E ⟨some d,op,ty,pos,af,none⟩ f g s K)(hd:d<N)
  (h:∀ v g' s',K v g' s'→XL P M N E ops Q l ((d,v)::f) g' s'):XL P M N E ops Q (⟨some d,op,ty,pos,af,none⟩::l) f g s :=
 XL.step (Gd.none rfl) ho fun v g' s' _ hK ha=>⟨_,ha.put hd v,h v g' s' hK⟩
theorem XL.go {d:Nat}{op:Op}{ty:TypeId}{pos:String}{af:Array Edge}{gd:Option (Nat×Bool)}{l:List Oper}{K:Value→PH→Own→Prop}(hg:Gd N ops f ⟨some d,op,ty,pos,af,gd⟩ true)(ho:SO P N E ⟨some d,op,ty,pos,af,gd⟩ f g s K)(hd:d<N)
  (h:∀ v g' s',K v g' s'→XL P M N E ops Q l ((d,v)::f) g' s') (hno:∀ c,op ≠ .defer c:=by intro _ h; cases h):XL P M N E ops Q (⟨some d,op,ty,pos,af,gd⟩::l) f g s :=
 XL.step hg (ho.xo hno) fun v g' s' _ hK ha=>⟨_,ha.put hd v,h v g' s' hK⟩
theorem XL.o {d:Nat}{op:Op}{ty:TypeId}{pos:String}{af:Array Edge}{l:List Oper}{K:Value→PH→Own→Prop}(ho:SO P N E ⟨some d,op,ty,pos,af,none⟩ f g s K)(hd:d<N)
  (h:∀ v g' s',K v g' s'→XL P M N E ops Q l ((d,v)::f) g' s') (hno:∀ c,op ≠ .defer c:=by intro _ h; cases h):XL P M N E ops Q (⟨some d,op,ty,pos,af,none⟩::l) f g s :=
 XL.go (Gd.none rfl) ho hd h hno
theorem XL.on {op:Op}{ty:TypeId}{pos:String}{af:Array Edge}{l:List Oper}{K:Value→PH→Own→Prop}(ho:SO P N E ⟨none,op,ty,pos,af,none⟩ f g s K)
  (h:∀ v g' s',K v g' s'→XL P M N E ops Q l f g' s') (hno:∀ c,op ≠ .defer c:=by intro _ h; cases h):XL P M N E ops Q (⟨none,op,ty,pos,af,none⟩::l) f g s :=
 XL.step (Gd.none rfl) (ho.xo hno) fun v g' s' _ hK ha=>⟨f,ha,h v g' s' hK⟩
theorem XL.gq {d:Nat}{op:Op}{ty:TypeId}{pos:String}{af:Array Edge}{gd:Option (Nat×Bool)}{l:List Oper}{v:Value}(hg:Gd N ops f ⟨some d,op,ty,pos,af,gd⟩ true)(hq:SQ P N E ⟨some d,op,ty,pos,af,gd⟩ f g s v)(hd:d<N)
  (h:XL P M N E ops Q l ((d,v)::f) g s) (hno:∀ c,op ≠ .defer c:=by intro _ h; cases h):XL P M N E ops Q (⟨some d,op,ty,pos,af,gd⟩::l) f g s :=
 XL.go hg hq.so hd (fun v' g' s' ⟨e1,e2,e3⟩=>by subst e1; subst e2; subst e3; exact h) hno
theorem XL.q {d:Nat}{op:Op}{ty:TypeId}{pos:String}{af:Array Edge}{l:List Oper}{v:Value}(hq:SQ P N E ⟨some d,op,ty,pos,af,none⟩ f g s v)(hd:d<N)
  (h:XL P M N E ops Q l ((d,v)::f) g s) (hno:∀ c,op ≠ .defer c:=by intro _ h; cases h):XL P M N E ops Q (⟨some d,op,ty,pos,af,none⟩::l) f g s:=XL.gq (Gd.none rfl) hq hd h hno
theorem XL.gu {d:Nat}{op:Op}{ty:TypeId}{pos:String}{af:Array Edge}{gd:Option (Nat×Bool)}{l:List Oper}{v:Value}(hg:Gd N ops f ⟨some d,op,ty,pos,af,gd⟩ true)(hq:SU P N ⟨some d,op,ty,pos,af,gd⟩ f v)(hd:d<N)
  (h:XL P M N E ops Q l ((d,v)::f) g s) (hno:∀ c,op ≠ .defer c:=by intro _ h; cases h):XL P M N E ops Q (⟨some d,op,ty,pos,af,gd⟩::l) f g s:=XL.gq hg hq.sq hd h hno
theorem XL.u {d:Nat}{op:Op}{ty:TypeId}{pos:String}{af:Array Edge}{l:List Oper}{v:Value}(hq:SU P N ⟨some d,op,ty,pos,af,none⟩ f v)(hd:d<N)
  (h:XL P M N E ops Q l ((d,v)::f) g s) (hno:∀ c,op ≠ .defer c:=by intro _ h; cases h):XL P M N E ops Q (⟨some d,op,ty,pos,af,none⟩::l) f g s:=XL.q hq.sq hd h hno
theorem XL.off {d:Nat}{op:Op}{ty:TypeId}{pos:String}{af:Array Edge}{gd:Option (Nat×Bool)}{l:List Oper}(hg:Gd N ops f ⟨some d,op,ty,pos,af,gd⟩ false)(hd:d<N)
  (h:XL P M N E ops Q l ((d,undef)::f) g s):XL P M N E ops Q (⟨some d,op,ty,pos,af,gd⟩::l) f g s:=by
 intro a w ha hw;unfold wpListIn;have hwt:Region.wanted (⟨some d,op,ty,pos,af,gd⟩:Oper) (yielded ops a.tmps)=false:=hg (ld a) ha.2;rw[zf9 (by rw[hwt]; simp)];exact⟨fun _ _=>trivial,h _ _ (ha.put hd undef) hw⟩
theorem At.obj {w:World}{b i:Nat}{o o':Obj}(h:At E g s w)(hi:s[i]?=some (pt b o)):At E g (s.set i (pt b o')) (w.putObj b o'):=by
 have h2:=h.fresh _ (zg2 hi) b rfl;refine h.turn hi I ⟨I,lR _⟩ I (by simp[World.putObj]) (fun k _ hk=>World.putObj_heap_other (fun e=>hk (by simp[pt,e]))) ?_ (fun b' hb'=>?_)
 ·simp only[pt,Option.bind_some];exact World.putObj_heap_same h2.2
 ·simp only[pt,zg7] at hb';subst hb';exact⟨by simpa [World.putObj] using h2.2,.inl I⟩
theorem At.here {w:World}{b i:Nat}{o:Obj}(h:At E g s w)(hi:s[i]?=some (pt b o)):w.heap[b]?=some o:=by
 have:=h.own _ (zg2 hi);simpa [pt] using this
end
def EV (P:Program)(E:World)(l:Nat)(args:Array Value)(g:PH)(s:Own)(R:Value→PH→Own→Prop):Prop :=
 ∀ w,At E g s w→YieldAt Fence.wide 0 P l args w fun e w'=>∃ v g' s',e = .returned v∧At E g' s' w'∧R v g' s'
def C7 (P:Program)(E:World)(gf:FuncId)(lb:List Value){α:Type}(encs:α→List Value)(xs:List α)(g0:PH):Prop :=
 ∀ (l:Nat) (ι:Type) (G:ι→PH) (S:ι→Own) (J:List α→ι→Prop) (i0:ι),J [] i0→(∀ pre i,J pre i→Le g0 (G i)) →
  (∀ pre x suf i sx,xs=pre++x::suf→J pre i→EV P E l (encs x).toArray (G i) (S i++sx) (fun v g' s'=>v = .bool true∧∃ j,J (pre++[x]) j∧g'=G j∧s'=S j++sx)) →
  ∀ sx,Ctr P E gf (.func (.yield l) #[] #[]::lb).toArray (G i0) (S i0++sx) (fun _ g' s'=>∃ j,J xs j∧g'=G j∧s'=S j++sx)
section
variable {P:Program}{M:Md}{N:Nat}{E:World}{Q:Exit→Act→World→Prop}{f:Fr}{g:PH}{s:Own}{dst:Option Tmp}{ty:TypeId}{pos:String}{af:Array Edge}{gd:Option (Nat×Bool)}
theorem XO.yield {x:Operand}{l:List Operand}{tys:Array TypeId}{vs:List Value}{k:Nat}{R:Value→PH→Own→Prop}(hx:ev f x=some (.func (.yield k) #[] #[]))(hl:evs f l=some vs)(hY:EV P E k vs.toArray g s R) :
  XO P M N E ⟨dst,.call ⟨.value x,l.toArray,tys⟩,ty,pos,af,gd⟩ f g s R:=by
 intro a w ha hw Q next hn;refine⟨fun _ _=>trivial,?_⟩;rw[Oper.semAt_eq _ _ _ (fun _ h=>by cases h)];obtain ⟨fn,tmps,assign,body,hy,hR⟩:=hY w hw;have h1:a.eval x = .func (.yield k) #[] #[]:=ha.ev hx;have h2:l.map a.eval=vs:=by have:=ha.2.evs hl; rwa [pG] at this
 have h3:(execOp a.eval ⟨dst,.call ⟨.value x,l.toArray,tys⟩,ty,pos,af,gd⟩).run P w = .ok (.round k fn tmps assign body) w:=by
  simp only[execOp,resolve,h1,List.map_toArray,h2];simp[Deferred.ofValue,Sem.run_bind,invoke,hy]
 rw[h3];refine⟨fun h=>(by cases h),RoundIn.mono hR fun e w' he=>?_⟩;obtain ⟨v,g',s',rfl,hat,hRR⟩:=he;exact hn v g' s' w' hRR hat
theorem Ctr.ofX {n:FuncId}{fn:Func}{c:Code}{args:List Value}{R:Value→PH→Own→Prop}
  (hf:P.funcs[n]?=some fn) (hb:fn.body=some c) (hN:fn.ntmps=N) (hle:args.length≤N)
  (h:XC P ⟨none,[]⟩ N E c (bodyPostM (wf none) 0 P fn (qW E R)) (mZ 0 args) g s):Ctr P E n args.toArray g s R:=by
 intro w hw;refine (callsIn_wide (n:=0)).1 (callsIn_of_wp_marks (F:=wf none) hf hb trivial (h _ w ⟨I,⟨I,?_,fun t v hv=>?_⟩⟩ hw) I)
 ·simp[ld,hN]; omega
 ·obtain ⟨_,h2⟩:=kH args 0 t v hv;have hlt:t<args.length:=(zf5.1 (by simpa using h2)).1;simp only[Nat.sub_zero] at h2;obtain ⟨_,h3⟩:=zf5.1 h2;simp[ld,Array.getElem?_append,hlt,h3]
theorem XT.leave0 {fn:Func}{R:Value→PH→Own→Prop}{e:Exit}(he:e = .ret∨e = .normal)(h:ST N E (bodyPost P fn (qW E R)) e f g s):XT ⟨none,[]⟩ N E (bodyPostM (wf none) 0 P fn (qW E R)) e f g s:=by
 intro a w ha hw;have h1:=h (ld a) w ha.2 hw
 rcases he with rfl | rfl
 all_goals
  obtain ⟨_,v,h2,h3⟩:=h1;show LeavesInM _ _ _ _ _ _ a.defers _ _;rw[ha.1];exact⟨v,h2,h3⟩
theorem XT.leave1 {fn:Func}{R:Value→PH→Own→Prop}{e:Exit}{D:Nat}(he:e = .ret∨e = .normal)(h:ST N E (bodyPost P fn (qW E R)) e f g s) :
  XT ⟨none,[⟨.collected D,#[]⟩]⟩ N E (bodyPostM (wf none) 0 P fn (qW E R)) e f g (pt D (.deferred (some []))::s):=by
 intro a w ha hw;have hD:w.heap[D]?=some (.deferred (some [])):=At.here (i:=0) hw rfl;have hw2:=(At.obj (i:=0) (o':=.deferred none) hw rfl).sublist (zj1 _ _);have h1:=h (ld a) _ ha.2 hw2
 rcases he with rfl | rfl
 all_goals
  obtain ⟨_,v,h2,h3⟩:=h1;show LeavesInM _ _ _ _ _ _ a.defers _ _;rw[ha.1];exact⟨by simp,.inl ⟨D,_,I,run_takeDeferred hD,v,h2,h3⟩⟩
theorem A6 {a:Act}{t t':Nat}{u u':Value}(h:Ok N f (ld a))(ht:t<N)(ht':t'<N):Ok N ((t',u')::(t,u)::f) { tmps:=((#[t,t']:Array Tmp).zip [u,u'].toArray).foldl (fun t (p,v)=>t.setIfInBounds p v) a.tmps,defers:=[] }:=by
 have:=(h.put ht u).put ht' u';simpa [Act.put,ld] using this
def s6 {α ι:Type}(E:World)(G:ι→PH)(S:ι→Own)(J:List α→ι→Prop)(pre:List α)(x:α)(sx:Own):Exit→Act→World→Prop:=fun e _ w'=>e = .normal∧∃ j,At E (G j) (S j++sx) w'∧J (pre++[x]) j
def vh {N:Nat}(E:World)(g:PH)(s:Own)(fb:Fr):Exit→Act→World→Prop:=fun e a' w'=>e = .normal∧Okd [] N fb a'∧At E g s w'
theorem XT.roundEnd {α ι:Type}{G:ι→PH}{S:ι→Own}{J:List α→ι→Prop}{pre:List α}{x:α}{sx:Own}(j:ι)(hg:G j=g)(hs:S j++sx=s)(hj:J (pre++[x]) j):XT M N E (s6 E G S J pre x sx) .normal f g s:=fun _ _ _ hw=>⟨rfl,j,by rw[hg,hs]; exact hw,hj⟩
theorem XT.assignEnd {fb:Fr}{ro:Option Nat}(hf:Sub fb f):XT ⟨ro,[]⟩ N E (vh (N:=N) E g s fb) .normal f g s:=fun _ _ ha hw=>⟨rfl,ha.sub hf,hw⟩
theorem XC.rangeFunc {α ι:Type}{gop:Operand}{ps:Array Tmp}{assign body:Code}{gf:FuncId}{lb:List Value}{encs:α→List Value}{xs:List α}{g0:PH}(G:ι→PH)(S:ι→Own)(J:List α→ι→Prop)(i0:ι)(sx0:Own)(fa:α→Fr)(fb:List α→α→ι→Fr)
  (hro:M.ro=none) (hg:ev f gop=some (.func (.func gf) #[] lb.toArray)) (eg:∀ args w,(callFunc gf args).run P w = .ok (.enter gf args) w) (hps:∀ x,(encs x).length=ps.size)
  (hG:G i0=g) (hS:S i0++sx0=s) (hseq:C7 P E gf lb encs xs g0) (hmono:∀ pre i,J pre i→Le g0 (G i)) (h0:J [] i0)
  (hfa:∀ x a,Ok N f (ld a)→Ok N (fa x) { tmps:=(ps.zip (encs x).toArray).foldl (fun t (p,v)=>t.setIfInBounds p v) a.tmps,defers:=[] })
  (hassign:∀ l pre x i sx,J pre i→XC P ⟨some l,[]⟩ N E assign (vh (N:=N) E (G i) (S i++sx) (fb pre x i)) (fa x) (G i) (S i++sx))
  (hbody:∀ l pre x suf i sx,xs=pre++x::suf→J pre i→XC P ⟨some l,[]⟩ N E body (s6 E G S J pre x sx) (fb pre x i) (G i) (S i++sx))
  (hdone:∀ D j,J xs j→XT ⟨none,⟨.collected D,#[]⟩::M.ds⟩ N E Q .normal f (G j) (pt D (.deferred (some []))::(S j++sx0))):XC P M N E (.rangeFunc gop ps assign body) Q f g s:=by
 subst hG hS;intro a w ha hw;rw[hro];refine wpIn_rangeFunc ?_;intro fn _;obtain ⟨rec,hrec⟩:∃ rec:LoopState→Option Code→Loop,rec=fun st pe=>{ state:=st,pending:=pe,fn,tmps:=a.tmps,params:=ps,assign,body,defers:=w.heap.size }:=⟨_,rfl⟩;obtain ⟨L,hL⟩:∃ L,L=w.heap.size+1:=⟨_,rfl⟩;obtain ⟨D,hD⟩:∃ D,D=w.heap.size:=⟨_,rfl⟩;obtain ⟨W1,hW1⟩:∃ W1,(w.alloc (.deferred (some []))).alloc (.loop (rec .ready none))=W1:=⟨_,rfl⟩;have hA:At E (G i0) (pt L (.loop (rec .ready none))::pt D (.deferred (some []))::(S i0++sx0)) W1:=by
  rw[← hW1,hL,hD];have h1:At E (G i0) (pt w.heap.size (.deferred (some []))::(S i0++sx0)) (w.alloc (.deferred (some []))):=hw.alloc (e:=pt w.heap.size (.deferred (some []))) rfl rfl;have h2:=h1.alloc (e:=pt (w.alloc (.deferred (some []))).heap.size (.loop (rec .ready none))) rfl rfl;rw[World.size_alloc] at h2;exact h2
 obtain ⟨S2,hS2⟩:∃ S2:ι→Own,S2=fun i=>S i++(pt L (.loop (rec .ready none))::pt D (.deferred (some []))::sx0):=⟨_,rfl⟩;have hA2:At E (G i0) (S2 i0++[]) W1:=by
  rw[hS2,zc6];dsimp only;refine hA.perm ?_;have h1:(pt L (.loop (rec .ready none))::pt D (.deferred (some []))::(S i0++sx0))=[pt L (.loop (rec .ready none)),pt D (.deferred (some []))]++(S i0++sx0):=rfl;have h2:S i0++(pt L (.loop (rec .ready none))::pt D (.deferred (some []))::sx0)=S i0++([pt L (.loop (rec .ready none)),pt D (.deferred (some []))]++sx0):=rfl;rw[h1,h2,← zg8,← zg8];exact List.perm_append_comm.append_right _
 refine⟨L,[{ target:=.collected D,args:=#[] }],W1,{ target:=.fn (.func gf) lb.toArray,args:=#[.func (.yield L) #[] #[]] },W1,gf,(.func (.yield L) #[] #[]::lb).toArray,W1,?_,?_,fun _ _=>trivial,?_,fun h=>(by cases h),?_⟩
 ·rw[← hW1,hrec,hL,hD]; exact run_enterLoop_outer _ _ _ _ _
 ·have h1:a.eval gop = .func (.func gf) #[] lb.toArray:=ha.ev hg;simp only[resolve,h1];simp[go_sem]
 ·have:(#[.func (.yield L) #[] #[]]++lb.toArray:Array Value)=(.func (.yield L) #[] #[]::lb).toArray:=by simp
  simp[invoke,go_sem,eg]
 ·refine (callsIn_wide (n:=0 - 1)).2 ((hseq L ι G S2 J i0 h0 hmono ?_ [] W1 hA2).mono ?_)
  ·intro pre x suf i sx hxs hJ W hW;rw[hS2] at hW;simp only[zg8,List.cons_append] at hW;have hlen:(S i).length=(S i).length:=rfl;have gl:∀ (i:ι) (u u':Ent) (r:Own),(S i++u::u'::r)[(S i).length]?=some u:=fun i u u' r=>by simp
   have hl:=hW.here (gl i _ _ _);have hy:=run_yield (P:=P) (args:=(encs x).toArray) hl (by rw[hrec]; simpa using hps x);rw[hrec] at hy;refine⟨fn,_,assign,body,hy,roundIn_of_wpIn trivial ?_⟩;refine Code.wpIn_mono (fun e a1 w1 h1=>?_) (hassign L pre x i _ hJ { tmps:=(ps.zip (encs x).toArray).foldl (fun t (p,v)=>t.setIfInBounds p v) a.tmps,defers:=[] } W ⟨I,hfa x a ha.2⟩ hW);obtain ⟨rfl,ha1,hw1⟩:=h1;have hl1:=hw1.here (gl i _ _ _);refine⟨_,run_beginRound hl1 (by rw[hrec]),?_⟩;have hset:∀ (i:ι) (u u' v:Ent) (r:Own),(S i++u::u'::r).set (S i).length v=S i++v::u'::r:=fun i u u' v r=>by simp
   have hw2:=hw1.obj (o':=.loop { rec .ready none with state:=.busy }) (gl i _ _ _);rw[hset] at hw2;refine Code.wpIn_mono (fun e a3 w3 h3=>?_) (hbody L pre x suf i _ hxs hJ a1 _ ha1 hw2);obtain ⟨rfl,j,hw3,hJ3⟩:=h3;have hl3:=hw3.here (gl j _ _ _);have he:=run_endRound (P:=P) none hl3;have hw4:=hw3.obj (o':=.loop { (rec .ready none) with state:=.ready,pending:=none }) (gl j _ _ _);rw[hset] at hw4;refine⟨_,_,he,.bool true,G j,S2 j++sx,I,?_,I,j,hJ3,I,I⟩;rw[hS2];simp only[zg8,List.cons_append];rw[hrec] at hw4 ⊢;exact hw4
  ·rintro e W2 ⟨v,g',s',rfl,hat,j,hJ,rfl,rfl⟩;rw[hS2,zc6] at hat;have gl:∀ (i:ι) (u u':Ent) (r:Own),(S i++u::u'::r)[(S i).length]?=some u:=fun i u u' r=>by simp
   have hl:=hat.here (gl j _ _ _);have he:=run_endLoop (P:=P) hl (by rw[hrec]; simp);have h2:=hat.obj (o':=.loop { (rec .ready none) with state:=.exhausted }) (gl j _ _ _);have hset:∀ (i:ι) (u u' v:Ent) (r:Own),(S i++u::u'::r).set (S i).length v=S i++v::u'::r:=fun i u u' v r=>by simp
   rw[hset] at h2;have hpn:(rec .ready none).pending=none:=by rw[hrec]
   refine⟨none,_,he.trans (ze2 (fun p=>Result.ok p _) hpn),?_⟩;refine hdone D j hJ _ _ ⟨by rw[← ha.1]; rfl,ha.2⟩ ?_;have h3:=(h2.sublist (s':=S j++pt D (.deferred (some []))::sx0) (by exact (zc3 _).append (zj1 _ _))).perm zk2;exact h3
end
end Go.Sy
namespace Go.Sy
open Go
section
variable {P:Program}{M:Md}{N:Nat}{E:World}{Q:Exit→Act→World→Prop}{f:Fr}{g:PH}{s:Own}{dst:Option Tmp}{ty:TypeId}{pos:String}{af:Array Edge}{gd:Option (Nat×Bool)}
end
end Go.Sy
