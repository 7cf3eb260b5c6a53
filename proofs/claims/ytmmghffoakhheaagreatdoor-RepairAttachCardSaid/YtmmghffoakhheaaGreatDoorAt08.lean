/- Mch1 Mch2 Bes Spc Shp M13 M13b M14 M14b SyEn SyUb Rp1 Rp2 Rp3 Rp4 -/
import Derived.Test.YtmmghffoakhheaaGreatDoorAt02
import Derived.Test.YtmmghffoakhheaaGreatDoorAt07
import Derived.Test.YtmmghffoakhheaaGreatDoorAt03
import Derived.ChangeKeysEq
import Derived.Test.YtmmghffoakhheaaGreatDoorAt06
import Derived.Test.YtmmghffoakhheaaGreatDoorAt04
import Derived.Test.YtmmghffoakhheaaGreatDoorAt05
set_option linter.unusedSimpArgs false
set_option linter.unusedVariables false
namespace Go.Proofs.YtmmghffoakhheaaGreatDoor
open _root_.Go.Proofs.Tryz _root_.Go.Proofs.YtmmghffoakhheaaGreatDoor.Tryz
open Go Go.Sy Go.Pl Go.Proofs
abbrev Pr:=Int×Int
def Ring (adj:Pr→Pr→Bool)(l:List Pr):Prop:=l≠[]∧∀ x∈l,∃ y∈l,y≠x∧adj x y=true
def Cyc (adj:Pr→Pr→Bool)(m:List Pr):Prop:=∃ l,Ring adj l∧∀ x∈l,x∈m
def leadsR (adj:Pr→Pr→Bool)(l:List Pr)(k:Nat):Bool:=(List.range l.length).any fun j=>decide (j≠k)&&adj (l.getD k (0,0)) (l.getD j (0,0))
def freeAt (adj:Pr→Pr→Bool)(l:List Pr):Option Nat:=(List.range l.length).find? fun k=>!leadsR adj l k
def peel (adj:Pr→Pr→Bool):Nat→List Pr→List Pr
 | 0,l=>l
 | n+1,l=>match freeAt adj l with
  | none=>l
  | some k=>peel adj n (l.eraseIdx k)
def ringR (adj:Pr→Pr→Bool)(m:List Pr):Bool:=decide (peel adj m.length m≠[])
theorem peel_succ (adj:Pr→Pr→Bool)(n:Nat)(l:List Pr):peel adj (n+1) l=match freeAt adj l with
  | none=>l
  | some k=>peel adj n (l.eraseIdx k):=rfl
theorem freeAt_some {adj:Pr→Pr→Bool}{l:List Pr}{k:Nat}(h:freeAt adj l=some k):∃ hk:k<l.length,∀ j (hj:j<l.length),j≠k→adj l[k] l[j]=false:=by
 unfold freeAt at h;have h1:=List.find?_some h;have h2:=List.mem_range.1 (List.mem_of_find?_eq_some h);refine⟨h2,fun j hj hne=>?_⟩;unfold leadsR at h1;simp only[Bool.not_eq_true',List.any_eq_false,List.mem_range,Bool.and_eq_true,decide_eq_true_eq,not_and,Bool.not_eq_true] at h1;have:=h1 j hj hne;rwa [List.getD_eq_getElem?_getD,List.getD_eq_getElem?_getD,gE h2,gE hj] at this
theorem freeAt_none {adj:Pr→Pr→Bool}{l:List Pr}(h:freeAt adj l=none){k:Nat}(hk:k<l.length):∃ j,∃ hj:j<l.length,j≠k∧adj l[k] l[j]=true:=by
 unfold freeAt at h;have h1:=List.find?_eq_none.1 h k (List.mem_range.2 hk);unfold leadsR at h1;simp only[Bool.not_eq_true',Bool.not_eq_false,List.any_eq_true,List.mem_range,Bool.and_eq_true,decide_eq_true_eq] at h1;obtain ⟨j,hj,hne,ha⟩:=h1;rw[List.getD_eq_getElem?_getD,List.getD_eq_getElem?_getD,gE hk,gE hj] at ha;exact⟨j,hj,hne,ha⟩
theorem mem_erase {l:List Pr}{k i:Nat}(hi:i<l.length)(h:i≠k):l[i]∈l.eraseIdx k:=by
 rw[List.mem_eraseIdx_iff_getElem];exact⟨i,hi,h,I⟩
theorem peel_keeps {adj:Pr→Pr→Bool}{R:List Pr}(hR:Ring adj R):∀ (n:Nat) {l:List Pr},(∀ x∈R,x∈l)→∀ x∈R,x∈peel adj n l
 | 0,_,h=>h
 | n+1,l,h=>by
  rw[peel_succ];cases hf:freeAt adj l with
  | none=>exact h
  | some k =>
   obtain ⟨hk,hno⟩:=freeAt_some hf;refine peel_keeps hR n fun x hx=>?_;obtain ⟨i,hi,rfl⟩:=List.getElem_of_mem (h x hx);refine mem_erase hi fun e=>?_;subst e;obtain ⟨y,hy,hne,ha⟩:=hR.2 _ hx;obtain ⟨j,hj,rfl⟩:=List.getElem_of_mem (h y hy);have:=hno j hj (fun e=>hne (by subst e; rfl));rw[this] at ha;exact absurd ha dC
theorem peel_free {adj:Pr→Pr→Bool}:∀ (n:Nat) {l:List Pr},l.length≤n→freeAt adj (peel adj n l)=none
 | 0,l,h=>by
  rw[List.eq_nil_of_length_eq_zero (by omega:l.length=0)];rfl
 | n+1,l,h=>by
  rw[peel_succ];cases hf:freeAt adj l with
  | none=>exact hf
  | some k =>
   obtain ⟨hk,-⟩:=freeAt_some hf;exact peel_free n (by rw[List.length_eraseIdx_of_lt hk]; omega)
theorem peel_sub {adj:Pr→Pr→Bool}:∀ (n:Nat) (l:List Pr),(peel adj n l).Sublist l
 | 0,l=>List.Sublist.refl l
 | n+1,l=>by
  rw[peel_succ];cases freeAt adj l with
  | none=>exact List.Sublist.refl l
  | some k=>exact (peel_sub n _).trans (List.eraseIdx_sublist _ _)
theorem ringR_iff {adj:Pr→Pr→Bool}{m:List Pr}(hm:m.Nodup):ringR adj m=true↔Cyc adj m:=by
 unfold ringR;rw[decide_eq_true_iff];constructor
 ·intro h;have hf:=peel_free (adj:=adj) m.length (lR _);have hs:=peel_sub (adj:=adj) m.length m;have hn:=hm.sublist hs;refine⟨_,⟨h,fun x hx=>?_⟩,fun x hx=>hs.subset hx⟩;obtain ⟨k,hk,rfl⟩:=List.getElem_of_mem hx;obtain ⟨j,hj,hne,ha⟩:=freeAt_none hf hk;exact⟨_,gM hj,fun e=>hne ((List.getElem_inj hn).1 e),ha⟩
 ·rintro ⟨R,hR,hsub⟩ e;obtain ⟨x,hx⟩:=List.exists_mem_of_ne_nil _ hR.1;have:=peel_keeps hR m.length hsub x hx;rw[e] at this;simp at this
inductive Pth (adj:Pr→Pr→Bool)(m:List Pr):Pr→Pr→Prop
 | one (x y:Pr) (hy:y∈m) (hne:y≠x) (ha:adj x y=true):Pth adj m x y
 | cons (x y z:Pr) (hy:y∈m) (hne:y≠x) (ha:adj x y=true) (h:Pth adj m y z):Pth adj m x z
theorem Pth.snoc {adj:Pr→Pr→Bool}{m:List Pr}{x y z:Pr}(h:Pth adj m x y)(hz:z∈m)(hne:z≠y)(ha:adj y z=true):Pth adj m x z:=by
 induction h with
 | one x y hy h1 h2=>exact .cons x y z hy h1 h2 (.one y z hz hne ha)
 | cons x y w hy h1 h2 _ ih=>exact .cons x y z hy h1 h2 (ih hne ha)
theorem cyc_iff {adj:Pr→Pr→Bool}{T:List Pr}{p:Pr}(hT:¬ Cyc adj T):Cyc adj (T++[p])↔Pth adj (T++[p]) p p:=by
 classical
 constructor
 ·rintro ⟨L,hL,hsub⟩;have hin:∀ R:List Pr,Ring adj R→(∀ x∈R,x∈T++[p])→p∈R:=fun R hR h=>Classical.byContradiction fun hp=>hT ⟨R,hR,fun x hx=>by
   rcases List.mem_append.1 (h x hx) with h1 | h1
   ·exact h1
   ·exact absurd (by simpa using h1:x=p) fun e=>hp (e ▸ hx)⟩
  have hp:=hin L hL hsub;have hR:Ring adj (L.filter fun y=>decide (Pth adj (T++[p]) p y)):=by
   refine⟨?_,fun x hx=>?_⟩
   ·obtain ⟨y,hy,hne,ha⟩:=hL.2 p hp;intro e;have:y∈L.filter fun y=>decide (Pth adj (T++[p]) p y):=List.mem_filter.2 ⟨hy,by simpa using Pth.one p y (hsub y hy) hne ha⟩;rw[e] at this;simp at this
   ·obtain ⟨h1,h2⟩:=List.mem_filter.1 hx;obtain ⟨y,hy,hne,ha⟩:=hL.2 x h1;exact⟨y,List.mem_filter.2 ⟨hy,by simpa using (of_decide_eq_true h2).snoc (hsub y hy) hne ha⟩,hne,ha⟩
  have:=hin _ hR fun x hx=>hsub x (List.mem_filter.1 hx).1;exact of_decide_eq_true (List.mem_filter.1 this).2
 ·intro h;refine⟨(T++[p]).filter fun y=>decide (Pth adj (T++[p]) p y∧Pth adj (T++[p]) y p),⟨fun e=>?_,fun x hx=>?_⟩,fun x hx=>(List.mem_filter.1 hx).1⟩
  ·have:p∈(T++[p]).filter fun y=>decide (Pth adj (T++[p]) p y∧Pth adj (T++[p]) y p):=List.mem_filter.2 ⟨by simp,by simpa using h⟩;rw[e] at this;simp at this
  ·obtain ⟨h1,h2⟩:=List.mem_filter.1 hx;obtain ⟨h3,h4⟩:=of_decide_eq_true h2;cases h4 with
   | one _ _ hy hne ha=>exact⟨p,List.mem_filter.2 ⟨by simp,by simpa using h⟩,hne,ha⟩
   | cons _ y _ hy hne ha h5=>exact⟨y,List.mem_filter.2 ⟨hy,by simpa using ⟨h3.snoc hy hne ha,h5⟩⟩,hne,ha⟩
def loopP (p:Pr)(H:Int→Option Int)(rc:Pr→List Int→Bool×List Int)(x:Pr):List Int→List Int→Bool×List Int
 | [],seen=>(false,seen)
 | low::r,seen =>
  if low=x.1 then loopP p H rc x r seen
  else if low=p.1 then (true,seen)
  else match H low with
   | none=>loopP p H rc x r seen
   | some nx=>if seen.contains nx then loopP p H rc x r seen else
    if (rc (low,nx) (seen++[nx])).1=true then (true,(rc (low,nx) (seen++[nx])).2) else loopP p H rc x r (rc (low,nx) (seen++[nx])).2
def reachP (p:Pr)(S:Int→List Int)(H:Int→Option Int):Nat→Pr→List Int→Bool×List Int
 | 0,_,seen=>(false,seen)
 | n+1,x,seen=>loopP p H (reachP p S H n) x (S x.2) seen
def highT (T:List Pr)(low:Int):Option Int:=(T.find? fun q=>decide (q.1=low)).map Prod.snd
theorem highT_mem {T:List Pr}{low nx:Int}(h:highT T low=some nx):(low,nx)∈T:=by
 unfold highT at h;rw[Option.map_eq_some_iff] at h;obtain ⟨q,hq,rfl⟩:=h;have h1:=List.find?_some hq;have h2:=List.mem_of_find?_eq_some hq;simp only[decide_eq_true_eq] at h1;rw[← h1];exact h2
theorem highT_of {T:List Pr}(hT:(T.map Prod.fst).Nodup){y:Pr}(hy:y∈T):highT T y.1=some y.2:=by
 induction T with
 | nil=>simp at hy
 | cons a T ih =>
  rw[List.map_cons,List.nodup_cons] at hT;unfold highT;rw[List.find?_cons]
  rcases List.mem_cons.1 hy with rfl | hy
  ·simp
  ·have:a.1≠y.1:=fun e=>hT.1 (by rw[e]; exact List.mem_map.2 ⟨y,hy,rfl⟩);rw[decide_eq_false this];exact ih hT.2 hy
def adjS (S:Int→List Int)(x y:Pr):Bool:=(S x.2).contains y.1
section
variable {p:Pr}{S:Int→List Int}{T:List Pr}
theorem loopP_true {rc:Pr→List Int→Bool×List Int}{x:Pr}(hrc:∀ y s,(rc y s).1=true→Pth (adjS S) (T++[p]) y p):∀ (q:List Int) (seen:List Int),(∀ z∈q,z∈S x.2)→(loopP p (highT T) rc x q seen).1=true→Pth (adjS S) (T++[p]) x p
 | [],_,_,h=>by simp[loopP] at h
 | low::r,seen,hq,h=>by
  have hr:=loopP_true (x:=x) hrc r;have hin:low∈S x.2:=hq low (by simp);have hq':∀ z∈r,z∈S x.2:=fun z hz=>hq z (by simp[hz]);unfold loopP at h;split at h
  ·exact hr _ hq' h
  ·rename_i h1;split at h
   ·rename_i h2;exact .one x p (by simp) (fun e=>h1 (by rw[h2,e])) (by unfold adjS; rw[List.contains_iff_mem,← h2]; exact hin)
   ·cases hh:highT T low with
    | none=>rw[hh] at h; exact hr _ hq' h
    | some nx =>
     rw[hh] at h;dsimp only at h;split at h
     ·exact hr _ hq' h
     ·split at h
      ·rename_i h4;exact .cons x (low,nx) p (List.mem_append_left _ (highT_mem hh)) (fun e=>h1 (by rw[← e])) (by unfold adjS; rw[List.contains_iff_mem]; exact hin) (hrc _ _ h4)
      ·exact hr _ hq' h
theorem reachP_true:∀ (n:Nat) (x:Pr) (seen:List Int),(reachP p S (highT T) n x seen).1=true→Pth (adjS S) (T++[p]) x p
 | 0,_,_,h=>by simp[reachP] at h
 | n+1,x,seen,h=>loopP_true (fun y s hy=>reachP_true n y s hy) (S x.2) seen (fun _ hz=>hz) h
def Shut (p:Pr)(S:Int→List Int)(T:List Pr)(x:Pr)(s:List Int):Prop:=∀ low∈S x.2,low≠x.1→low≠p.1∧∀ nx,highT T low=some nx→nx∈s
theorem Shut.mono {x:Pr}{s s':List Int}(h:Shut p S T x s)(hs:∀ z∈s,z∈s'):Shut p S T x s':=fun low hl hne=>⟨(h low hl hne).1,fun nx hn=>hs _ ((h low hl hne).2 nx hn)⟩
def cntP (T:List Pr)(seen:List Int):Nat:=(T.filter fun q=>!seen.contains q.2).length
theorem cntP_mono {v v':List Int}(h:∀ x∈v,x∈v'):cntP T v'≤cntP T v:=by
 unfold cntP;rw[← List.countP_eq_length_filter,← List.countP_eq_length_filter];apply List.countP_mono_left;intro c _ hp;simp at hp ⊢;exact fun e=>hp (h _ e)
theorem cntP_lt:∀ {T:List Pr} {v:List Int} {q:Pr},q∈T→v.contains q.2=false→cntP T (v++[q.2])<cntP T v
 | [],_,_,hq,_=>by simp at hq
 | d::t,v,q,hq,hn=>by
  have hm:cntP t (v++[q.2])≤cntP t v:=cntP_mono (fun x hx=>by simp[hx]);have e1:∀ u:List Int,cntP (d::t) u=(if u.contains d.2 then 0 else 1)+cntP t u:=fun u=>by
   unfold cntP;rw[List.filter_cons];cases u.contains d.2 <;> simp <;> omega
  rw[e1,e1]
  rcases List.mem_cons.1 hq with rfl | hq'
  ·have:(v++[q.2]).contains q.2=true:=by simp
   rw[this,hn];simp;omega
  ·have:=cntP_lt hq' hn;cases h1:v.contains d.2
   ·cases h2:(v++[q.2]).contains d.2 <;> simp <;> omega
   ·have h2:(v++[q.2]).contains d.2=true:=by simp at h1 ⊢; exact .inl h1
    rw[h2];simp;exact this
def Done (p:Pr)(S:Int→List Int)(T:List Pr)(v s:List Int):Prop:=(∀ z∈v,z∈s)∧∀ low nx,highT T low=some nx→nx∈s→nx ∉ v→Shut p S T (low,nx) s
theorem loopP_false (hinj:∀ a b n,highT T a=some n→highT T b=some n→a=b){n:Nat}{rc:Pr→List Int→Bool×List Int}(hrc:∀ y v,cntP T v<n→(rc y v).1=false→Done p S T v (rc y v).2∧Shut p S T y (rc y v).2){x:Pr}:∀ (q v:List Int),cntP T v<n+1→(loopP p (highT T) rc x q v).1=false →
  Done p S T v (loopP p (highT T) rc x q v).2∧∀ low∈q,low≠x.1→low≠p.1∧∀ nx,highT T low=some nx→nx∈(loopP p (highT T) rc x q v).2
 | [],v,_,_=>⟨⟨fun z hz=>hz,fun _ _ _ h1 h2=>absurd h1 h2⟩,by simp⟩
 | low::r,v,hc,h=>by
  have ih:=loopP_false hinj hrc (x:=x) r;unfold loopP at h ⊢;split at h
  ·rename_i h1;rw[if_pos h1];obtain ⟨d1,d2⟩:=ih v hc h;exact⟨d1,fun z hz hne=>by
    rcases List.mem_cons.1 hz with rfl | hz
    ·exact absurd h1 hne
    ·exact d2 z hz hne⟩
  ·rename_i h1;rw[if_neg h1];split at h
   ·simp at h
   ·rename_i h2;rw[if_neg h2];cases hh:highT T low with
    | none =>
     rw[hh] at h;dsimp only at h ⊢;obtain ⟨d1,d2⟩:=ih v hc h;exact⟨d1,fun z hz hne=>by
      rcases List.mem_cons.1 hz with rfl | hz
      ·exact⟨h2,fun nx hn=>by rw[hh] at hn; cases hn⟩
      ·exact d2 z hz hne⟩
    | some nx =>
     rw[hh] at h;dsimp only at h ⊢;split at h
     ·rename_i h3;rw[if_pos h3];obtain ⟨d1,d2⟩:=ih v hc h;exact⟨d1,fun z hz hne=>by
       rcases List.mem_cons.1 hz with rfl | hz
       ·exact⟨h2,fun ny hn=>by
         rw[hh] at hn;injection hn with hn
         subst hn;exact d1.1 _ (List.contains_iff_mem.1 h3)⟩
       ·exact d2 z hz hne⟩
     ·rename_i h3;have h3':v.contains nx=false:=by simpa using h3
      rw[if_neg h3];split at h
      ·simp at h
      ·rename_i h4;rw[if_neg h4];have hlt:cntP T (v++[nx])<n:=by
        have:=cntP_lt (q:=(low,nx)) (highT_mem hh) h3';dsimp only at this;omega
       obtain ⟨e1,e2⟩:=hrc (low,nx) (v++[nx]) hlt (by simpa using h4);have hc2:cntP T (rc (low,nx) (v++[nx])).2<n+1:=by
        have:=cntP_mono (T:=T) e1.1;omega
       obtain ⟨d1,d2⟩:=ih _ hc2 h;refine⟨⟨fun z hz=>d1.1 z (e1.1 z (by simp[hz])),fun a b hab hb hnv=>?_⟩,fun z hz hne=>?_⟩
       ·by_cases h5:b∈(rc (low,nx) (v++[nx])).2
        ·by_cases h6:b∈v++[nx]
         ·rcases List.mem_append.1 h6 with h7 | h7
          ·exact absurd h7 hnv
          ·have h7:b=nx:=by simpa using h7
           subst h7;rw[hinj a low b hab hh];exact e2.mono d1.1
         ·exact (e1.2 a b hab h5 h6).mono d1.1
        ·exact d1.2 a b hab hb h5
       ·rcases List.mem_cons.1 hz with rfl | hz
        ·exact⟨h2,fun ny hn=>by
          rw[hh] at hn;injection hn with hn
          subst hn;exact d1.1 _ (e1.1 _ (by simp))⟩
        ·exact d2 z hz hne
theorem reachP_false (hinj:∀ a b n,highT T a=some n→highT T b=some n→a=b):∀ (n:Nat) (x:Pr) (v:List Int),cntP T v<n→(reachP p S (highT T) n x v).1=false→Done p S T v (reachP p S (highT T) n x v).2∧Shut p S T x (reachP p S (highT T) n x v).2
 | 0,_,_,hc,_=>absurd hc oM
 | n+1,x,v,hc,h=>loopP_false hinj (fun y w hw hy=>reachP_false hinj n y w hw hy) (S x.2) v hc h
theorem reach_ring {n:Nat}(hT:¬ Cyc (adjS S) T)(h1:((T++[p]).map Prod.fst).Nodup)(h2:(T.map Prod.snd).Nodup)(hn:T.length<n):(reachP p S (highT T) n p []).1=ringR (adjS S) (T++[p]):=by
 have hnd:(T++[p]).Nodup:=(List.pairwise_map.1 h1).imp fun h e=>h (by rw[e]);have hTf:(T.map Prod.fst).Nodup:=by
  rw[List.map_append] at h1;exact (List.nodup_append.1 h1).1
 have hp:∀ y∈T,y.1≠p.1:=fun y hy e=>by
  rw[List.map_append,List.nodup_append] at h1;exact h1.2.2 _ (List.mem_map.2 ⟨y,hy,I⟩) p.1 (by simp) e
 have hinj:∀ a b n,highT T a=some n→highT T b=some n→a=b:=fun a b k ha hb=>by
  have m1:=highT_mem ha;have m2:=highT_mem hb;obtain ⟨i,hi,e1⟩:=List.getElem_of_mem m1;obtain ⟨j,hj,e2⟩:=List.getElem_of_mem m2;have:(T.map Prod.snd)[i]'(by simpa using hi)=(T.map Prod.snd)[j]'(by simpa using hj):=by simp[e1,e2]
  have:=(List.getElem_inj h2).1 this;subst this;rw[e1] at e2;exact congrArg Prod.fst e2
 rw[Bool.eq_iff_iff,ringR_iff hnd,cyc_iff hT];refine⟨fun h=>reachP_true n p [] h,fun h=>?_⟩;refine Classical.byContradiction fun hf=>?_;have hf:(reachP p S (highT T) n p []).1=false:=by simpa using hf
 have hc:cntP T []<n:=by
  have:cntP T []≤T.length:=List.length_filter_le _ _;omega
 obtain ⟨d1,d2⟩:=reachP_false hinj n p [] hc hf;generalize (reachP p S (highT T) n p []).2=s at *;have key:∀ x z,Pth (adjS S) (T++[p]) x z→z=p→(x=p∨(x∈T∧x.2∈s))→False:=by
  intro x z hxz;have stepx:∀ x y:Pr,(x=p∨(x∈T∧x.2∈s))→y∈T++[p]→y≠x→adjS S x y=true→y≠p∧y∈T∧y.2∈s:=by
   intro x y hx hy hne ha;have hsh:Shut p S T x s:=by
    rcases hx with rfl | ⟨hx,hs⟩
    ·exact d2
    ·exact d1.2 x.1 x.2 (highT_of hTf hx) hs (by simp)
   have hl:y.1≠x.1:=fun e=>hne (by
    rcases List.mem_append.1 hy with hy1 | hy1
    ·rcases hx with rfl | ⟨hx,-⟩
     ·exact absurd e (hp y hy1)
     ·have a1:=highT_of hTf hx;have a2:=highT_of hTf hy1;rw[e,a1] at a2;injection a2 with a2
      exact Prod.ext e a2.symm
    ·have hy2:y=p:=by simpa using hy1
     subst hy2
     rcases hx with rfl | ⟨hx,-⟩
     ·rfl
     ·exact absurd e.symm (hp x hx))
   obtain ⟨g1,g2⟩:=hsh y.1 (List.contains_iff_mem.1 ha) hl;have hyp:y≠p:=fun e=>g1 (by rw[e])
   rcases List.mem_append.1 hy with hy | hy
   ·exact⟨hyp,hy,g2 y.2 (highT_of hTf hy)⟩
   ·exact absurd (by simpa using hy) hyp
  induction hxz with
  | one x y hy hne ha=>exact fun e hx=>(stepx x y hx hy hne ha).1 e
  | cons x y w hy hne ha _ ih =>
   intro e hx;obtain ⟨a1,a2,a3⟩:=stepx x y hx hy hne ha;exact ih e (.inr ⟨a2,a3⟩)
 exact key p p h I (.inl I)
end
def sidC (l:List Cl)(h:Int):List Int:=((findC l h).getD zeroC).sides.map Side.cell
def sgnP (l:List Cl)(low high:Int):Int:=(((findC l high).getD zeroC).sides.find? fun s=>decide (s.cell=low)).elim 0 Side.sign
def usedR (m:List Pr)(id:Int):Bool:=(m.any fun q=>decide (q.1=id))||(m.any fun q=>decide (q.2=id))
def pairBad (l:List Cl)(m:List Pr)(k:Nat):Bool:=usedR (m.take k) (m.getD k (0,0)).1||usedR (m.take k) (m.getD k (0,0)).2||decide (sgnP l (m.getD k (0,0)).1 (m.getD k (0,0)).2=0)
def adjR (l:List Cl)(x y:Pr):Bool:=decide (sgnP l y.1 x.2≠0)
def mcheckR (l:List Cl)(m:List Pr):Int:=if (checkC l).2≠0 then (checkC l).2 else if (List.range m.length).any (pairBad l m) then 42 else if ringR (adjR l) m then 43 else 0
def takeR (l:List Cl)(T:List Pr)(p:Pr):List Pr:=if mcheckR l (T++[p])=0 then T++[p] else T
def keepR (l:List Cl)(m:List Pr):List Pr:=m.foldl (takeR l) []
def pairsR (l:List Cl):List Pr:=(tabC l).flatMap fun c=>(aboveC l c.id).map fun h=>(c.id,h)
def extendR (l:List Cl)(m:List Pr):List Pr:=if (checkC l).2=0 then (pairsR l).foldl (takeR l) (keepR l m) else []
def takeP (r:Bool)(S:Int→List Int)(T:List Pr)(p:Pr):List Pr:=if r && !usedR T p.1 && !usedR T p.2&&(S p.2).contains p.1 && !(reachP p S (highT T) (T.length+1) p []).1 then T++[p] else T
def keepP (r:Bool)(S:Int→List Int)(m:List Pr):List Pr:=m.foldl (takeP r S) []
def pairsP (l:List Cl):List Pr:=(canonC l).flatMap fun c=>(aboveC l c.id).map fun h=>(c.id,h)
def extendP (r:Bool)(S:Int→List Int)(l:List Cl)(m:List Pr):List Pr:=(pairsP l).foldl (takeP r S) (keepP r S m)
structure Vd (l:List Cl)(T:List Pr):Prop where
 once:(T.map Prod.fst++T.map Prod.snd).Nodup
 side:∀ q∈T,q.1∈sidC l q.2
 free:¬ Cyc (adjS (sidC l)) T
theorem Vd.nil (l:List Cl):Vd l []:=⟨by simp,by simp,fun ⟨L,hL,hs⟩=>by
 obtain ⟨x,hx⟩:=List.exists_mem_of_ne_nil _ hL.1;exact absurd (hs x hx) (by simp)⟩
theorem used_iff {T:List Pr}{id:Int}:usedR T id=true↔id∈T.map Prod.fst++T.map Prod.snd:=by
 unfold usedR;simp only[Bool.or_eq_true,List.any_eq_true,decide_eq_true_eq,List.mem_append,List.mem_map]
section
variable {l:List Cl}(hl:(checkC l).2=0)
include hl
theorem rt_sides {h:Int}{s:Side}(hs:s∈((findC l h).getD zeroC).sides):∃ c,findC l h=some c∧c∈canonC l∧c.id=h∧(s.sign=1∨s.sign = -1)∧∃ d,findC l s.cell=some d∧d.dim=c.dim - 1:=by
 have hr:=rt_of hl;have ht:tabC l=canonC l:=tabC_strict hr.asc;cases hc:findC l h with
 | none=>rw[hc] at hs; simp[zeroC] at hs
 | some c =>
  rw[hc] at hs;have hs:s∈c.sides:=hs;have h1:findT (tabC l) h=some c:=hc;rw[ht] at h1;obtain ⟨h2,h3⟩:=findT_mem h1;obtain ⟨d,hd,hdd⟩:=(hr.form c h2).found s hs;refine⟨c,I,h2,h3,(hr.form c h2).sg s hs,d,?_,hdd⟩;show findT (tabC l) s.cell=some d;rw[ht];exact hd
theorem sgn_side (low high:Int):sgnP l low high≠0↔low∈sidC l high:=by
 unfold sgnP sidC;cases hf:((findC l high).getD zeroC).sides.find? fun s=>decide (s.cell=low) with
 | none =>
  refine⟨fun h=>absurd I h,fun h=>?_⟩;obtain ⟨s,hs,rfl⟩:=List.mem_map.1 h;have:=List.find?_eq_none.1 hf s hs;simp at this
 | some s =>
  have h1:=List.mem_of_find?_eq_some hf;have h2:s.cell=low:=by simpa using List.find?_some hf
  obtain ⟨_,_,_,_,hsg,_⟩:=rt_sides hl h1;refine⟨fun _=>List.mem_map.2 ⟨s,h1,h2⟩,fun _=>?_⟩;show s.sign≠0
  rcases hsg with e | e <;> rw[e] <;> decide
theorem adjR_eq:adjR l=adjS (sidC l):=by
 funext x y;unfold adjR adjS;rw[Bool.eq_iff_iff,decide_eq_true_iff,List.contains_iff_mem];exact sgn_side hl _ _
theorem side_ne {low high:Int}(h:low∈sidC l high):low≠high:=by
 rintro rfl;obtain ⟨s,hs,e⟩:=List.mem_map.1 h;obtain ⟨c,hc,-,-,-,d,hd,hdd⟩:=rt_sides hl hs;rw[e,hc] at hd;injection hd with hd
 subst hd;omega
theorem Vd.bad {T:List Pr}(hT:Vd l T)(p:Pr){k:Nat}(hk:k<T.length):pairBad l (T++[p]) k=false:=by
 have hg:(T++[p]).getD k (0,0)=T[k]:=by rw[List.getD_eq_getElem?_getD,List.getElem?_append_left hk,gE hk]; rfl
 have htk:(T++[p]).take k=T.take k:=List.take_append_of_le_length oM;have hm:=gM hk;have hs:=hT.side _ hm;have hno:∀ id,(id=T[k].1∨id=T[k].2)→usedR (T.take k) id=false:=fun id hid=>by
  rw[Bool.eq_false_iff];intro hu;rw[used_iff,List.mem_append,List.mem_map,List.mem_map] at hu;have hnd:=List.nodup_append.1 hT.once;have key:∀ q∈T.take k,∃ j,∃ hj:j<T.length,j<k∧q=T[j]:=fun q hq=>by
   obtain ⟨j,hj,e⟩:=List.getElem_of_mem hq;rw[List.length_take] at hj;exact⟨j,oM,oM,by rw[← e,List.getElem_take]⟩
  rcases hu with ⟨q,hq,e⟩ | ⟨q,hq,e⟩
  ·obtain ⟨j,hj,hjk,rfl⟩:=key q hq
   rcases hid with rfl | rfl
   ·have:=(List.getElem_inj (xs:=T.map Prod.fst) (i:=j) (j:=k) (h₀:=by simpa using hj) (h₁:=by simpa using hk) hnd.1).1 (by simpa using e);omega
   ·exact hnd.2.2 _ (List.mem_map.2 ⟨T[j],gM hj,I⟩) _ (List.mem_map.2 ⟨T[k],hm,I⟩) e
  ·obtain ⟨j,hj,hjk,rfl⟩:=key q hq
   rcases hid with rfl | rfl
   ·exact hnd.2.2 _ (List.mem_map.2 ⟨T[k],hm,I⟩) _ (List.mem_map.2 ⟨T[j],gM hj,I⟩) e.symm
   ·have:=(List.getElem_inj (xs:=T.map Prod.snd) (i:=j) (j:=k) (h₀:=by simpa using hj) (h₁:=by simpa using hk) hnd.2.1).1 (by simpa using e);omega
 unfold pairBad;rw[hg,htk,hno _ (.inl rfl),hno _ (.inr rfl),Bool.false_or,Bool.false_or,decide_eq_false_iff_not];exact (sgn_side hl _ _).2 hs
theorem mcheck_snoc {T:List Pr}(hT:Vd l T)(p:Pr):mcheckR l (T++[p])=if usedR T p.1||usedR T p.2 || !(sidC l p.2).contains p.1 then 42 else if ringR (adjS (sidC l)) (T++[p]) then 43 else 0:=by
 have h1:(List.range (T++[p]).length).any (pairBad l (T++[p]))=(usedR T p.1||usedR T p.2 || !(sidC l p.2).contains p.1):=by
  have hg:(T++[p]).getD T.length (0,0)=p:=by rw[List.getD_eq_getElem?_getD]; simp
  have htk:(T++[p]).take T.length=T:=by simp
  have hlast:pairBad l (T++[p]) T.length=(usedR T p.1||usedR T p.2 || !(sidC l p.2).contains p.1):=by
   unfold pairBad;rw[hg,htk];congr 1;rw[Bool.eq_iff_iff,decide_eq_true_iff,Bool.not_eq_true',← Bool.not_eq_true,List.contains_iff_mem,← sgn_side hl];exact Decidable.not_not.symm
  have hbefore:(List.range T.length).any (pairBad l (T++[p]))=false:=List.any_eq_false.2 fun k hk=>by
   rw[hT.bad hl p (List.mem_range.1 hk)];decide
  rw[List.length_append,List.length_singleton,List.range_succ,List.any_append,hbefore,Bool.false_or];simp[hlast]
 unfold mcheckR;rw[if_neg (by rw[hl]; decide),h1,adjR_eq hl]
theorem Vd.snoc {T:List Pr}(hT:Vd l T){p:Pr}(h1:usedR T p.1=false)(h2:usedR T p.2=false)(h3:p.1∈sidC l p.2)(h4:ringR (adjS (sidC l)) (T++[p])=false):Vd l (T++[p]):=by
 have hne:=side_ne hl h3;have u1:p.1 ∉ T.map Prod.fst++T.map Prod.snd:=fun h=>by rw[used_iff.2 h] at h1; cases h1
 have u2:p.2 ∉ T.map Prod.fst++T.map Prod.snd:=fun h=>by rw[used_iff.2 h] at h2; cases h2
 rw[List.mem_append] at u1 u2;have hnd:=List.nodup_append.1 hT.once;have honce:((T++[p]).map Prod.fst++(T++[p]).map Prod.snd).Nodup:=by
  rw[List.map_append,List.map_append,List.map_singleton,List.map_singleton,List.nodup_append];refine⟨?_,?_,?_⟩
  ·rw[List.nodup_append];exact⟨hnd.1,by simp,fun a ha b hb=>by
    have hb:b=p.1:=by simpa using hb
    subst hb;exact fun e=>u1 (.inl (e ▸ ha))⟩
  ·rw[List.nodup_append];exact⟨hnd.2.1,by simp,fun a ha b hb=>by
    have hb:b=p.2:=by simpa using hb
    subst hb;exact fun e=>u2 (.inr (e ▸ ha))⟩
  ·intro a ha b hb
   rcases List.mem_append.1 ha with ha | ha
   ·rcases List.mem_append.1 hb with hb | hb
    ·exact hnd.2.2 a ha b hb
    ·have hb:b=p.2:=by simpa using hb
     subst hb;exact fun e=>u2 (.inl (e ▸ ha))
   ·have ha:a=p.1:=by simpa using ha
    subst ha
    rcases List.mem_append.1 hb with hb | hb
    ·exact fun e=>u1 (.inr (e ▸ hb))
    ·have hb:b=p.2:=by simpa using hb
     subst hb;exact hne
 refine⟨honce,fun q hq=>?_,fun h=>?_⟩
 ·rcases List.mem_append.1 hq with hq | hq
  ·exact hT.side q hq
  ·have hq:q=p:=by simpa using hq
   subst hq;exact h3
 ·have hnd2:(T++[p]).Nodup:=(List.pairwise_map.1 (List.nodup_append.1 honce).1).imp fun h e=>h (by rw[e]);rw[(ringR_iff hnd2).2 h] at h4;cases h4
theorem take_eq {T:List Pr}(hT:Vd l T)(p:Pr):takeR l T p=takeP true (sidC l) T p∧Vd l (takeR l T p):=by
 unfold takeR takeP;rw[mcheck_snoc hl hT p];by_cases hb:(usedR T p.1||usedR T p.2 || !(sidC l p.2).contains p.1)=true
 ·rw[if_pos hb,if_neg dC];refine⟨?_,hT⟩;have:(true && !usedR T p.1 && !usedR T p.2&&(sidC l p.2).contains p.1)=false:=by
   revert hb
   cases usedR T p.1 <;> cases usedR T p.2 <;> cases (sidC l p.2).contains p.1 <;> simp
  rw[this];rfl
 ·have hb':(usedR T p.1||usedR T p.2 || !(sidC l p.2).contains p.1)=false:=by simpa using hb
  rw[Bool.or_eq_false_iff,Bool.or_eq_false_iff] at hb';obtain ⟨⟨h1,h2⟩,h3⟩:=hb';have h3:(sidC l p.2).contains p.1=true:=by simpa using h3
  have hp:=List.contains_iff_mem.1 h3;have hne:=side_ne hl hp;rw[if_neg hb];have u1:p.1 ∉ T.map Prod.fst++T.map Prod.snd:=fun h=>by rw[used_iff.2 h] at h1; cases h1
  have hnd:=List.nodup_append.1 hT.once;have hreach:=reach_ring (p:=p) (n:=T.length+1) hT.free (by
   rw[List.map_append,List.map_singleton,List.nodup_append];exact⟨hnd.1,by simp,fun a ha b hb=>by
    have hb:b=p.1:=by simpa using hb
    subst hb;exact fun e=>u1 (List.mem_append.2 (.inl (e ▸ ha)))⟩) hnd.2.1 (Nat.lt_succ_self _)
  rw[hreach,h1,h2,h3];cases hr:ringR (adjS (sidC l)) (T++[p]) with
  | true=>exact⟨rfl,hT⟩
  | false=>exact⟨rfl,hT.snoc hl h1 h2 hp hr⟩
theorem fold_take:∀ (m:List Pr) {T:List Pr},Vd l T→m.foldl (takeR l) T=m.foldl (takeP true (sidC l)) T∧Vd l (m.foldl (takeR l) T)
 | [],_,h=>⟨rfl,h⟩
 | p::m,T,h=>by
  obtain ⟨h1,h2⟩:=take_eq hl h p;obtain ⟨h3,h4⟩:=fold_take m h2;rw[List.foldl_cons,List.foldl_cons,← h1];exact⟨h3,h4⟩
theorem pairs_eq:pairsP l=pairsR l:=by
 unfold pairsP pairsR;rw[tabC_strict (rt_of hl).asc]
end
theorem takeR_wrong {l:List Cl}(h:(checkC l).2≠0)(T:List Pr)(p:Pr):takeR l T p=T:=by
 unfold takeR mcheckR;rw[if_pos h,if_neg h]
theorem keepR_wrong {l:List Cl}(h:(checkC l).2≠0)(m T:List Pr):m.foldl (takeR l) T=T:=by
 induction m generalizing T with
 | nil=>rfl
 | cons p m ih=>rw[List.foldl_cons,takeR_wrong h,ih]
theorem keepP_wrong (S:Int→List Int)(m T:List Pr):m.foldl (takeP false S) T=T:=by
 induction m generalizing T with
 | nil=>rfl
 | cons p m ih=>rw[List.foldl_cons]; exact ih T
theorem keep_eq (l:List Cl)(m:List Pr):keepP (decide ((checkC l).2=0)) (sidC l) m=keepR l m:=by
 unfold keepP keepR;by_cases h:(checkC l).2=0
 ·rw[decide_eq_true h];exact (fold_take h m (Vd.nil l)).1.symm
 ·rw[decide_eq_false h,keepP_wrong,keepR_wrong h]
theorem extend_eq (l:List Cl)(m:List Pr):extendP (decide ((checkC l).2=0)) (sidC l) l m=extendR l m:=by
 unfold extendP extendR;by_cases h:(checkC l).2=0
 ·have hk:=keep_eq l m;rw[decide_eq_true h] at hk ⊢;rw[hk,if_pos h,pairs_eq h];exact (fold_take h _ (fold_take h m (Vd.nil l)).2).1.symm
 ·unfold keepP;rw[decide_eq_false h,keepP_wrong,keepP_wrong,if_neg h]
theorem ins_mono {α β:Type}{ka:α→Int}{kb:β→Int}{f:α→β}(h:∀ a b,kb (f a)≤kb (f b)↔ka a≤ka b)(x:α):∀ l:List α,ins kb (f x) (l.map f)=(ins ka x l).map f
 | []=>rfl
 | y::r=>by
  simp only[List.map_cons,ins,h];split
  ·rfl
  ·rw[ins_mono h x r]; rfl
theorem sortBy_mono {α β:Type}{ka:α→Int}{kb:β→Int}{f:α→β}(h:∀ a b,kb (f a)≤kb (f b)↔ka a≤ka b):∀ l:List α,sortBy kb (l.map f)=(sortBy ka l).map f
 | []=>rfl
 | x::r=>by
  simp only[List.map_cons,sortBy];rw[sortBy_mono h r,ins_mono h]
theorem canonC_norm (l:List Cl):canonC (l.map normC)=canonC l:=by
 unfold canonC;rw[sortBy_mono (ka:=Cl.id) (kb:=Cl.id) (f:=normC) (fun _ _=>Iff.rfl),List.map_map];exact List.map_congr_left fun c _=>normC_idem c
theorem canon_of_perm {l F:List Cl}(hF:Rt F)(hp:(l.map normC).Perm F):canonC l=F:=by
 rw[← canonC_norm];exact perm_canon hF hp
theorem canonC_perm0 (l:List Cl):(l.map normC).Perm (canonC l):=((sortBy_perm (key:=Cl.id) l).map normC).symm
def shS (m:Int)(s:Side):Side:=⟨s.cell+m,s.sign⟩
def shC (m:Int)(c:Cl):Cl:=⟨c.id+m,c.dim,c.sides.map (shS m)⟩
theorem normC_sh (m:Int)(c:Cl):normC (shC m c)=shC m (normC c):=by
 unfold normC shC;dsimp only;rw[sortBy_mono (ka:=Side.cell) (kb:=Side.cell) (f:=shS m) (fun a b=>by unfold shS; dsimp only; omega)]
theorem find_sh (m:Int)(k:Int):∀ B:List Cl,findT (B.map (shC m)) (k+m)=(findT B k).map (shC m)
 | []=>rfl
 | c::B=>by
  have ih:=find_sh m k B;unfold findT at ih ⊢;rw[List.map_cons,List.find?_cons,List.find?_cons,ih];by_cases e:c.id=k
  ·have e2:(shC m c).id=k+m:=by unfold shC; dsimp only; omega
   rw[decide_eq_true e,decide_eq_true e2]; rfl
  ·have e2:¬ (shC m c).id=k+m:=by unfold shC; dsimp only; omega
   rw[decide_eq_false e,decide_eq_false e2]
theorem sides_sh (m:Int)(B:List Cl)(x:Side):sidesOf (B.map (shC m)) (shS m x)=(sidesOf B x).map (shS m):=by
 unfold sidesOf;rw[show (shS m x).cell=x.cell+m from rfl,find_sh];cases findT B x.cell <;> rfl
theorem around_sh (m:Int)(B:List Cl)(c:Cl):aroundC (B.map (shC m)) (shC m c)=aroundC B c:=by
 rw[aroundC_L,aroundC_L];have h:lookL (B.map (shC m)) (shC m c)=renL (fun k=>k+m) (lookL B c):=by
  unfold lookL renL;rw[show (shC m c).sides=c.sides.map (shS m) from rfl,List.map_map,List.map_map];refine List.map_congr_left fun x _=>?_;show (x.sign,sidesOf (B.map (shC m)) (shS m x))=(x.sign,(sidesOf B x).map (renS fun k=>k+m));rw[sides_sh];rfl
 rw[h];exact aroundL_ren fun a _ b _ e=>by omega
theorem rt_shift {B:List Cl}(h:Rt B){m:Int}(hm:0≤m):Rt (B.map (shC m)):=by
 refine⟨by rw[List.length_map]; exact h.few,?_,fun x hx=>?_,fun x hx=>?_,fun x hx hd=>?_⟩
 ·rw[List.pairwise_map];exact h.asc.imp fun h=>by unfold shC; dsimp only; omega
 ·obtain ⟨c,hc,rfl⟩:=List.mem_map.1 hx;have:=h.pos c hc;unfold shC;dsimp only;omega
 ·obtain ⟨c,hc,rfl⟩:=List.mem_map.1 hx;have hf:=h.form c hc;refine⟨hf.dim,?_,fun x hx=>?_,?_,fun x hx=>?_,fun h1=>?_⟩
  ·have:=hf.cnt;unfold cntBad at this ⊢;unfold shC;simpa using this
  ·obtain ⟨s,hs,rfl⟩:=List.mem_map.1 hx;obtain ⟨d,hd,hdd⟩:=hf.found s hs;refine⟨shC m d,?_,hdd⟩;show findT (B.map (shC m)) (s.cell+m)=_;rw[find_sh,hd];rfl
  ·show (c.sides.map (shS m)).Pairwise _;rw[List.pairwise_map];exact hf.asc.imp fun h=>by unfold shS; dsimp only; omega
  ·obtain ⟨s,hs,rfl⟩:=List.mem_map.1 hx;exact hf.sg s hs
  ·have:=hf.one h1;unfold sumS at this ⊢;show ((c.sides.map (shS m)).map Side.sign).sum=0;rw[List.map_map];exact this
 ·obtain ⟨c,hc,rfl⟩:=List.mem_map.1 hx;rw[around_sh];exact h.around c hc hd
theorem find_append (A B:List Cl)(k:Int):findT (A++B) k=(findT A k).or (findT B k):=by
 unfold findT;exact List.find?_append
theorem around_look {A B:List Cl}{c:Cl}(h:∀ x∈c.sides,sidesOf A x=sidesOf B x):aroundC A c=aroundC B c:=by
 rw[aroundC_L,aroundC_L];unfold lookL;rw[List.map_congr_left fun x hx=>by rw[h x hx]]
theorem rt_append {A B:List Cl}(hA:Rt A)(hB:Rt B)(hlt:∀ a∈A,∀ b∈B,a.id<b.id)(hf:A.length+B.length≤4000):Rt (A++B):=by
 have fa:∀ k d,findT A k=some d→findT (A++B) k=some d:=fun k d hd=>by rw[find_append,hd]; rfl
 have fb:∀ k d,findT B k=some d→findT (A++B) k=some d:=fun k d hd=>by
  rw[find_append];cases ha:findT A k with
  | none=>exact hd
  | some a =>
   obtain ⟨h1,h2⟩:=findT_mem ha;obtain ⟨h3,h4⟩:=findT_mem hd;have:=hlt a h1 d h3;omega
 have form:∀ C:List Cl,Rt C→(∀ k d,findT C k=some d→findT (A++B) k=some d)→∀ x∈C,Fm (A++B) x∧(x.dim>1→aroundC (A++B) x=0):=fun C hC hfd x hx=>by
  have hfm:=hC.form x hx;refine⟨⟨hfm.dim,hfm.cnt,fun s hs=>?_,hfm.asc,hfm.sg,hfm.one⟩,fun hd=>?_⟩
  ·obtain ⟨d,hd,hdd⟩:=hfm.found s hs;exact⟨d,hfd _ _ hd,hdd⟩
  ·rw[← hC.around x hx hd];refine around_look fun s hs=>?_;obtain ⟨d,hd,-⟩:=hfm.found s hs;unfold sidesOf;rw[hd,hfd _ _ hd]
 refine⟨by rw[List.length_append]; exact hf,List.pairwise_append.2 ⟨hA.asc,hB.asc,hlt⟩,fun x hx=>?_,fun x hx=>?_,fun x hx=>?_⟩
 ·rcases List.mem_append.1 hx with h | h
  ·exact hA.pos x h
  ·exact hB.pos x h
 ·rcases List.mem_append.1 hx with h | h
  ·exact (form A hA fa x h).1
  ·exact (form B hB fb x h).1
 ·rcases List.mem_append.1 hx with h | h
  ·exact (form A hA fa x h).2
  ·exact (form B hB fb x h).2
def besideC (m:Int)(a b:List Cl):List Cl:=a++b.map (shC m)
theorem beside_right {m:Int}{a b:List Cl}(ha:Rt (canonC a))(hb:Rt (canonC b))(hm:0≤m)(hmx:∀ c∈a,c.id≤m)(hf:a.length+b.length≤4000):Rt (canonC (besideC m a b)):=by
 have hF:Rt (canonC a++(canonC b).map (shC m)):=by
  refine rt_append ha (rt_shift hb hm) (fun x hx y hy=>?_) (by rw[List.length_map,canonC_length,canonC_length]; exact hf);obtain ⟨d,hd,rfl⟩:=List.mem_map.1 hy;have h1:=hb.pos d hd;obtain ⟨e,he,rfl⟩:=List.mem_map.1 ((canonC_perm0 a).mem_iff.2 hx);have h2:=hmx e he;show e.id<d.id+m;omega
 rw[canon_of_perm hF ?_]
 ·exact hF
 ·unfold besideC;rw[List.map_append,List.map_map,show normC ∘ shC m=shC m ∘ normC from funext fun c=>normC_sh m c,← List.map_map];exact (canonC_perm0 a).append ((canonC_perm0 b).map _)
theorem tops_not {l:List Cl}{t:Int}(h:t∈topsC l):∀ c∈tabC l,∀ x∈c.sides,x.cell≠t:=fun c hc x hx e=>by
 unfold topsC at h;obtain ⟨d,hd,rfl⟩:=List.mem_map.1 h;have:=(List.mem_filter.1 hd).2;rw[Bool.not_eq_true',← Bool.not_eq_true] at this;refine this ?_;unfold sideOf;rw[List.any_eq_true];refine⟨c,hc,?_⟩;unfold hasC;rw[List.any_eq_true];exact⟨x,hx,by simpa using e⟩
theorem gone_right {l:List Cl}(hr:Rt (canonC l)){t:Int}(h:t∈topsC l):Rt (canonC (l.filter fun c=>decide (c.id≠t))):=by
 have ht:tabC l=canonC l:=tabC_strict hr.asc;have hp:ClosedP (canonC l) fun k=>decide (k≠t):=fun c hc _ x hx=>by
  have:=tops_not h c (by rw[ht]; exact hc) x hx;simpa using this
 have hF:=part_right hr hp;rw[canon_of_perm hF ?_]
 ·exact hF
 ·unfold part;have h1:(l.filter fun c=>decide (c.id≠t)).map normC=(l.map normC).filter fun c=>decide (c.id≠t):=by
   rw[List.filter_map];rfl
  rw[h1];exact (canonC_perm0 l).filter _
theorem max_dim:∀ {A:List Cl},A≠[]→∃ c∈A,∀ d∈A,d.dim≤c.dim
 | [],h=>absurd rfl h
 | [a],_=>⟨a,by simp,fun d hd=>by simp at hd; subst hd; omega⟩
 | a::b::r,_=>by
  obtain ⟨c,hc,hm⟩:=max_dim (A:=b::r) (by simp);by_cases h:a.dim≤c.dim
  ·exact⟨c,List.mem_cons_of_mem _ hc,fun d hd=>by
    rcases List.mem_cons.1 hd with rfl | hd
    ·exact h
    ·exact hm d hd⟩
  ·exact⟨a,by simp,fun d hd=>by
    rcases List.mem_cons.1 hd with rfl | hd
    ·omega
    ·have:=hm d hd; omega⟩
theorem tops_some {l:List Cl}(hr:Rt (canonC l))(h:l≠[]):topsC l≠[]:=by
 have ht:tabC l=canonC l:=tabC_strict hr.asc;have hne:canonC l≠[]:=fun e=>h (List.eq_nil_of_length_eq_zero (by rw[← canonC_length,e]; rfl));obtain ⟨c,hc,hm⟩:=max_dim hne;intro e;have hin:c.id∈topsC l:=by
  unfold topsC;rw[ht];refine List.mem_map.2 ⟨c,List.mem_filter.2 ⟨hc,?_⟩,I⟩;rw[Bool.not_eq_true',← Bool.not_eq_true];intro hs;unfold sideOf at hs;obtain ⟨d,hd,hx⟩:=List.any_eq_true.1 hs;unfold hasC at hx;obtain ⟨x,hx,e⟩:=List.any_eq_true.1 hx;have e:x.cell=c.id:=by simpa using e
  obtain ⟨f,hf,hfd⟩:=(hr.form d hd).found x hx;rw[e,hr.find hc] at hf;injection hf with hf
  subst hf;have:=hm d hd;omega
 rw[e] at hin;simp at hin
def sideB (s:Int):Side:=if s<0 then ⟨-s,-1⟩ else ⟨s,1⟩
def cellB (id dim:Int)(r:List Int):Cl:=⟨id,dim,r.map sideB⟩
def rowsC:Int→List (List Int)→List Cl
 | _,[]=>[]
 | n,r::t=>cellB n (r.headD 0) r.tail::rowsC (n+1) t
def sphRow (n:Int):List Int:=if n % 2=0 then [n,2 * n - 1,-(2 * n)] else [n,-(2 * n - 1),2 * n]
def sphL:Nat→List (List Int)
 | 0=>[[0],[0]]
 | n+1=>sphL n++[sphRow (n+1),sphRow (n+1)]
def mooreA (n:Nat):List (List Int):=(List.range (3 * n)).map fun k:Nat=>[1,-1,((2+k % 3:Nat):Int)]
def mooreB (n:Nat):List (List Int):=(List.range (3 * n)).map fun k:Nat=>[2,((8+k:Nat):Int),((5+k % 3:Nat):Int),-((8+(k+1) % (3 * n):Nat):Int)]
def mooreL (n:Nat):List (List Int):=[[0],[0],[0],[0],[1,-2,3],[1,-3,4],[1,-4,2]]++mooreA n++mooreB n
def spcL:Nat→List (List Int)
 | 0=>[[0]]
 | 1=>sphL 1
 | 2=>sphL 2
 | 3=>sphL 3
 | 4=>sphL 0
 | 5=>[[0],[0],[0],[1,-1,2],[1,-1,2],[1,-2,3],[1,-2,3],[1,-1,3],[1,-1,3],[2,4,6,-8],[2,4,7,-9],[2,5,6,-9],[2,5,7,-8]]
 | 6=>mooreL 3
 | 7=>[[0],[0],[0],[0],[1,-1,2],[1,-1,2],[1,-3,4],[1,-3,4],[1,-1,3],[1,-2,4],[1,-3,1],[1,-4,2],[2,5,10,-7,-9],[2,6,10,-8,-9],[2,7,12,-6,-11],[2,8,12,-5,-11]]
 | 8=>[[0],[0],[0],[0],[1,-1,2],[1,-1,2],[1,-3,4],[1,-3,4],[1,-1,3],[1,-2,4],[1,-3,1],[1,-4,2],[2,5,10,-7,-9],[2,6,10,-8,-9],[2,7,12,-5,-11],[2,8,12,-6,-11]]
 | _=>mooreL 4
def spaceC (n:Nat):List Cl:=rowsC 1 (spcL n)
theorem space_check:∀ n,n<10→(checkC (spaceC n)).2=0∧(spaceC n).length≤31∧∀ c∈spaceC n,0<c.id∧c.id≤31∧c.sides.length≤4:=by decide +kernel
theorem space_right {n:Nat}(h:n<10):Rt (canonC (spaceC n)):=rt_of (space_check n h).1
def goneStep (c:List Cl)(q:Nat):List Cl:=c.filter fun x=>decide (x.id≠(topsC c).getD (q % (topsC c).length) 0)
def goneTo (G:List Nat)(c:List Cl):Nat→List Cl
 | 0=>c
 | k+1=>if (goneTo G c k).length>1 then goneStep (goneTo G c k) (G.getD k 0) else goneTo G c k
def maxId (c:List Cl):Int:=c.foldl (fun m x=>max m x.id) 0
def bitsL (n:Int):List Int:=(((List.range 6).filter fun v:Nat=>decide (n / 2 ^ v % 2=1)).take 4).map fun v:Nat=>(v:Int)
def simL (L:List Int):List Cl:=simpC ((L.take 5).map bitsL)
def firstC (sp:Nat)(L:List Int):List Cl:=if sp % 26≥10 then simL L else spaceC (sp % 10)
def complexC (sp:Nat)(L:List Int)(G:List Nat)(bs:Nat):List Cl :=
 if bs % 4=3∧(goneTo G (firstC sp L) (min 6 G.length)).length<26 then besideC (maxId (goneTo G (firstC sp L) (min 6 G.length))) (goneTo G (firstC sp L) (min 6 G.length)) (spaceC (bs / 4 % 5)) else goneTo G (firstC sp L) (min 6 G.length)
structure Gd8 (l:List Cl):Prop where
 right:Rt (canonC l)
 ids:∀ c∈l,0<c.id∧c.id≤4000
theorem Gd8.few {l:List Cl}(h:Gd8 l):l.length≤4000:=by
 have:=h.right.few;rwa [canonC_length] at this
theorem first_good (sp:Nat)(L:List Int):Gd8 (firstC sp L):=by
 unfold firstC;split
 ·unfold simL;obtain ⟨h1,h2⟩:=rt_simp ((L.take 5).map bitsL);have hc:Rt (canonC (simpC ((L.take 5).map bitsL))):=by rw[h1.canon]; exact h1
  exact⟨hc,fun c hc=>⟨h1.pos c hc,by have:=h2 c hc; have:=h1.few; omega⟩⟩
 ·have:=space_check (sp % 10) (Nat.mod_lt _ dC);exact⟨space_right (Nat.mod_lt _ dC),fun c hc=>by have:=this.2.2 c hc; omega⟩
theorem gone_good {c:List Cl}(h:Gd8 c)(hl:c.length>1)(q:Nat):Gd8 (goneStep c q):=by
 have hne:c≠[]:=fun e=>by subst e; simp at hl
 have ht:=tops_some h.right hne;have hlt:q % (topsC c).length<(topsC c).length:=Nat.mod_lt _ (List.length_pos_iff.2 ht);have hm:(topsC c).getD (q % (topsC c).length) 0∈topsC c:=by
  rw[List.getD_eq_getElem?_getD,gE hlt];exact gM hlt
 exact⟨gone_right h.right hm,fun d hd=>h.ids d (List.mem_filter.1 hd).1⟩
theorem goneTo_good {c:List Cl}(h:Gd8 c)(G:List Nat):∀ k,Gd8 (goneTo G c k)
 | 0=>h
 | k+1=>by
  have ih:=goneTo_good h G k;rw[goneTo];split
  ·rename_i hl;exact gone_good ih hl _
  ·exact ih
theorem goneTo_stop {c:List Cl}{G:List Nat}{k:Nat}(h:¬ (goneTo G c k).length>1):∀ {n:Nat},k≤n→goneTo G c n=goneTo G c k
 | 0,hn=>by rw[show k=0 by omega]
 | n+1,hn=>by
  by_cases e:k=n+1
  ·rw[e]
  ·have ih:=goneTo_stop h (n:=n) oM;rw[goneTo,ih,if_neg h]
theorem maxId_ge (c:List Cl):∀ m:Int,m≤c.foldl (fun m x=>max m x.id) m∧∀ x∈c,x.id≤c.foldl (fun m x=>max m x.id) m:=by
 induction c with
 | nil=>exact fun m=>⟨Int.le_refl _,by simp⟩
 | cons a c ih =>
  intro m;obtain ⟨h1,h2⟩:=ih (max m a.id);rw[List.foldl_cons];refine⟨oM,fun x hx=>?_⟩
  rcases List.mem_cons.1 hx with rfl | hx
  ·omega
  ·exact h2 x hx
theorem maxId_le {c:List Cl}{K:Int}(h:∀ x∈c,x.id≤K):∀ m:Int,m≤K→c.foldl (fun m x=>max m x.id) m≤K:=by
 induction c with
 | nil=>exact fun m hm=>hm
 | cons a c ih =>
  intro m hm;rw[List.foldl_cons];exact ih (fun x hx=>h x (by simp[hx])) _ (by have:=h a (by simp); omega)
theorem complex_good (sp:Nat)(L:List Int)(G:List Nat)(bs:Nat):Rt (canonC (complexC sp L G bs))∧∀ c∈complexC sp L G bs,0<c.id∧c.id≤8000:=by
 have h:=goneTo_good (first_good sp L) G (min 6 G.length);unfold complexC;generalize goneTo G (firstC sp L) (min 6 G.length)=c at *;split
 ·rename_i hl;have hs:=space_check (bs / 4 % 5) oM;have hm:=maxId_ge c 0;have hM:=maxId_le (K:=4000) (fun x hx=>(h.ids x hx).2) 0 dC;refine⟨beside_right h.right (space_right oM) hm.1 hm.2 oM,fun x hx=>?_⟩;unfold besideC at hx
  rcases List.mem_append.1 hx with hx | hx
  ·have:=h.ids x hx; omega
  ·obtain ⟨d,hd,rfl⟩:=List.mem_map.1 hx;have:=hs.2.2 d hd;have h1:=hm.1;unfold maxId shC;dsimp only;omega
 ·exact⟨h.right,fun x hx=>by have:=h.ids x hx; omega⟩
set_option maxRecDepth 100000
set_option maxHeartbeats 1000000
def encPr:Enc Pr 2:=⟨fun p=>[vi p.1,vi p.2],fun _=>rfl,fun _ u hu=>by simp at hu; rcases hu with rfl | rfl <;> rfl,by decide⟩
theorem SU.indexAddrC {P:Program}{N:Nat}{f:Fr}{dst:Option Tmp}{ty:TypeId}{pos:String}{af:Array Edge}{gd:Option (Nat×Bool)}{x y:Operand}{T e:TypeId}{k n o:Nat}{i:Int}{v:Value}(hT:P.underlying T=some (.array n e))(hs:∀ w,(sizeOf e).run P w = .ok k w)
  (hx:ev f x=some (cptr v o)) (hb:based v=true) (hy:ev f y=some (vi i)) (h0:0≤i) (h1:i<n) :
  SU P N ⟨dst,.indexAddr T x y,ty,pos,af,gd⟩ f (cptr v (o+i.toNat * k)):=by
 cases v <;> simp[based] at hb
 rename_i p m c;cases p <;> simp at hb
 simp only[cptr] at hx ⊢;have:=iB (P:=P) (N:=N) (dst:=dst) (ty:=ty) (pos:=pos) (af:=af) (gd:=gd) hT hs hx hy h0 h1;rwa [Nat.add_assoc] at this
theorem Tryz.sty31:STy Tryz.prog 31 44 2 16 (.agg #[vi 0,vi 0]):=⟨underlying31,⟨t44,by kernel_rfl,by kernel_rfl,by kernel_rfl,by kernel_rfl⟩,rfl,by decide⟩
theorem pairNeq (x y:Pr)(w:World):(binOp .neq 44 (.agg (encPr.enc x).toArray) (.agg (encPr.enc y).toArray)).run Tryz.prog w = .ok (.bool (decide (x≠y))) w:=by
 have hi:Tryz.prog.info? 3=some t3:=by kernel_rfl
 have hc:Tryz.prog.cellsOf 3=1:=by kernel_rfl
 rw[run_neq_struct,run_equalIn_array w 9999 _ _ uT44 hi,hc];obtain ⟨a,b⟩:=x;obtain ⟨c,d⟩:=y;have h1:=run_equalIn_int (P:=Tryz.prog) w 9998 3 .i64 .i64 a c uT3;have h2:=run_equalIn_int (P:=Tryz.prog) w 9998 3 .i64 .i64 b d uT3;have hr:List.range 2=[0,1]:=rfl;rw[hr];simp only[Op.eqItems,encPr,Go.part,Sem.run_bind,iT3,Result.andThen_ok];simp[h1,h2];by_cases hac:a=c <;> by_cases hbd:b=d <;> simp[hac,hbd]
theorem SU.neqPr {N:Nat}{f:Fr}{dst:Option Tmp}{ty:TypeId}{pos:String}{af:Array Edge}{gd:Option (Nat×Bool)}{x y:Operand}{a b:Pr}{U:TypeId}(hx:ev f x=some (.agg (encPr.enc a).toArray))(hy:ev f y=some (.agg (encPr.enc b).toArray)) :
  SU Tryz.prog N ⟨dst,.binOp .neq 44 x y U,ty,pos,af,gd⟩ f (.bool (decide (a≠b))):=fun ac w ha=>by
 have hg:=run_eqGuard_agg (P:=Tryz.prog) w .neq 44 x y (encPr.enc a).toArray (encPr.enc b).toArray eqGuardType44;simp only[execOp,ha.ev hx,ha.ev hy,Sem.run_bind,hg,Result.andThen_ok,pairNeq];rfl
theorem same13_refl (E:World)(g:PH)(s:Own)(v u:Value)(m:List Pr)(hv:SlA encPr g v m)(hu:SlA encPr g u m)(hl:m.length<1099511627776) :
  Ctr Tryz.prog E 12 #[v,u] g s (fun r g' s'=>r=vb true∧g=g'∧s=s'):=by
 obtain ⟨p,c,rfl⟩:=SlA.form hv;obtain ⟨q,d,rfl⟩:=SlA.form hu;refine Ctr.of (args:=[.slice p m.length c,.slice q m.length d]) func12 I ntmps12 (bE I) ?_;refine rZ (aT I (sQ (sW I (lU (eN uT31 I) (lM I (lU (eN uT31 I) (lU (SU.eq (v':=vb false) (nQ I I) (congrArg vb (decide_eq_false (by simp)))) ?_)))))));refine tZ (cF I (kP (tN (sQ (rZ (aT I (bK ?_)))))));refine oP (ι:=Nat) (fun k=>[(0,.slice p m.length c),(1,.slice q m.length d),(5,vi k)]) (fun _=>g) (fun _=>s) (fun k=>k≤m.length) (fun k=>m.length - k) 0 sB I I (Nat.zero_le _) ?_;rintro k hk;refine sQ (sW I (lM I (lU (eN uT31 I) (yL I (tZ ?_)))));refine iP I (fun hlt=>?_) (fun hlt=>?_)
 ·have hkl:k<m.length:=oM;have hb1:=SlA.based hv oM;have hb2:=SlA.based hu oM;refine kP (tN (sQ (bK (sQ ?_))));refine dW [] [(0,2),(1,2),(2,2),(3,1),(4,2),(5,2),(6,2),(7,1),(8,2)] Tryz.mixed kR ?_;refine yM I (yM I (pU I (iA uT31 zT44 I I hb1 oM sL) ?_));refine pQ I (eA iT44 zT44 I (SlA.rd hv) (gE hkl)) dC ?_;refine yM I (yM I (pU I (iA uT31 zT44 I I hb2 oM sL) ?_));refine pQ I (eA iT44 zT44 I (SlA.rd hu) (gE hkl)) dC ?_;refine pU I (SU.eq (v':=vb false) (SU.neqPr I I) (congrArg vb (decide_eq_false (by simp)))) ?_;refine pN (tN (cF I (kP (bN (tN (rG (lM I (yD I (lA I (nL ?_))))))))));exact ST.again (k+1) sB I I oM oM
 ·refine xI (tX (tX (bX (tN (rZ (aT I (rE ?_)))))));exact ST.ret1 (.inl I) results12 I ⟨I,I,I⟩
theorem takeR_len (l:List Cl)(T:List Pr)(p:Pr):(takeR l T p).length≤T.length+1:=by
 unfold takeR;split
 ·simp
 ·omega
theorem foldR_len (l:List Cl):∀ (m T:List Pr),(m.foldl (takeR l) T).length≤T.length+m.length
 | [],T=>lR _
 | p::m,T=>by
  have:=foldR_len l m (takeR l T p);have:=takeR_len l T p;rw[List.foldl_cons,List.length_cons];omega
theorem Tryz.build44 (a b:Int)(w:World):(Instr.build 44 #[(0,vi a),(1,vi b)]).run Tryz.prog w = .ok (.agg #[vi a,vi b]) w:=by
 have h1:∀ n,(vi n).cells = #[vi n]:=fun _=>rfl;simp[Instr.build,Instr.fill,h1];rfl
def pairsTo (l A:List Cl)(k:Nat):List Pr:=(A.take k).flatMap fun c=>(aboveC l c.id).map fun h=>(c.id,h)
theorem above_len (l:List Cl)(id:Int):(aboveC l id).length≤(tabC l).length:=by
 unfold aboveC;rw[List.length_map];exact List.length_filter_le _ _
theorem pairsTo_len (l:List Cl):∀ (A:List Cl),(A.flatMap fun c=>(aboveC l c.id).map fun h=>(c.id,h)).length≤A.length * (tabC l).length
 | []=>by simp
 | c::A=>by
  have ih:=pairsTo_len l A;have:=above_len l c.id;rw[List.flatMap_cons,List.length_append,List.length_map,List.length_cons,Nat.succ_mul];omega
theorem pairs14_spec (E:World)(g:PH)(s:Own)(v:Value)(l:List Cl)(hv:Cells g v l)(hf:Fits l)(hl:l.length≤1000000) :
  Ctr Tryz.prog E 26 #[.agg #[v]] g s (fun r g' s'=>s=s'∧Le g g'∧SlA encPr g' r (pairsR l)):=by
 have htl:(tabC l).length≤1000000:=Nat.le_trans (tabC_length l) hl;have hsq:∀ k,k≤(tabC l).length→k * (tabC l).length≤1000000000000:=fun k hk=>Nat.mul_le_mul (Nat.le_trans hk htl) htl;have hab:=above_len l;have hpl:=pairsTo_len l;have hres:pairsR l=(tabC l).flatMap fun c=>(aboveC l c.id).map fun h=>(c.id,h):=rfl;rw[hres];refine Ctr.of (args:=[.agg #[v]]) func26 I ntmps26 (bE I) ?_;refine rZ (bW (bO I) fun b1=>?_);refine aT I (rZ (aT I (rZ (lK (qV 0 iT29 zT29 I I I) (lW (SO.call call42 I (refCells_spec E g _ v l hv hf)) ?_)))));rintro cv g1 _ ⟨rfl,hle1,hc⟩;obtain ⟨rs,hrs,hall⟩:=hc;obtain ⟨q,d,rfl⟩:=SlA.form hrs;refine aT I (sQ (rZ (aT I (bK ?_))));generalize tabC l=A at *;have hrl:=hall.length;refine SC.nilRow 44 2 ?_;refine oP (ι:=Value×Nat×PH) (fun i=>[(1,pp b1 0),(3,i.1),(4,.slice q rs.length d),(5,vi i.2.1)]) (fun i=>i.2.2) (fun i=>rowA encPr 44 i.1 (pairsTo l A i.2.1)::pt b1 (.cells #[v] 29 (0,0))::s) (fun i=>i.2.1≤A.length∧Le g1 i.2.2) (fun i=>A.length - i.2.1) (.slice none 0 0,0,g1)
  sB rfl rfl ⟨Nat.zero_le _,Le.refl _⟩ ?_
 rintro ⟨w,k,g2⟩ ⟨hk,hle2⟩;dsimp only at hk hle2 ⊢;refine sQ (sW I (lM I (lU (eN uT27 I) (yL I (tZ ?_)))));refine iP I (fun hlt=>?_) (fun hlt=>?_)
 ·have hkl:k<A.length:=oM;have hkr:k<rs.length:=oM;have hb1:=SlA.based hrs oM;have hgk:rs[((k:Nat):Int).toNat]?=some rs[k]:=gE hkr;have hcr:=hall.get (gE hkl) (gE hkr);have hid:rs[k].id=A[k].id:=hcr.1;have hrs2:=SlA.mono hrs hle2;have hln:=hpl (A.take k);have hsk:=hsq k hk;have htk:(A.take k).length=k:=by rw[List.length_take]; omega
  have hnext:pairsTo l A (k+1)=pairsTo l A k++(aboveC l A[k].id).map fun h=>(A[k].id,h):=by
   unfold pairsTo;rw[tS hkl,List.flatMap_append];simp
  rw[htk] at hln;have hln:(pairsTo l A k).length≤k * A.length:=hln;refine kP (tN (sQ (bK (sQ ?_))));refine dW [] [(0,1),(1,2),(2,2),(3,2),(4,2),(5,1),(6,0),(7,2)] Tryz.mixed kR ?_;refine pK I (qV 1 iT29 zT29 I I I) (yM I (yM I (pU I (iA uT27 zT54 I I hb1 oM sL) (pU I (fC uT54 I zT3 I hb1) (pK I (aZ (e:=encCell) (o:=0) (u:=vi rs[k].id) iT3 I (SlA.rd hrs2) hgk I) (SP.o I (SO.call call54 I (refAbove_spec E g2 _ v l rs[k].id (hv.mono (hle1.trans hle2)) hf)) dC (.inr iR) ?_))))));rintro av g3 _ ⟨rfl,hle3,hav⟩;obtain ⟨qa,da,rfl⟩:=SlA.form hav;refine pU I (aS I) (pN (tN (rZ (aT I (bK ?_)))));rw[hid] at hav ⊢;have hal:=hab A[k].id;generalize aboveC l A[k].id=B at *;have hrs3:=SlA.mono hrs2 hle3;refine oP (ι:=Value×Nat) (fun i=>[(1,pp b1 0),(3,i.1),(4,.slice q rs.length d),(5,vi k),(6,.slice qa B.length da),(7,vi i.2)]) (fun _=>g3) (fun i=>rowA encPr 44 i.1 (pairsTo l A k++(B.take i.2).map fun h=>(A[k].id,h))::pt b1 (.cells #[v] 29 (0,0))::s) (fun i=>i.2≤B.length) (fun i=>B.length - i.2) (w,0)
   sB rfl (by simp) (Nat.zero_le _) ?_
  rintro ⟨w2,j⟩ hj;dsimp only at hj ⊢;refine sQ (sW I (lM I (lU (eN uT22 I) (yL I (tZ ?_)))));refine iP I (fun hjl=>?_) (fun hjl=>?_)
  ·have hjB:j<B.length:=oM;have hb2:=SlA.based hav oM;have hgj:B[((j:Nat):Int).toNat]?=some B[j]:=gE hjB;have hll:(pairsTo l A k++(B.take j).map fun h=>(A[k].id,h)).length≤k * A.length+A.length:=by
    rw[List.length_append,List.length_map,List.length_take]; omega
   have hsk1:=hsq (k+1) hkl;rw[Nat.succ_mul] at hsk1;refine kP (tN (sQ (bK ?_)));refine dW [12,13] [(0,2),(1,2),(2,2),(3,2),(4,2),(5,1),(6,2),(7,2),(8,2),(9,1),(10,2),(11,0),(12,0),(13,0)] Tryz.mixed kR ?_;refine yM rfl (yM rfl (yM rfl (pU rfl (iA uT27 zT54 rfl rfl hb1 oM sL) (pU rfl (fC uT54 rfl zT3 rfl hb1) (pK rfl (aZ (e:=encCell) (o:=0) (u:=vi A[k].id) iT3 rfl (SlA.rd hrs3) hgk (by rw[← hid]; rfl)) ?_)))));refine yM I (yM I (pU I (iA uT22 zT3 I I hb2 oM sL) (pK I (eB iT3 I (SlA.rd hav) hgj I) (pU I (SU.build I (build44 _ _)) (SP.o I (bS sty31 I I I (szs_mk ⟨I,trivial⟩) dC) dC (.inr iR) ?_)))));rintro _ _ _ ⟨b40,rfl,rfl,rfl⟩;refine SP.o I (aP (e:=encPr) 0 (A[k].id,B[j]) sty31 I I I I I oM oM) dC (.inl dC) ?_;rintro w3 _ _ ⟨rfl,rfl⟩;refine oU I (aS I) dC (.inl dC) (pN (bN (tN (rG (lM I (yD I (lA I (nL ?_))))))));exact ST.again (w3,j+1) sB rfl (by dsimp only; rw[tS hjB,List.map_append,← List.append_assoc]; rfl) (by dsimp only; omega) (by dsimp only; omega)
  ·have hjj:B.take j=B:=tL oM;rw[hjj,← hnext];refine xI (tX (tX (bX (bN (tN (rG (lM I (yD I (lA I (nL ?_))))))))));exact ST.again (w2,k+1,g3) sB I I ⟨by dsimp only; omega,hle2.trans hle3⟩ (by dsimp only; omega)
 ·have hkk:A.take k=A:=tL oM;have hall:pairsTo l A k=A.flatMap fun c=>(aboveC l c.id).map fun h=>(c.id,h):=by unfold pairsTo; rw[hkk]
  rw[hall];refine xI (tX (tX (bX (tN (sW I (aT I (rE (fT fun g3 hle3 hs3=>?_))))))));refine dR (s':=s) uR ?_;exact ST.ret1 (.inl I) results26 I ⟨I,hle1.trans (hle2.trans hle3),hs3⟩
end Go.Proofs.YtmmghffoakhheaaGreatDoor
namespace Go.Sy
open Go Go.MapKept
def mpE (b:Nat)(l:List (Int×Value))(j:Nat)(st:Int):Ent:=⟨some b,fun oo=>∃ es clk,oo=some (.map es clk)∧MapI l es clk∧∃ e,es[j]?=some e∧(e.born:Int)=st⟩
section
variable {P:Program}{w:World}{t kt et:TypeId}{z:Value}{b:Nat}{es:Array MapEntry}{clk:Nat}{l:List (Int×Value)}
theorem run_mapEntry_map (hT:MTy P t kt et z)(hb:w.heap[b]?=some (.map es clk))(hm:MapI l es clk)(k:Int) :
  ∃ es' clk' st j l',(Instr.mapEntry t (.map (some b)) (vi k)).run P w = .ok (.tuple #[(mget l k).getD z,vi st]) { w with heap:=w.heap.setIfInBounds b (.map es' clk') }∧MapI l' es' clk'∧(∃ e,es'[j]?=some e∧(e.born:Int)=st)∧(∃ u,l'[j]?=some (k,u))∧∀ u,mput l k u=l'.set j (k,u):=by
 have hf:=findNow_eq k es.toList l 0 hm.1;have h1:=MapKept.run_findKey (w:=w) hT.key hf;have h2:=MapKept.run_checkKey (P:=P) (w:=w) hT.key (k:=vi k) rfl false 9999;have hlen:es.toList.length=l.length:=by have:=congrArg List.length hm.1; simpa using this
 have hsz:es.size=l.length:=by simpa using hlen
 rcases fnd_spec k l 0 with ⟨hn,hne⟩ | ⟨j,u,hs,hj,hput⟩
 ·refine⟨es.push { key:=vi k,val:=z,born:=clk },clk+1,clk,l.length,l++[(k,z)],?_,⟨?_,?_⟩,?_,?_,?_⟩
  ·have hg:mget l k=none:=by unfold mget; rw[hn]; rfl
   rw[hn] at h1;rw[hg];simp[Instr.mapEntry,run_underlying hT.und,MapKept.run_getObj_map hb,h2,h1,hT.zero w,MapKept.run_setObj_map _ hb,goInt]
  ·simp[hm.1,entV,pairV]
  ·refine stamped_push hm.2 ?_;intro x hx e;have:entV x∈l.map pairV:=by rw[← hm.1]; exact List.mem_map.2 ⟨x,hx,rfl⟩
   obtain ⟨p,hp,hpe⟩:=List.mem_map.1 this;simp only[pairV,entV,Prod.mk.injEq] at hpe;refine hne p hp ?_;rw[e] at hpe;simpa using hpe.1
  ·refine⟨{ key:=vi k,val:=z,born:=clk },?_,I⟩;rw[← hsz];simp
  ·exact⟨z,by simp⟩
  ·intro u;rw[mput_none k u l hne];simp
 ·have hjl:j<es.toList.length:=by rw[hlen]; exact (List.getElem?_eq_some_iff.1 hj).1
  have hkey:(es.toList[j]).key=vi k:=by
   have h3:=congrArg (·[j]?) hm.1;simp only[List.getElem?_map,hj,Option.map_some,gE hjl,Option.some.injEq,entV,pairV,Prod.mk.injEq] at h3;exact h3.1
  have hje:es[j]?=some es.toList[j]:=by simp at hjl; simp[hjl]
  have hg:mget l k=some u:=by unfold mget; rw[hs]; rfl
  rw[hs,Nat.zero_add] at h1;have hkey':∀ h:j<es.size,es[j].key=vi k:=fun h=>by simpa using hkey
  refine⟨es.modify j fun e=>{ e with key:=vi k },clk,(es.toList[j].born:Nat),j,l,?_,⟨?_,?_⟩,?_,⟨u,hj⟩,hput⟩
  ·have h4:=MapKept.run_keyThatStays (P:=P) (w:=w) (d:=.int .i64) (k:=vi k) rfl;rw[hg];simp[Instr.mapEntry,run_underlying hT.und,MapKept.run_getObj_map hb,h2,h1,hje,hkey',h4,MapKept.run_setObj_map _ hb,goInt]
  ·apply List.ext_getElem?;intro q;have h3:=congrArg (·[q]?) hm.1;simp only[List.getElem?_map] at h3;rw[List.getElem?_map,List.getElem?_map,Array.toList_modify,List.getElem?_modify];by_cases hq:j=q
   ·subst hq;rw[← h3];simp only[gE hjl,if_true,Option.map_some,entV];rw[hkey];rfl
   ·simp only[hq,if_false];simpa using h3
  ·exact stamped_modify hm.2 _ _ (fun _ _=>I) (fun e' _ he'=>by
    rw[hje] at he';injection he' with he'
    rw[← he',hkey])
  ·refine⟨{ es.toList[j] with key:=vi k },?_,I⟩;rw[Array.getElem?_modify,if_pos rfl,hje];rfl
theorem run_entryStore_map (hb:w.heap[b]?=some (.map es clk))(hm:MapI l es clk){j:Nat}{e:MapEntry}(he:es[j]?=some e){k:Int}(hk:∃ u,l[j]?=some (k,u))(v:Value) :
  ∃ es' clk',(Instr.entryStore t (.map (some b)) (vi (e.born:Int)) v).run P w = .ok () { w with heap:=w.heap.setIfInBounds b (.map es' clk') }∧MapI (l.set j (k,v)) es' clk':=by
 obtain ⟨u,hu⟩:=hk;have hlen:es.toList.length=l.length:=by have:=congrArg List.length hm.1; simpa using this
 obtain ⟨hj,hje⟩:=Array.getElem?_eq_some_iff.1 he;have hidx:es.findIdx? (fun x=>(x.born:Int) == (e.born:Int))=some j:=by
  rw[Array.findIdx?_eq_some_iff_getElem];refine⟨hj,by rw[hje]; simp,fun i hi h=>?_⟩;have hnd:=hm.2.2.1;have h5:(es[i]'oM).born=es[j].born:=by
   have h':(((es[i]'oM).born:Nat):Int)=(e.born:Int):=by simpa using h
   rw[hje];omega
  have h6:(es.toList.map (·.born))[i]'(by simp; omega)=(es.toList.map (·.born))[j]'(by simp; omega):=by simpa using h5
  have:=(List.getElem_inj hnd).1 h6;omega
 refine⟨es.modify j fun x=>{ x with val:=v },clk,?_,?_,?_⟩
 ·simp[Instr.entryStore,MapKept.run_getObj_map hb,asInt,asIntOf,hidx,MapKept.run_setObj_map _ hb]
 ·apply List.ext_getElem?;intro q;have h3:=congrArg (·[q]?) hm.1;simp only[List.getElem?_map] at h3;rw[List.getElem?_map,List.getElem?_map,List.getElem?_set,Array.toList_modify,List.getElem?_modify];by_cases hq:j=q
  ·subst hq;have hjl:j<l.length:=(List.getElem?_eq_some_iff.1 hu).1;have hjt:j<es.toList.length:=oM;rw[hu,gE hjt] at h3;simp only[Option.map_some,Option.some.injEq,entV,pairV,Prod.mk.injEq] at h3;simp only[gE hjt,if_true,hjl,Option.map_some,pairV];show some (es.toList[j].key,v)=some (vi k,v);rw[h3.1]
  ·simp only[hq,if_false];simpa using h3
 ·exact stamped_modify hm.2 _ _ (fun _ _=>I) (fun e' _ he'=>I)
end
section
variable {P:Program}{N:Nat}{E:World}{f:Fr}{g:PH}{s:Own}{dst:Option Tmp}{ty:TypeId}{pos:String}{af:Array Edge}{gd:Option (Nat×Bool)}
variable {t kt et:TypeId}{z:Value}{b:Nat}{l:List (Int×Value)}{x y u:Operand}{k:Int}{v:Value}
theorem SO.mapEntry (i:Nat)(hT:MTy P t kt et z)(hx:ev f x=some (.map (some b)))(hy:ev f y=some (vi k))(hi:s[i]?=some (mp b l)) :
  SO P N E ⟨dst,.mapEntry t x y,ty,pos,af,gd⟩ f g s fun v' g' s'=>∃ st j l',v' = .tuple #[(mget l k).getD z,vi st]∧g=g'∧s'=s.set i (mpE b l' j st)∧(∃ u,l'[j]?=some (k,u))∧∀ u,mput l k u=l'.set j (k,u) :=
 SO.of_run fun a w ha hw=>by
  obtain ⟨es,clk,h1,h2⟩:=hw.own _ (List.mem_of_getElem? hi);have hb:w.heap[b]?=some (.map es clk):=by simpa [mp] using h1
  obtain ⟨es',clk',st,j,l',hr,hm',he,hk,hp⟩:=run_mapEntry_map hT hb h2 k;have hfr:=hw.fresh _ (List.mem_of_getElem? hi) b rfl;obtain ⟨e1,e2⟩:=MapKept.heap_set (o':=.map es' clk') hb;refine⟨_,_,g,s.set i (mpE b l' j st),by simp[execOp,ha.ev hx,ha.ev hy,hr]; rfl,?_,st,j,l',rfl,rfl,rfl,hk,hp⟩;refine hw.turn hi I ⟨I,(by exact lR _)⟩ I (by simp) (fun q _ hne=>e2 q (fun e=>hne (by simp[mp,e]))) ⟨es',clk',by simpa [mpE] using e1,hm',he⟩ (fun b' hb'=>?_);simp only[mpE,Option.some.injEq] at hb';subst hb';exact⟨by simpa using hfr.2,.inl I⟩
theorem SO.entryStore {j:Nat}{st:Int}(i:Nat)(hx:ev f x=some (.map (some b)))(hy:ev f y=some (vi st))(hu:ev f u=some v)(hi:s[i]?=some (mpE b l j st))(hk:∃ u,l[j]?=some (k,u)) :
  SO P N E ⟨dst,.entryStore t x y u,ty,pos,af,gd⟩ f g s fun _ g' s'=>g=g'∧s'=s.set i (mp b (l.set j (k,v))) :=
 SO.of_skip fun a w ha hw=>by
  obtain ⟨es,clk,h1,h2,e,he,hst⟩:=hw.own _ (List.mem_of_getElem? hi);have hb:w.heap[b]?=some (.map es clk):=by simpa [mpE] using h1
  subst hst;obtain ⟨es',clk',hr,hm'⟩:=run_entryStore_map (P:=P) (t:=t) hb h2 he hk v;have hfr:=hw.fresh _ (List.mem_of_getElem? hi) b rfl;obtain ⟨e1,e2⟩:=MapKept.heap_set (o':=.map es' clk') hb;refine⟨_,g,s.set i (mp b (l.set j (k,v))),by simp[execOp,ha.ev hx,ha.ev hy,ha.ev hu,hr]; rfl,?_,rfl,rfl⟩;refine hw.turn hi I ⟨I,(by exact lR _)⟩ I (by simp) (fun q _ hne=>e2 q (fun e=>hne (by simp[mpE,e]))) ⟨es',clk',by simpa [mp] using e1,hm'⟩ (fun b' hb'=>?_);simp only[mp,Option.some.injEq] at hb';subst hb';exact⟨by simpa using hfr.2,.inl I⟩
end
end Go.Sy
namespace Go.Sy
open Go
def Gives2 (P:Program)(E:World)(gf:FuncId)(lb:List Value){α:Type}(encs:α→List Value)(xs:List α)(g0:PH):Prop :=
 ∀ (l:Nat) (ι:Type) (G:ι→PH) (S:ι→Own) (J:List α→ι→Prop) (i0:ι),J [] i0→(∀ pre i,J pre i→Le g0 (G i))→(∀ pre i g',J pre i→Le (G i) g'→∃ i',J pre i'∧G i'=g'∧S i'=S i) →
  (∀ pre x suf i sx,xs=pre++x::suf→J pre i→YieldC P E l (encs x).toArray (G i) (S i++sx) (fun v g' s'=>v = .bool true∧∃ j,J (pre++[x]) j∧Le (G i) (G j)∧g'=G j∧s'=S j++sx)) →
  ∀ sx,Ctr P E gf (.func (.yield l) #[] #[]::lb).toArray (G i0) (S i0++sx) (fun _ g' s'=>∃ j,J xs j∧g'=G j∧s'=S j++sx)
section
variable {P:Program}{M:Md}{N:Nat}{E:World}{Q:Exit→Act→World→Prop}{f:Fr}{g:PH}{s:Own}{dst:Option Tmp}{ty:TypeId}{pos:String}{af:Array Edge}{gd:Option (Nat×Bool)}
def RoundEnd2 {α ι:Type}(E:World)(G:ι→PH)(S:ι→Own)(J:List α→ι→Prop)(pre:List α)(x:α)(g:PH)(sx:Own):Exit→Act→World→Prop:=fun e _ w'=>e = .normal∧∃ j,At E (G j) (S j++sx) w'∧J (pre++[x]) j∧Le g (G j)
theorem XT.roundEnd2 {α ι:Type}{G:ι→PH}{S:ι→Own}{J:List α→ι→Prop}{pre:List α}{x:α}{g1:PH}{sx:Own}(j:ι)(hg:G j=g)(hs:S j++sx=s)(hj:J (pre++[x]) j)(hl:Le g1 (G j)):XT M N E (RoundEnd2 E G S J pre x g1 sx) .normal f g s:=fun _ _ _ hw=>⟨rfl,j,by rw[hg,hs]; exact hw,hj,hl⟩
theorem XC.rangeFuncB {α ι κ:Type}{gop:Operand}{ps:Array Tmp}{assign body:Code}{gf:FuncId}{lb:List Value}{encs:α→List Value}{xs:List α}{g0:PH}(G:ι→PH)(S:ι→Own)(J:List α→ι→Prop)(i0:ι)(sx0:Own)(fa:α→Fr)(fb:List α→α→ι→κ→Fr)(X:α→κ→Own)
  (hro:M.ro=none) (hg:ev f gop=some (.func (.func gf) #[] lb.toArray)) (eg:∀ args w,(callFunc gf args).run P w = .ok (.enter gf args) w) (hps:∀ x,(encs x).length=ps.size)
  (hG:G i0=g) (hS:S i0++sx0=s) (hseq:Gives2 P E gf lb encs xs g0) (hmono:∀ pre i,J pre i→Le g0 (G i)) (hup:∀ pre i g',J pre i→Le (G i) g'→∃ i',J pre i'∧G i'=g'∧S i'=S i) (h0:J [] i0)
  (hfa:∀ x a,Ok N f (bare a)→Ok N (fa x) { tmps:=(ps.zip (encs x).toArray).foldl (fun t (p,v)=>t.setIfInBounds p v) a.tmps,defers:=[] })
  (hassign:∀ l pre x i sx,J pre i→XC P ⟨some l,[]⟩ N E assign (AssignEndA (N:=N) E (G i) (S i++sx) (fb pre x i) (X x)) (fa x) (G i) (S i++sx))
  (hbody:∀ l pre x suf i sx q,(∃ (r:Loop) (k:Nat),sx[k]?=some (pt l (.loop r)))→xs=pre++x::suf→J pre i→XC P ⟨some l,[]⟩ N E body (RoundEnd2 E G S J pre x (G i) sx) (fb pre x i q) (G i) (X x q++(S i++sx)))
  (hdone:∀ D j,J xs j→XT ⟨none,⟨.collected D,#[]⟩::M.ds⟩ N E Q .normal f (G j) (pt D (.deferred (some []))::(S j++sx0))):XC P M N E (.rangeFunc gop ps assign body) Q f g s:=by
 subst hG hS;intro a w ha hw;rw[hro];refine wpIn_rangeFunc ?_;intro fn _;obtain ⟨rec,hrec⟩:∃ rec:LoopState→Option Code→Loop,rec=fun st pe=>{ state:=st,pending:=pe,fn,tmps:=a.tmps,params:=ps,assign,body,defers:=w.heap.size }:=⟨_,rfl⟩;obtain ⟨L,hL⟩:∃ L,L=w.heap.size+1:=⟨_,rfl⟩;obtain ⟨D,hD⟩:∃ D,D=w.heap.size:=⟨_,rfl⟩;obtain ⟨W1,hW1⟩:∃ W1,(w.alloc (.deferred (some []))).alloc (.loop (rec .ready none))=W1:=⟨_,rfl⟩;have hA:At E (G i0) (pt L (.loop (rec .ready none))::pt D (.deferred (some []))::(S i0++sx0)) W1:=by
  rw[← hW1,hL,hD];have h1:At E (G i0) (pt w.heap.size (.deferred (some []))::(S i0++sx0)) (w.alloc (.deferred (some []))):=hw.alloc (e:=pt w.heap.size (.deferred (some []))) rfl rfl;have h2:=h1.alloc (e:=pt (w.alloc (.deferred (some []))).heap.size (.loop (rec .ready none))) rfl rfl;rw[World.size_alloc] at h2;exact h2
 obtain ⟨S2,hS2⟩:∃ S2:ι→Own,S2=fun i=>S i++(pt L (.loop (rec .ready none))::pt D (.deferred (some []))::sx0):=⟨_,rfl⟩;have hA2:At E (G i0) (S2 i0++[]) W1:=by
  rw[hS2,List.append_nil];dsimp only;refine hA.perm ?_;have h1:(pt L (.loop (rec .ready none))::pt D (.deferred (some []))::(S i0++sx0))=[pt L (.loop (rec .ready none)),pt D (.deferred (some []))]++(S i0++sx0):=rfl;have h2:S i0++(pt L (.loop (rec .ready none))::pt D (.deferred (some []))::sx0)=S i0++([pt L (.loop (rec .ready none)),pt D (.deferred (some []))]++sx0):=rfl;rw[h1,h2,← List.append_assoc,← List.append_assoc];exact List.perm_append_comm.append_right _
 refine⟨L,[{ target:=.collected D,args:=#[] }],W1,{ target:=.fn (.func gf) lb.toArray,args:=#[.func (.yield L) #[] #[]] },W1,gf,(.func (.yield L) #[] #[]::lb).toArray,W1,?_,?_,fun _ _=>trivial,?_,fun h=>(by cases h),?_⟩
 ·rw[← hW1,hrec,hL,hD]; exact run_enterLoop_outer _ _ _ _ _
 ·have h1:a.eval gop = .func (.func gf) #[] lb.toArray:=ha.ev hg;simp only[resolve,h1];simp[go_sem]
 ·have:(#[.func (.yield L) #[] #[]]++lb.toArray:Array Value)=(.func (.yield L) #[] #[]::lb).toArray:=by simp
  simp[invoke,go_sem,eg]
 ·refine (callsIn_wide (n:=0 - 1)).2 ((hseq L ι G S2 J i0 h0 hmono (fun pre i g' hJ hl=>by obtain ⟨i',a1,a2,a3⟩:=hup pre i g' hJ hl; exact⟨i',a1,a2,by rw[hS2]; dsimp only; rw[a3]⟩) ?_ [] W1 hA2).mono ?_)
  ·intro pre x suf i sx hxs hJ W hW;rw[hS2] at hW;simp only[List.append_assoc,List.cons_append] at hW;have hlen:(S i).length=(S i).length:=rfl;have gl:∀ (i:ι) (u u':Ent) (r:Own),(S i++u::u'::r)[(S i).length]?=some u:=fun i u u' r=>by simp
   have hl:=hW.here (gl i _ _ _);have hy:=run_yield (P:=P) (args:=(encs x).toArray) hl (by rw[hrec]; simpa using hps x);rw[hrec] at hy;refine⟨fn,_,assign,body,hy,roundIn_of_wpIn trivial ?_⟩;refine Code.wpIn_mono (fun e a1 w1 h1=>?_) (hassign L pre x i _ hJ { tmps:=(ps.zip (encs x).toArray).foldl (fun t (p,v)=>t.setIfInBounds p v) a.tmps,defers:=[] } W ⟨I,hfa x a ha.2⟩ hW);obtain ⟨rfl,q,ha1,hw1⟩:=h1;have glX:∀ (X:Own) (i:ι) (u u':Ent) (r:Own),(X++(S i++u::u'::r))[X.length+(S i).length]?=some u:=fun X i u u' r=>by rw[List.getElem?_append_right oM,Nat.add_sub_cancel_left]; exact gl i u u' r
   have hl1:=hw1.here (glX _ i _ _ _);refine⟨_,run_beginRound hl1 (by rw[hrec]),?_⟩;have hset:∀ (i:ι) (u u' v:Ent) (r:Own),(S i++u::u'::r).set (S i).length v=S i++v::u'::r:=fun i u u' v r=>by simp
   have hsetX:∀ (X:Own) (i:ι) (u u' v:Ent) (r:Own),(X++(S i++u::u'::r)).set (X.length+(S i).length) v=X++(S i++v::u'::r):=fun X i u u' v r=>by rw[List.set_append_right _ _ oM,Nat.add_sub_cancel_left,hset]
   have hw2:=hw1.obj (o':=.loop { rec .ready none with state:=.busy }) (glX _ i _ _ _);rw[hsetX] at hw2;refine Code.wpIn_mono (fun e a3 w3 h3=>?_) (hbody L pre x suf i _ q ⟨_,0,I⟩ hxs hJ a1 _ ha1 hw2);obtain ⟨rfl,j,hw3,hJ3,hL3⟩:=h3;have hl3:=hw3.here (gl j _ _ _);have he:=run_endRound (P:=P) none hl3;have hw4:=hw3.obj (o':=.loop { (rec .ready none) with state:=.ready,pending:=none }) (gl j _ _ _);rw[hset] at hw4;refine⟨_,_,he,.bool true,G j,S2 j++sx,I,?_,I,j,hJ3,hL3,I,I⟩;rw[hS2];simp only[List.append_assoc,List.cons_append];rw[hrec] at hw4 ⊢;exact hw4
  ·rintro e W2 ⟨v,g',s',rfl,hat,j,hJ,rfl,rfl⟩;rw[hS2,List.append_nil] at hat;have gl:∀ (i:ι) (u u':Ent) (r:Own),(S i++u::u'::r)[(S i).length]?=some u:=fun i u u' r=>by simp
   have hl:=hat.here (gl j _ _ _);have he:=run_endLoop (P:=P) hl (by rw[hrec]; simp);have h2:=hat.obj (o':=.loop { (rec .ready none) with state:=.exhausted }) (gl j _ _ _);have hset:∀ (i:ι) (u u' v:Ent) (r:Own),(S i++u::u'::r).set (S i).length v=S i++v::u'::r:=fun i u u' v r=>by simp
   rw[hset] at h2;have hpn:(rec .ready none).pending=none:=by rw[hrec]
   refine⟨none,_,he.trans (congrArg (fun p=>Result.ok p _) hpn),?_⟩;refine hdone D j hJ _ _ ⟨by rw[← ha.1]; rfl,ha.2⟩ ?_;have h3:=(h2.sublist (s':=S j++pt D (.deferred (some []))::sx0) (by exact (List.Sublist.refl _).append (List.sublist_cons_self _ _))).perm List.perm_middle;exact h3
end
end Go.Sy
namespace Go.Proofs.YtmmghffoakhheaaGreatDoor
open _root_.Go.Proofs.Tryz _root_.Go.Proofs.YtmmghffoakhheaaGreatDoor.Tryz
open Go Go.Sy Go.Pl Go.Proofs
set_option maxRecDepth 100000
set_option maxHeartbeats 1000000
theorem indexInt_spec (E:World)(g:PH)(s:Own)(v:Value)(l:List Int)(x:Int)(hv:Ints g v l)(hl:l.length<1099511627776) :
  Ctr Tryz.prog E 98 #[v,vi x] g s (fun r g' s'=>(∃ n:Int,r=vi n∧decide (n≥0)=l.contains x)∧g=g'∧s=s'):=by
 obtain ⟨p,c,rfl⟩:=SlA.form hv;refine Ctr.of (args:=[.slice p l.length c,vi x]) func98 I ntmps98 (bE I) ?_;refine rZ (aT I (sQ (sW I (lU (eN uT22 I) (lM I (tZ (bK ?_)))))));refine oP (ι:=Nat) (fun k=>[(0,.slice p l.length c),(1,vi x),(7,vi l.length),(8,vi k)]) (fun _=>g) (fun _=>s) (fun k=>k≤l.length∧x ∉ l.take k) (fun k=>l.length - k) 0 sB I I ⟨Nat.zero_le _,by simp⟩ ?_;rintro k ⟨hk,hno⟩;refine rZ (yL I (tZ (sQ ?_)));refine iP I (fun hlt=>?_) (fun hlt=>?_)
 ·have hkl:k<l.length:=oM;have hb1:=SlA.based hv oM;have hgx:l[((k:Nat):Int).toNat]?=some l[k]:=gE hkl;refine kP (tN (sQ (bK (sW I (aT I (sW I (lM I (lM I (lU (iA uT22 zT3 I I hb1 oM sL) (lK (eB iT3 I (SlA.rd hv) hgx I) (yE I (tZ ?_))))))))))));refine iP I (fun he=>?_) (fun he=>?_)
  ·refine sW I (aT I (rE (bR (tR (tR (bR (tR ?_)))))));have hm:l.contains x=true:=by rw[List.contains_iff_mem,he]; exact gM hkl
   exact ST.ret1 (.inl I) results98 I ⟨⟨k,I,by rw[hm]; simp⟩,I,I⟩
  ·refine kP (bN (tN (rG (yD I (lM I (nL ?_))))));exact ST.again (k+1) sB rfl rfl ⟨oM,by rw[tS hkl,List.mem_append]; rintro (h | h); exact hno h; simp at h; exact he h⟩ oM
 ·have hkk:l.take k=l:=tL oM;rw[hkk] at hno;refine xI (tX (tX (bX (tN (rZ (aT I (rE ?_)))))));have hm:l.contains x=false:=by rw[← Bool.not_eq_true,List.contains_iff_mem]; exact hno
  exact ST.ret1 (.inl rfl) results98 rfl ⟨⟨-1,rfl,by rw[hm]; rfl⟩,rfl,rfl⟩
theorem containsInt_spec (E:World)(g:PH)(s:Own)(v:Value)(l:List Int)(x:Int)(hv:Ints g v l)(hl:l.length<1099511627776) :
  Ctr Tryz.prog E 63 #[v,vi x] g s (fun r g' s'=>r=vb (l.contains x)∧g=g'∧s=s'):=by
 refine Ctr.of (args:=[v,vi x]) func63 I ntmps63 (bE I) ?_;refine rZ (aT I (sW I (lM I (lW (SO.call call98 I (indexInt_spec E g _ v l x hv hl)) ?_))));rintro _ _ _ ⟨⟨n,rfl,hn⟩,rfl,rfl⟩;refine lU (gQ I I) (aT I (rE ?_));exact ST.ret1 (.inl I) results63 I ⟨by rw[hn],I,I⟩
theorem loopP_sub {p:Pr}{H:Int→Option Int}{rc:Pr→List Int→Bool×List Int}(hrc:∀ y v,∀ z∈v,z∈(rc y v).2){x:Pr}:∀ (q v:List Int),∀ z∈v,z∈(loopP p H rc x q v).2
 | [],_,_,hz=>hz
 | low::r,v,z,hz=>by
  have ih:=loopP_sub (p:=p) (H:=H) hrc (x:=x) r;unfold loopP;split
  ·exact ih v z hz
  ·split
   ·exact hz
   ·cases H low with
    | none=>exact ih v z hz
    | some nx =>
     dsimp only;split
     ·exact ih v z hz
     ·have h1:=hrc (low,nx) (v++[nx]) z (by simp[hz]);split
      ·exact h1
      ·exact ih _ z h1
theorem reachP_sub (p:Pr)(S:Int→List Int)(H:Int→Option Int):∀ (n:Nat) (x:Pr) (v:List Int),∀ z∈v,z∈(reachP p S H n x v).2
 | 0,_,_,_,hz=>hz
 | n+1,x,v,z,hz=>loopP_sub (fun y w z hz=>reachP_sub p S H n y w z hz) (S x.2) v z hz
def SidM (g:PH)(m:List (Int×Value))(S:Int→List Int):Prop:=∀ k,∃ v,(mget m k).getD (.slice none 0 0)=v∧Ints g v (S k)∧(S k).length<1099511627776
theorem SidM.mono {g g':PH}{m:List (Int×Value)}{S:Int→List Int}(h:SidM g m S)(hl:Le g g'):SidM g' m S:=fun k=>by
 obtain ⟨v,h1,h2,h3⟩:=h k;exact⟨v,h1,SlA.mono h2 hl,h3⟩
def HiM (m:List (Int×Value))(T:List Pr):Prop:=∀ k,mget m k=(highT T k).map vi
theorem set_other {α:Type}{s:List α}{i j:Nat}{a b:α}(h:i≠j)(hj:s[j]?=some b):(s.set i a)[j]?=some b:=by
 rw[List.getElem?_set,if_neg h];exact hj
theorem reachW (E:World)(g:PH)(bT bp bs bf bt m ms mh:Nat)(p:Pr)(S:Int→List Int)(sm hm:List (Int×Value))(T:List Pr)(r:Bool)(mu:Value)(tv:Value)
  (h2:g bT=some (.cells #[pp bt 0] 66 (0,0))) (h3:g bp=some (.cells #[vi p.1,vi p.2] 44 (0,0))) (h4:g bs=some (.cells #[.map (some m)] 71 (0,0)))
  (h5:g bf=some (.cells #[.func (.func 99) #[] #[pp bT 0,pp bp 0,pp bs 0,pp bf 0]] 105 (0,0)))
  (hsm:Mp g ms sm) (hS:SidM g sm S) (hH:HiM hm T):∀ (n:Nat) (x:Pr) (seen:List Int) (s:Own) (i j k:Nat),cntP T seen<n→i≠j→i≠k→s[i]?=some (mp m (setP seen))→s[j]?=some (pt bt (.cells #[vb r,.map (some ms),.map (some mh),mu,tv] 73 (0,0)))→s[k]?=some (mp mh hm) →
  Ctr Tryz.prog E 99 #[vi x.2,vi x.1,pp bT 0,pp bp 0,pp bs 0,pp bf 0] g s (fun y g' s'=>y=vb (reachP p S (highT T) n x seen).1∧g=g'∧s'=s.set i (mp m (setP (reachP p S (highT T) n x seen).2))):=by
 intro n;induction n with
 | zero=>intro x seen s i j k h; omega
 | succ n ih =>
 intro x seen s i j k hcnt hij hik hi hj hk;obtain ⟨v,hv1,hv2,hvl⟩:=hS x.2;have hr:reachP p S (highT T) (n+1) x seen=loopP p (highT T) (reachP p S (highT T) n) x (S x.2) seen:=rfl;rw[hr];generalize S x.2=L at *;obtain ⟨q,c,rfl⟩:=SlA.form hv2;refine Ctr.of (args:=[vi x.2,vi x.1,pp bT 0,pp bp 0,pp bs 0,pp bf 0]) func99 I ntmps99 (bE I) ?_;refine rZ (aT I (sQ (rZ (lK (qL (v:=pp bt 0) isAgg66 I (cK h2 I)) (lU (nC I) (lU (fA uT73 I sizeOf69 I) (lK (qL (v:=.map (some ms)) isAgg69 I (cO j hj I)) (lM I (lK (SQ.eq (SQ.lookup mty69 I I (MapAt.known hsm)) hv1) (lU (eN uT22 I) (lM I (tZ (bK ?_)))))))))))));refine oP (ι:=Nat×List Int) (fun z=>[(1,vi x.1),(2,pp bT 0),(3,pp bp 0),(4,pp bs 0),(5,pp bf 0),(18,.slice q L.length c),(19,vi L.length),(20,vi z.1)]) (fun _=>g) (fun z=>s.set i (mp m (setP z.2)))
  (fun z=>z.1≤L.length∧cntP T z.2<n+1∧loopP p (highT T) (reachP p S (highT T) n) x L seen=loopP p (highT T) (reachP p S (highT T) n) x (L.drop z.1) z.2) (fun z=>L.length - z.1) (0,seen)
  sB rfl (set_self hi) ⟨Nat.zero_le _,hcnt,rfl⟩ ?_
 rintro ⟨a,w⟩ ⟨ha,hcw,heq⟩;dsimp only at ha hcw heq ⊢;have hi':=get_set hi (mp m (setP w));have hj':=set_other (a:=mp m (setP w)) hij hj;have hk':=set_other (a:=mp m (setP w)) hik hk;refine rZ (yL I (tZ (sQ ?_)));refine iP I (fun hlt=>?_) (fun hlt=>?_)
 ·have hal:a<L.length:=oM;have hb1:=SlA.based hv2 oM;have hgx:L[((a:Nat):Int).toNat]?=some L[a]:=gE hal;have hdr:L.drop a=L[a]::L.drop (a+1):=(List.getElem_cons_drop hal).symm;rw[hdr] at heq;generalize L[a]=low at *;have hkey:=hH low;rw[heq];refine kP (tN (sQ (bK (rZ (lU (iA uT22 zT3 I I hb1 oM sL) (lK (eB iT3 I (SlA.rd hv2) hgx I) (aT I (rZ (lK (qL (v:=pp bt 0) isAgg66 I (cK h2 I)) (lU (nC I) (lU (fA uT73 I sizeOf70 I) (lK (qL (v:=.map (some mh)) isAgg70 I (cO j hj' I)) (lM I (lK (SQ.eq (v':=.tuple #[((highT T low).map vi).getD (vi 0),vb (highT T low).isSome]) (SQ.lookupOk mty70 I I (MapAt.own k hk')) (by rw[hkey]; cases highT T low <;> rfl)) ?_))))))))))))));refine lM I (yX I (yX I (lA I (aT I (sQ (bK (sW I (lM I (yE I (aT I ?_))))))))));refine iP I (fun hw=>?_) (fun hw=>?_)
  ·have hstep:loopP p (highT T) (reachP p S (highT T) n) x (low::L.drop (a+1)) w=loopP p (highT T) (reachP p S (highT T) n) x (L.drop (a+1)) w:=by
    rw[loopP,if_pos hw]
   refine xI (ST.blockO dC (tX (bX (tN (rG (yD I (lM I (nL ?_))))))));exact ST.again (a+1,w) sB I I ⟨by dsimp only; omega,hcw,by dsimp only; rw[← hstep]⟩ (by dsimp only; omega)
  ·refine sW I (lU (iB uT44 zT3 I I dC dC) (lK (qL (v:=vi p.1) iT3 I (cK h3 I)) (yE I (aT I ?_))));refine iP I (fun hp=>?_) (fun hp=>?_)
   ·have hstep:loopP p (highT T) (reachP p S (highT T) n) x (low::L.drop (a+1)) w=(true,w):=by
     rw[loopP,if_neg hw,if_pos hp]
    refine rZ (aT I (rE (bR (tR (bR (tR (tR (bR (tR ?_)))))))));exact ST.ret1 (.inl I) results99 I ⟨by rw[hstep],I,by rw[hstep]⟩
   ·cases hh:highT T low with
    | none =>
     have hstep:loopP p (highT T) (reachP p S (highT T) n) x (low::L.drop (a+1)) w=loopP p (highT T) (reachP p S (highT T) n) x (L.drop (a+1)) w:=by
      rw[loopP,if_neg hw,if_neg hp,hh]
     refine sW I (lU (SU.not I) (lM I (yA I (yA I (yA I (yP I (aT I (SC.condT I (xI (ST.blockO dC (tX (bX (tN (rG (yD I (lM I (nL ?_)))))))))))))))));exact ST.again (a+1,w) sB I I ⟨by dsimp only; omega,hcw,by dsimp only; rw[← hstep]⟩ (by dsimp only; omega)
    | some nx =>
     refine sW I (lU (SU.not I) (lM I (SL.gq (gT I I I dC) (qL (v:=.map (some m)) isAgg71 I (cK h4 I)) dC (yC I (SL.gq (gT I I I dC) (SQ.eq (v':=vb (w.contains nx)) (SQ.lookup mty71 I I (MapAt.own i hi')) ((setP_set w).get nx)) dC (yF I (aT I ?_)))))));refine iQ I (fun hin=>?_) (fun hin=>?_)
     ·have hstep:loopP p (highT T) (reachP p S (highT T) n) x (low::L.drop (a+1)) w=loopP p (highT T) (reachP p S (highT T) n) x (L.drop (a+1)) w:=by
       rw[loopP,if_neg hw,if_neg hp,hh];dsimp only;rw[if_pos hin]
      refine xI (ST.blockO dC (tX (bX (tN (rG (yD I (lM I (nL ?_))))))));exact ST.again (a+1,w) sB I I ⟨by dsimp only; omega,hcw,by dsimp only; rw[← hstep]⟩ (by dsimp only; omega)
     ·have hcn:cntP T (w++[nx])<n:=by
       have:=cntP_lt (T:=T) (q:=(low,nx)) (highT_mem hh) (v:=w) hin;dsimp only at this;omega
      have hstep:loopP p (highT T) (reachP p S (highT T) n) x (low::L.drop (a+1)) w=if (reachP p S (highT T) n (low,nx) (w++[nx])).1=true then (true,(reachP p S (highT T) n (low,nx) (w++[nx])).2) else loopP p (highT T) (reachP p S (highT T) n) x (L.drop (a+1)) (reachP p S (highT T) n (low,nx) (w++[nx])).2:=by
       rw[loopP,if_neg hw,if_neg hp,hh];dsimp only;rw[if_neg (by rw[hin]; decide)]
      have hsub:=reachP_sub p S (highT T) n (low,nx) (w++[nx]);have hcn2:cntP T (reachP p S (highT T) n (low,nx) (w++[nx])).2<n+1:=by
       have:=cntP_mono (T:=T) hsub;omega
      have hi2:=get_set hi (mp m (setP (w++[nx])));have hj2:=set_other (a:=mp m (setP (w++[nx]))) hij hj;have hk2:=set_other (a:=mp m (setP (w++[nx]))) hik hk;have hrec:=ih (low,nx) (w++[nx]) _ i j k hcn hij hik hi2 hj2 hk2;rw[hstep];generalize reachP p S (highT T) n (low,nx) (w++[nx])=z at *;obtain ⟨zb,zs⟩:=z;dsimp only at hrec hcn2 hstep ⊢;refine kP (bN (tN (rZ (lK (qL (v:=.map (some m)) isAgg71 I (cK h4 I)) (lM I (lO (SO.mapUpdate i mty71 I I I hi') ?_))))));rintro _ _ _ ⟨rfl,rfl⟩;rw[setP_put hin,List.set_set];refine tZ (rZ (lK (qL isAgg105 I (cK h5 I)) (lM I (lM I (lW (SO.callV I I (CallV.mk (cap:=[pp bT 0,pp bp 0,pp bs 0,pp bf 0]) call99 hrec)) ?_)))));rintro _ _ _ ⟨rfl,rfl,rfl⟩;refine tZ ?_;refine iQ I (fun hz=>?_) (fun hz=>?_)
      ·subst hz;refine rZ (aT I (rE (bR (tR (tR (bR (tR ?_)))))));exact ST.ret1 (.inl rfl) results99 rfl ⟨rfl,rfl,by rw[List.set_set]; rfl⟩
      ·subst hz;refine kP (bN (tN (rG (yD I (lM I (nL ?_))))));exact ST.again (a+1,zs) sB I (by rw[List.set_set]) ⟨by dsimp only; omega,hcn2,by simp⟩ (by dsimp only; omega)
 ·have hdd:L.drop a=[]:=List.drop_eq_nil_of_le oM;rw[hdd] at heq;refine xI (tX (tX (bX (tN (rZ (aT I (rE ?_)))))));exact ST.ret1 (.inl rfl) results99 rfl ⟨by rw[heq]; rfl,rfl,by rw[heq]; rfl⟩
theorem around14_spec (E:World)(g:PH)(s:Own)(bt ms mh:Nat)(p:Pr)(S:Int→List Int)(sm hm:List (Int×Value))(T:List Pr)(r:Bool)(mu:Value)(tv:Value)(hsm:Mp g ms sm)(hS:SidM g sm S)(hH:HiM hm T)(j k:Nat)
  (hj:s[j]?=some (pt bt (.cells #[vb r,.map (some ms),.map (some mh),mu,tv] 73 (0,0)))) (hk:s[k]?=some (mp mh hm)) :
  Ctr Tryz.prog E 64 #[pp bt 0,.agg #[vi p.1,vi p.2]] g s (fun y g' s'=>y=vb (reachP p S (highT T) (T.length+1) p []).1∧s=s'∧Le g g'):=by
 refine Ctr.of (args:=[pp bt 0,.agg #[vi p.1,vi p.2]]) func64 I ntmps64 (bE I) ?_;refine rZ (bW (bO I) fun b2=>?_);refine bW (bO I) fun b3=>?_;refine aT I (rZ (lW (SO.mkMap) ?_));rintro _ _ _ ⟨b7,rfl,rfl,rfl⟩;refine bW (aL zeroValue71) fun b5=>?_;refine oZ (sK 0 sizeOf71 I I I I I sB) ?_;refine tZ (rZ (bW (aL zeroValue105) fun b6=>?_));refine tZ (rZ (lU (SU.mkFunc I) (oZ (sK 0 sizeOf105 I I I I I sB) ?_)));refine tZ (sQ (SC.freeze fun g1 hle1 h5=>?_));refine SC.freeze fun g2 hle2 h4=>?_;refine SC.to (fun w hw=>hw.perm ((List.Perm.swap _ _ _).trans (List.Perm.cons _ (List.Perm.swap _ _ _)))) ?_;refine SC.freeze fun g3 hle3 h3=>?_;refine SC.freeze fun g4 hle4 h2=>?_;have h5:=hle4 _ _ (hle3 _ _ (hle2 _ _ h5));have h4:=hle4 _ _ (hle3 _ _ h4);have h3:=hle4 _ _ h3;have hle:=hle1.trans (hle2.trans (hle3.trans hle4));refine rG (lK (qL (v:=.func (.func 99) #[] #[pp b2 0,pp b3 0,pp b5 0,pp b6 0]) isAgg105 I (cK h5 I)) (lU (iB uT44 zT3 I I dC dC) (lK (qL (v:=vi p.2) iT3 I (cK h3 I)) (lU (iB uT44 zT3 I I dC dC) (lK (qL (v:=vi p.1) iT3 I (cK h3 I)) (lW (SO.callV I I (CallV.mk (cap:=[pp b2 0,pp b3 0,pp b5 0,pp b6 0]) call99 (reachW E g4 b2 b3 b5 b6 bt b7 ms mh p S sm hm T r mu tv h2 h3 h4 h5 (hsm.mono hle) (hS.mono hle) hH (T.length+1) p [] (mp b7 []::s) 0 (j+1) (k+1) (Nat.lt_succ_of_le (List.length_filter_le _ _)) (Nat.succ_ne_zero _).symm (Nat.succ_ne_zero _).symm I hj hk))) ?_))))));rintro _ _ _ ⟨rfl,rfl,rfl⟩;refine aT I (rE (dR (s':=s) uR ?_));exact ST.ret1 (.inl I) results64 I ⟨I,I,hle⟩
def UsM (m:List (Int×Value))(T:List Pr):Prop:=∀ k,(mget m k).getD (vb false)=vb (usedR T k)
theorem usedR_snoc (T:List Pr)(p:Pr)(k:Int):usedR (T++[p]) k=(usedR T k||decide (p.1=k)||decide (p.2=k)):=by
 unfold usedR;simp only[List.any_append,List.any_cons,List.any_nil,Bool.or_false];cases T.any (fun q=>decide (q.1=k))<;>cases T.any (fun q=>decide (q.2=k))<;>cases decide (p.1=k)<;>cases decide (p.2=k)<;>rfl
theorem UsM.snoc {m:List (Int×Value)}{T:List Pr}(h:UsM m T)(p:Pr):UsM (mput (mput m p.1 (vb true)) p.2 (vb true)) (T++[p]):=fun k=>by
 rw[mget_mput,mget_mput,usedR_snoc];by_cases h2:k=p.2
 ·subst h2; simp
 ·by_cases h1:k=p.1
  ·subst h1; simp[h2]
  ·rw[if_neg h2,if_neg h1,h k,decide_eq_false (fun e=>h1 e.symm),decide_eq_false (fun e=>h2 e.symm),Bool.or_false,Bool.or_false]
theorem highT_none {T:List Pr}{k:Int}(h:usedR T k=false):highT T k=none:=by
 cases hh:highT T k with
 | none=>rfl
 | some n =>
  have hm:=highT_mem hh;unfold usedR at h;rw[Bool.or_eq_false_iff] at h;have:=List.any_eq_false.1 h.1 _ hm;simp at this
theorem highT_snoc (T:List Pr)(p:Pr)(k:Int):highT (T++[p]) k=(highT T k).or (if p.1=k then some p.2 else none):=by
 unfold highT;rw[List.find?_append];cases T.find? (fun q=>decide (q.1=k)) with
 | some q=>rfl
 | none =>
  by_cases e:p.1=k <;> simp[e]
theorem HiM.snoc {m:List (Int×Value)}{T:List Pr}(h:HiM m T){p:Pr}(hp:usedR T p.1=false):HiM (mput m p.1 (vi p.2)) (T++[p]):=fun k=>by
 rw[mget_mput,highT_snoc];by_cases h1:k=p.1
 ·subst h1;rw[if_pos rfl,highT_none hp,if_pos rfl];rfl
 ·rw[if_neg h1,h k,if_neg (fun e=>h1 e.symm)];cases highT T k <;> rfl
theorem takeP_spec (E:World)(g:PH)(s:Own)(bt ms mh mu:Nat)(p:Pr)(S:Int→List Int)(sm hm um:List (Int×Value))(T:List Pr)(r:Bool)(tv:Value)(hsm:Mp g ms sm)(hS:SidM g sm S)(hH:HiM hm T)(hU:UsM um T)(hl:T.length<1099511627775) :
  Ctr Tryz.prog E 34 #[pp bt 0,.agg #[vi p.1,vi p.2]] g (pt bt (.cells #[vb r,.map (some ms),.map (some mh),.map (some mu),tv] 73 (0,0))::mp mh hm::mp mu um::rowA encPr 44 tv T::s)
   (fun _ g' s'=>Le g g'∧∃ hm' um' tv',s'=pt bt (.cells #[vb r,.map (some ms),.map (some mh),.map (some mu),tv'] 73 (0,0))::mp mh hm'::mp mu um'::rowA encPr 44 tv' (takeP r S T p)::s∧HiM hm' (takeP r S T p)∧UsM um' (takeP r S T p)):=by
 obtain ⟨v,hv1,hv2,hvl⟩:=hS p.2;have htk:takeP r S T p=if r && !usedR T p.1 && !usedR T p.2&&(S p.2).contains p.1 && !(reachP p S (highT T) (T.length+1) p []).1 then T++[p] else T:=rfl
 have hno:(r && !usedR T p.1 && !usedR T p.2&&(S p.2).contains p.1 && !(reachP p S (highT T) (T.length+1) p []).1)=false→takeP r S T p=T:=fun h=>by rw[htk,h]; rfl
 refine Ctr.of (args:=[pp bt 0,.agg #[vi p.1,vi p.2]]) func34 I ntmps34 (bE I) ?_;refine rZ (bW (bO I) fun b3=>?_);refine tZ (sQ ?_)
 rcases Bool.eq_false_or_eq_true r with hr | hr
 rotate_left
 ·subst hr;have ht:=hno rfl;rw[ht];refine sQ ?_;refine dW [] [(0,2),(1,2),(2,2),(3,1),(4,2),(5,2),(6,2),(7,2),(8,2),(9,1),(10,2),(11,1),(12,1),(13,2),(14,2),(15,2),(16,2),(17,2),(18,1),(19,2),(20,1),(21,1),(22,2),(23,2),(24,2),(25,2),(26,2),(27,1),(28,2),(29,1),(30,1),(31,2),(32,1),(33,0),(34,2),(35,2),(36,2),(37,2),(38,1),(39,0),(40,2)] Tryz.mixed kR ?_;refine yM I (pU I (nC I) (pU I (fA uT73 I zT4 I) (pK I (qL (v:=vb _) isAgg4 I (cO 1 I I)) (pU I (SU.not I) (yM I (yG I (yG I (yG I (yI I (yG I (yI I (yI I (pU I (wT I I) (yM I (yG I (yG I (yG I (yI I (yG I (yI I (yI I (pU I (wT I I) (yM I (yG I (yG I (yG I (yI I (yG I (yI I ?_)))))))))))))))))))))))))))));refine yI I (yG I (yI I (fO I (gZ I I I dC) dC ⟨by exact Le.refl _,(by exact .refl _)⟩ ?_)));refine yG I (pU I (wT I I) (yM I (yG I (yI I (fO I (gZ I I I dC) dC ⟨by exact Le.refl _,(by exact .refl _)⟩ ?_)))));refine pU I (wT I I) (pN (tN (SC.condT I (rE (tR (dR (.cons _ (.refl _)) ?_))))));exact ST.ret0 (.inl I) results34 ⟨Le.refl _,hm,um,tv,I,hH,hU⟩
 subst hr
 rcases Bool.eq_false_or_eq_true (usedR T p.1) with hx1 | hx1
 ·have ht:=hno (by rw[hx1]; rfl);rw[ht];refine sQ ?_;refine dW [] [(0,2),(1,2),(2,2),(3,1),(4,2),(5,2),(6,2),(7,2),(8,2),(9,1),(10,2),(11,1),(12,1),(13,2),(14,2),(15,2),(16,2),(17,2),(18,1),(19,2),(20,1),(21,1),(22,2),(23,2),(24,2),(25,2),(26,2),(27,1),(28,2),(29,1),(30,1),(31,2),(32,1),(33,0),(34,2),(35,2),(36,2),(37,2),(38,1),(39,0),(40,2)] Tryz.mixed kR ?_;refine yM I (pU I (nC I) (pU I (fA uT73 I zT4 I) (pK I (qL (v:=vb _) isAgg4 I (cO 1 I I)) (pU I (SU.not I) (yM I (yJ I (SP.gu I (gT I I I dC) (nC I) dC (SP.gu I (gT I I I dC) (fA uT73 I sizeOf71 I) dC (SP.gq I (gT I I I dC) (qL (v:=.map (some mu)) isAgg71 I (cO 1 I I)) dC (SP.gu I (gT I I I dC) (iB uT44 zT3 I I dC dC) dC (SP.gq I (gT I I I dC) (qL (v:=vi p.1) iT3 I (cO 0 I I)) dC (SP.gq I (gT I I I dC) (SQ.eq (v':=vb true) (SQ.lookup mty71 I I (MapAt.own 3 I)) ((hU p.1).trans (congrArg vb hx1))) dC (pU I (wF I I) (yM I (yG I (yG I (yG I (yI I (yG I (yI I (yI I (pU I (wT I I) (yM I (yG I (yG I (yG I (yI I (yG I (yI I ?_)))))))))))))))))))))))))))));refine yI I (yG I (yI I (fO I (gZ I I I dC) dC ⟨by exact Le.refl _,(by exact .refl _)⟩ ?_)));refine yG I (pU I (wT I I) (yM I (yG I (yI I (fO I (gZ I I I dC) dC ⟨by exact Le.refl _,(by exact .refl _)⟩ ?_)))));refine pU I (wT I I) (pN (tN (SC.condT I (rE (tR (dR (.cons _ (.refl _)) ?_))))));exact ST.ret0 (.inl I) results34 ⟨Le.refl _,hm,um,tv,I,hH,hU⟩
 rcases Bool.eq_false_or_eq_true (usedR T p.2) with hx2 | hx2
 ·have ht:=hno (by rw[hx1,hx2]; rfl);rw[ht];refine sQ ?_;refine dW [] [(0,2),(1,2),(2,2),(3,1),(4,2),(5,2),(6,2),(7,2),(8,2),(9,1),(10,2),(11,1),(12,1),(13,2),(14,2),(15,2),(16,2),(17,2),(18,1),(19,2),(20,1),(21,1),(22,2),(23,2),(24,2),(25,2),(26,2),(27,1),(28,2),(29,1),(30,1),(31,2),(32,1),(33,0),(34,2),(35,2),(36,2),(37,2),(38,1),(39,0),(40,2)] Tryz.mixed kR ?_;refine yM I (pU I (nC I) (pU I (fA uT73 I zT4 I) (pK I (qL (v:=vb _) isAgg4 I (cO 1 I I)) (pU I (SU.not I) (yM I (yJ I (SP.gu I (gT I I I dC) (nC I) dC (SP.gu I (gT I I I dC) (fA uT73 I sizeOf71 I) dC (SP.gq I (gT I I I dC) (qL (v:=.map (some mu)) isAgg71 I (cO 1 I I)) dC (SP.gu I (gT I I I dC) (iB uT44 zT3 I I dC dC) dC (SP.gq I (gT I I I dC) (qL (v:=vi p.1) iT3 I (cO 0 I I)) dC (SP.gq I (gT I I I dC) (SQ.eq (v':=vb false) (SQ.lookup mty71 I I (MapAt.own 3 I)) ((hU p.1).trans (congrArg vb hx1))) dC (pU I (wF I I) (yM I (yJ I (SP.gu I (gT I I I dC) (nC I) dC (SP.gu I (gT I I I dC) (fA uT73 I sizeOf71 I) dC (SP.gq I (gT I I I dC) (qL (v:=.map (some mu)) isAgg71 I (cO 1 I I)) dC (SP.gu I (gT I I I dC) (iB uT44 zT3 I I dC dC) dC (SP.gq I (gT I I I dC) (qL (v:=vi p.2) iT3 I (cO 0 I I)) dC (SP.gq I (gT I I I dC) (SQ.eq (v':=vb true) (SQ.lookup mty71 I I (MapAt.own 3 I)) ((hU p.2).trans (congrArg vb hx2))) dC (pU I (wF I I) (yM I (yG I (yG I (yG I (yI I (yG I (yI I ?_)))))))))))))))))))))))))))));refine yI I (yG I (yI I (fO I (gZ I I I dC) dC ⟨by exact Le.refl _,(by exact .refl _)⟩ ?_)));refine yG I (pU I (wT I I) (yM I (yG I (yI I (fO I (gZ I I I dC) dC ⟨by exact Le.refl _,(by exact .refl _)⟩ ?_)))));refine pU I (wT I I) (pN (tN (SC.condT I (rE (tR (dR (.cons _ (.refl _)) ?_))))));exact ST.ret0 (.inl I) results34 ⟨Le.refl _,hm,um,tv,I,hH,hU⟩
 rcases Bool.eq_false_or_eq_true ((S p.2).contains p.1) with hx3 | hx3
 rotate_left
 ·have ht:=hno (by rw[hx1,hx2,hx3]; rfl);rw[ht];refine sQ ?_;refine dW [] [(0,2),(1,2),(2,2),(3,1),(4,2),(5,2),(6,2),(7,2),(8,2),(9,1),(10,2),(11,1),(12,1),(13,2),(14,2),(15,2),(16,2),(17,2),(18,1),(19,2),(20,1),(21,1),(22,2),(23,2),(24,2),(25,2),(26,2),(27,1),(28,2),(29,1),(30,1),(31,2),(32,1),(33,0),(34,2),(35,2),(36,2),(37,2),(38,1),(39,0),(40,2)] Tryz.mixed kR ?_;refine yM I (pU I (nC I) (pU I (fA uT73 I zT4 I) (pK I (qL (v:=vb _) isAgg4 I (cO 1 I I)) (pU I (SU.not I) (yM I (yJ I (SP.gu I (gT I I I dC) (nC I) dC (SP.gu I (gT I I I dC) (fA uT73 I sizeOf71 I) dC (SP.gq I (gT I I I dC) (qL (v:=.map (some mu)) isAgg71 I (cO 1 I I)) dC (SP.gu I (gT I I I dC) (iB uT44 zT3 I I dC dC) dC (SP.gq I (gT I I I dC) (qL (v:=vi p.1) iT3 I (cO 0 I I)) dC (SP.gq I (gT I I I dC) (SQ.eq (v':=vb false) (SQ.lookup mty71 I I (MapAt.own 3 I)) ((hU p.1).trans (congrArg vb hx1))) dC (pU I (wF I I) (yM I (yJ I (SP.gu I (gT I I I dC) (nC I) dC (SP.gu I (gT I I I dC) (fA uT73 I sizeOf71 I) dC (SP.gq I (gT I I I dC) (qL (v:=.map (some mu)) isAgg71 I (cO 1 I I)) dC (SP.gu I (gT I I I dC) (iB uT44 zT3 I I dC dC) dC (SP.gq I (gT I I I dC) (qL (v:=vi p.2) iT3 I (cO 0 I I)) dC (SP.gq I (gT I I I dC) (SQ.eq (v':=vb false) (SQ.lookup mty71 I I (MapAt.own 3 I)) ((hU p.2).trans (congrArg vb hx2))) dC (pU I (wF I I) (yM I (yJ I (SP.gu I (gT I I I dC) (nC I) dC (SP.gu I (gT I I I dC) (fA uT73 I sizeOf69 I) dC (SP.gq I (gT I I I dC) (qL (v:=.map (some ms)) isAgg69 I (cO 1 I I)) dC (SP.gu I (gT I I I dC) (iB uT44 zT3 I I dC dC) dC (SP.gq I (gT I I I dC) (qL (v:=vi p.2) iT3 I (cO 0 I I)) dC ?_)))))))))))))))))))))))))))));refine SP.gq I (gT I I I dC) (SQ.eq (v':=v) (SQ.lookup mty69 I I (MapAt.known hsm)) hv1) dC (SP.gu I (gT I I I dC) (iB uT44 zT3 I I dC dC) dC (SP.gq I (gT I I I dC) (qL (v:=vi p.1) iT3 I (cO 0 I I)) dC (SP.go I (gT I I I dC) (SO.call call63 I (containsInt_spec E g _ v (S p.2) p.1 hv2 hvl)) dC (.inr iR) ?_)));rintro _ _ _ ⟨rfl,rfl,rfl⟩;rw[hx3];refine SP.gu I (gT I I I dC) (SU.not I) dC (pU I (wF I I) (yM I (yG I (yI I (fO I (gZ I I I dC) dC ⟨by exact Le.refl _,(by exact .refl _)⟩ ?_)))));refine pU I (wT I I) (pN (tN (SC.condT I (rE (tR (dR (.cons _ (.refl _)) ?_))))));exact ST.ret0 (.inl I) results34 ⟨Le.refl _,hm,um,tv,I,hH,hU⟩
 refine sQ ?_;refine dW [] [(0,2),(1,2),(2,2),(3,1),(4,2),(5,2),(6,2),(7,2),(8,2),(9,1),(10,2),(11,1),(12,1),(13,2),(14,2),(15,2),(16,2),(17,2),(18,1),(19,2),(20,1),(21,1),(22,2),(23,2),(24,2),(25,2),(26,2),(27,1),(28,2),(29,1),(30,1),(31,2),(32,1),(33,0),(34,2),(35,2),(36,2),(37,2),(38,1),(39,0),(40,2)] Tryz.mixed kR ?_;refine yM I (pU I (nC I) (pU I (fA uT73 I zT4 I) (pK I (qL (v:=vb _) isAgg4 I (cO 1 I I)) (pU I (SU.not I) (yM I (yJ I (SP.gu I (gT I I I dC) (nC I) dC (SP.gu I (gT I I I dC) (fA uT73 I sizeOf71 I) dC (SP.gq I (gT I I I dC) (qL (v:=.map (some mu)) isAgg71 I (cO 1 I I)) dC (SP.gu I (gT I I I dC) (iB uT44 zT3 I I dC dC) dC (SP.gq I (gT I I I dC) (qL (v:=vi p.1) iT3 I (cO 0 I I)) dC (SP.gq I (gT I I I dC) (SQ.eq (v':=vb false) (SQ.lookup mty71 I I (MapAt.own 3 I)) ((hU p.1).trans (congrArg vb hx1))) dC (pU I (wF I I) (yM I (yJ I (SP.gu I (gT I I I dC) (nC I) dC (SP.gu I (gT I I I dC) (fA uT73 I sizeOf71 I) dC (SP.gq I (gT I I I dC) (qL (v:=.map (some mu)) isAgg71 I (cO 1 I I)) dC (SP.gu I (gT I I I dC) (iB uT44 zT3 I I dC dC) dC (SP.gq I (gT I I I dC) (qL (v:=vi p.2) iT3 I (cO 0 I I)) dC (SP.gq I (gT I I I dC) (SQ.eq (v':=vb false) (SQ.lookup mty71 I I (MapAt.own 3 I)) ((hU p.2).trans (congrArg vb hx2))) dC (pU I (wF I I) (yM I (yJ I (SP.gu I (gT I I I dC) (nC I) dC (SP.gu I (gT I I I dC) (fA uT73 I sizeOf69 I) dC (SP.gq I (gT I I I dC) (qL (v:=.map (some ms)) isAgg69 I (cO 1 I I)) dC (SP.gu I (gT I I I dC) (iB uT44 zT3 I I dC dC) dC (SP.gq I (gT I I I dC) (qL (v:=vi p.2) iT3 I (cO 0 I I)) dC ?_)))))))))))))))))))))))))))));refine SP.gq I (gT I I I dC) (SQ.eq (v':=v) (SQ.lookup mty69 I I (MapAt.known hsm)) hv1) dC (SP.gu I (gT I I I dC) (iB uT44 zT3 I I dC dC) dC (SP.gq I (gT I I I dC) (qL (v:=vi p.1) iT3 I (cO 0 I I)) dC (SP.go I (gT I I I dC) (SO.call call63 I (containsInt_spec E g _ v (S p.2) p.1 hv2 hvl)) dC (.inr iR) ?_)));rintro _ _ _ ⟨rfl,rfl,rfl⟩;rw[hx3];refine SP.gu I (gT I I I dC) (SU.not I) dC (pU I (wF I I) (yM I (yJ I (SP.gq I (gT I I I dC) (qV 0 iT44 zT44 I I I) dC (SP.go I (gT I I I dC) (SO.call call64 I (around14_spec E g _ bt ms mh p S sm hm T _ (.map (some mu)) tv hsm hS hH 1 2 I I)) dC (.inr iR) ?_)))));rintro _ g1 _ ⟨rfl,rfl,hle1⟩;refine pU I (wF I I) (pN (tN ?_));refine iQ I (fun hx4=>?_) (fun hx4=>?_)
 ·have ht:=hno (by rw[hx1,hx2,hx3,hx4]; rfl);rw[ht];refine rE (tR (dR (.cons _ (.refl _)) ?_));exact ST.ret0 (.inl I) results34 ⟨hle1,hm,um,tv,I,hH,hU⟩
 ·have ht:takeP true S T p=T++[p]:=by rw[htk,hx1,hx2,hx3,hx4]; rfl
  rw[ht];have hU2:=hU.snoc p;have hH2:=hH.snoc hx1;refine kP (tN (sQ ?_));refine SC.drawT 3 [] [(0,2),(1,2),(2,2),(3,1),(4,2),(5,1),(6,2),(7,2),(8,2),(9,1),(10,2),(11,1),(12,0),(13,2),(14,0),(15,0),(16,2),(17,0)] Tryz.mixed kR ?_;refine yM rfl (pU rfl (nC rfl) (pU rfl (fA uT73 rfl sizeOf71 rfl) (pK rfl (qL (v:=.map (some mu)) isAgg71 rfl (cO 1 rfl rfl)) (pU rfl (iB uT44 zT3 rfl rfl dC dC) (pK rfl (qL (v:=vi p.1) iT3 rfl (cO 0 rfl rfl)) (yM rfl (pU rfl (nC rfl) (pU rfl (fA uT73 rfl sizeOf71 rfl) (pK rfl (qL (v:=.map (some mu)) isAgg71 rfl (cO 1 rfl rfl)) (pU rfl (iB uT44 zT3 rfl rfl dC dC) (pK rfl (qL (v:=vi p.2) iT3 rfl (cO 0 rfl rfl)) (SP.o rfl (SO.mapEntry 3 mty71 rfl rfl rfl) dC (.inr (by rintro _ _ _ ⟨st1,j1,l1,rfl,rfl,rfl,hk1,hp1⟩; exact⟨by exact Le.refl _,(by exact take_set_sub _ _ _ _)⟩)) ?_))))))))))));rintro _ _ _ ⟨st1,j1,l1,rfl,rfl,rfl,hk1,hp1⟩;refine pU rfl (xT rfl rfl) (SP.on rfl (SO.entryStore 3 rfl rfl rfl rfl hk1) (.inr (by rintro _ _ _ ⟨rfl,rfl⟩; exact⟨by exact Le.refl _,(by exact .cons_cons _ (.cons_cons _ (.cons_cons _ (List.nil_sublist _))))⟩)) ?_);rintro _ _ _ ⟨rfl,rfl⟩;rw[← hp1];refine SP.o rfl (SO.mapEntry 3 mty71 rfl rfl rfl) dC (.inr (by rintro _ _ _ ⟨st2,j2,l2,rfl,rfl,rfl,hk2,hp2⟩; exact⟨by exact Le.refl _,(by exact .cons_cons _ (.cons_cons _ (.cons_cons _ (List.nil_sublist _))))⟩)) ?_;rintro _ _ _ ⟨st2,j2,l2,rfl,rfl,rfl,hk2,hp2⟩;refine pU rfl (xT rfl rfl) (SP.on rfl (SO.entryStore 3 rfl rfl rfl rfl hk2) (.inr (by rintro _ _ _ ⟨rfl,rfl⟩; exact⟨by exact Le.refl _,(by exact .cons_cons _ (.cons_cons _ (.cons_cons _ (List.nil_sublist _))))⟩)) ?_);rintro _ _ _ ⟨rfl,rfl⟩;rw[← hp2];refine pN (tN (sQ ?_));refine dW [8] [(0,2),(1,2),(2,2),(3,1),(4,2),(5,1),(6,2),(7,1),(8,0)] Tryz.mixed kR ?_;refine yM I (pU I (nC I) (pU I (fA uT73 I sizeOf70 I) (pK I (qL (v:=.map (some mh)) isAgg70 I (cO 1 I I)) (pU I (iB uT44 zT3 I I dC dC) (pK I (qL (v:=vi p.1) iT3 I (cO 0 I I)) (pU I (iB uT44 zT3 I I dC dC) (pK I (qL (v:=vi p.2) iT3 I (cO 0 I I)) (SP.on I (SO.mapUpdate 2 mty70 I I I I) (.inl dC) ?_))))))));rintro _ _ _ ⟨rfl,rfl⟩;refine pN (tN ?_);refine dW [7,10] [(0,2),(1,2),(2,2),(3,2),(4,1),(5,1),(6,0),(7,0),(8,2),(9,2),(10,0)] Tryz.mixed kR ?_;refine yM I (yM I (pU I (nC I) (pU I (fA uT73 I sizeOf31 I) (pK I (qL (v:=tv) isAgg31 I (cO 1 I I)) (pK I (qV 0 iT44 zT44 I I I) (SP.o I (bS sty31 I I I (szs_mk ⟨I,trivial⟩) dC) dC (.inr iR) ?_))))));rintro _ _ _ ⟨b75,rfl,rfl,rfl⟩;refine SP.o I (aP (e:=encPr) 4 p sty31 I I I I I oM oM) dC (.inl dC) ?_;rintro tv' _ _ ⟨rfl,rfl⟩;refine SP.facts fun ⟨w0,hw0⟩=>?_;obtain ⟨q76,c76,rfl⟩:=rowA_form (e:=encPr) (l:=T++[p]) (i:=4) hw0 rfl;clear hw0 w0;refine pU rfl (nC rfl) (pU rfl (fA uT73 rfl sizeOf31 rfl) (SP.on rfl (SO.store1 1 sizeOf31 rfl rfl rfl rfl (bE rfl) (by rfl)) (.inl dC) ?_));rintro _ _ _ ⟨rfl,rfl⟩;refine pN (dR (.cons _ (.refl _)) ?_);exact ST.ret0 (.inr I) results34 ⟨hle1,_,_,_,I,hH2,hU2⟩
def sidStep (S:Int→List Int)(c:Cl):Int→List Int:=fun k=>if k=c.id then c.sides.map Side.cell else S k
def sidF (l:List Cl):Int→List Int:=(canonC l).foldl sidStep (fun _=>[])
theorem SidM.put {g:PH}{m:List (Int×Value)}{S:Int→List Int}(h:SidM g m S)(c:Cl){v:Value}(hv:Ints g v (c.sides.map Side.cell))(hl:c.sides.length<1099511627776):SidM g (mput m c.id v) (sidStep S c):=fun k=>by
 unfold sidStep;rw[mget_mput];by_cases e:k=c.id
 ·rw[if_pos e,if_pos e];exact⟨v,I,hv,by rw[List.length_map]; exact hl⟩
 ·rw[if_neg e,if_neg e];exact h k
theorem Tryz.build73 (b:Bool)(x y z:Option Nat)(p:Option Addr)(n c:Nat)(w:World):(Instr.build 73 #[(0,vb b),(1,.map x),(2,.map y),(3,.map z),(4,.slice p n c)]).run Tryz.prog w = .ok (.agg #[vb b,.map x,.map y,.map z,.slice p n c]) w:=by
 have h1:(vb b).cells = #[vb b]:=rfl;have h2:∀ x,(Value.map x).cells = #[.map x]:=fun _=>rfl;have h3:(Value.slice p n c).cells = #[.slice p n c]:=rfl;simp[Instr.build,Instr.fill,h1,h2,h3];rfl
theorem perm4 (a b c d:Ent)(s:Own):(a::b::c::d::s).Perm (d::a::c::b::s) :=
 (List.Perm.cons a (List.Perm.cons b (List.Perm.swap d c s))).trans ((List.Perm.cons a (List.Perm.swap d b (c::s))).trans ((List.Perm.swap d a (b::c::s)).trans (List.Perm.cons d (List.Perm.cons a (List.Perm.swap c b s)))))
theorem begin_spec (E:World)(g:PH)(s:Own)(v:Value)(l:List Cl)(hv:Cells g v l)(hf:Fits l) :
  Ctr Tryz.prog E 33 #[.agg #[v]] g s (fun y g' s'=>Le g g'∧∃ bt ms mh mu sm,y=pp bt 0∧s'=pt bt (.cells #[vb (decide ((checkC l).2=0)),.map (some ms),.map (some mh),.map (some mu),.slice none 0 0] 73 (0,0))::mp mh []::mp mu []::rowA encPr 44 (.slice none 0 0) []::s∧Mp g' ms sm∧SidM g' sm (sidF l)):=by
 have hfc:=canonC_fits hf;have hres:sidF l=(canonC l).foldl sidStep (fun _=>[]):=rfl;rw[hres];refine Ctr.of (args:=[.agg #[v]]) func33 I ntmps33 (bE I) ?_;refine rZ (bW (bO I) fun b1=>?_);refine aT I (rZ (lK (qV 0 iT29 zT29 I I I) (lW (SO.call call24 I (check_spec E g _ v l hv hf)) ?_)));rintro _ _ _ ⟨rfl,rfl,rfl⟩;refine lM I (yX I (yX I (lA I (aT I (sW I (yE I (lW (SO.mkMap) ?_)))))));rintro _ _ _ ⟨b18,rfl,rfl,rfl⟩;refine lW (SO.mkMap) ?_;rintro _ _ _ ⟨b19,rfl,rfl,rfl⟩;refine lW (SO.mkMap) ?_;rintro _ _ _ ⟨b20,rfl,rfl,rfl⟩;refine lU (SU.build I (build73 _ _ _ _ _ _ _)) (bW (bO I) fun b22=>?_);refine aT I (sQ (rZ (lK (qV 4 iT29 zT29 I I I) (lW (SO.call call50 I (canon_spec E g _ v l hv hf)) ?_))));rintro _ g1 _ ⟨rfl,hle1,u,rfl,hc⟩;obtain ⟨rs,hrs,hall⟩:=hc;obtain ⟨q,d,rfl⟩:=SlA.form hrs;refine lU (SU.field uT29 I iT27 I I) (lU (eN uT27 I) (lM I (tZ (bK ?_))));generalize canonC l=A at *;generalize decide ((checkC l).2=0)=rt at *;have hrl:=hall.length;have hAl:=hfc.1;refine oP (ι:=Nat×PH×List (Int×Value)) (fun i=>[(5,pp b22 0),(25,.slice q rs.length d),(26,vi rs.length),(27,vi i.1)]) (fun i=>i.2.1) (fun i=>pt b22 (.cells #[vb rt,.map (some b18),.map (some b19),.map (some b20),.slice none 0 0] 73 (0,0))::mp b20 []::mp b19 []::mp b18 i.2.2::pt b1 (.cells #[v] 29 (0,0))::s)
  (fun i=>i.1≤A.length∧Le g1 i.2.1∧SidM i.2.1 i.2.2 ((A.take i.1).foldl sidStep (fun _=>[]))) (fun i=>A.length - i.1) (0,g1,[])
  sB rfl rfl ⟨Nat.zero_le _,Le.refl _,fun k=>⟨_,rfl,Sl.nil g1 _,by simp⟩⟩ ?_
 rintro ⟨k,g2,sm⟩ ⟨hk,hle2,hS⟩;dsimp only at hk hle2 hS ⊢;refine rZ (yL I (tZ (sQ ?_)));refine iP I (fun hlt=>?_) (fun hlt=>?_)
 ·have hkl:k<A.length:=oM;have hkr:k<rs.length:=oM;have hb1:=SlA.based hrs oM;have hgk:rs[((k:Nat):Int).toNat]?=some rs[k]:=gE hkr;have hcr:=CellR.mono hle2 (hall.get (gE hkl) (gE hkr));have hsl:=hfc.2 A[k] (gM hkl);have htk:(A.take (k+1)).foldl sidStep (fun _=>[])=sidStep ((A.take k).foldl sidStep (fun _=>[])) A[k]:=by rw[tS hkl,List.foldl_append]; rfl
  generalize A[k]=c at *;generalize hrk:rs[k]=rk at *;obtain ⟨xi,xd,xp,xn,xc⟩:=rk;obtain ⟨e1,e2,hxs⟩:=hcr;dsimp only at e1 e2 hxs;have hxn:xn=c.sides.length:=Sl.slen hxs;subst hxn e1 e2;refine kP (tN (sQ (bK (rZ (lU (iA uT27 zT54 I I hb1 oM sL) (lK (eA iT54 zT54 I (SlA.rd (SlA.mono hrs hle2)) hgk) (bW (aL zeroValue54) fun b7=>?_)))))));refine oZ (sK 0 zT54 I I I I I sB) ?_;refine tZ (rZ (lW (bS sty22 I I I (szs_mk trivial) dC) ?_));rintro _ _ _ ⟨b31,rfl,rfl,rfl⟩;refine SL.emptyRow 3 1 (some ⟨b31,0,none⟩) ?_;refine SL.to (g':=g2) (s':=rowA encInt 3 (.slice (some ⟨b31,0,none⟩) 0 0) []::pt b7 (.cells #[vi c.id,vi c.dim,.slice xp c.sides.length xc] 54 (0,0))::pt b22 (.cells #[vb rt,.map (some b18),.map (some b19),.map (some b20),.slice none 0 0] 73 (0,0))::mp b20 []::mp b19 []::mp b18 sm::pt b1 (.cells #[v] 29 (0,0))::s) (fun w hw=>hw.sublist (.cons_cons _ (.cons _ (.refl _)))) ?_;refine aT I (sQ (rZ (lU (fA uT54 I zT37 I) (lK (qL (v:=.slice xp c.sides.length xc) iT37 I (cO 1 I I)) (lU (eN uT37 I) (lM I (tZ (bK ?_))))))));refine oP (ι:=Value×Nat) (fun i=>[(5,pp b22 0),(7,pp b7 0),(8,i.1),(25,.slice q rs.length d),(26,vi rs.length),(27,vi k),(33,.slice xp c.sides.length xc),(34,vi c.sides.length),(35,vi i.2)]) (fun _=>g2)
   (fun i=>rowA encInt 3 i.1 ((c.sides.take i.2).map Side.cell)::pt b7 (.cells #[vi c.id,vi c.dim,.slice xp c.sides.length xc] 54 (0,0))::pt b22 (.cells #[vb rt,.map (some b18),.map (some b19),.map (some b20),.slice none 0 0] 73 (0,0))::mp b20 []::mp b19 []::mp b18 sm::pt b1 (.cells #[v] 29 (0,0))::s)
   (fun i=>i.2≤c.sides.length) (fun i=>c.sides.length - i.2) (.slice (some ⟨b31,0,none⟩) 0 0,0) sB rfl rfl (Nat.zero_le _) ?_
  rintro ⟨w,j⟩ hj;dsimp only at hj ⊢;refine rZ (yL I (tZ (sQ ?_)));refine iP I (fun hjl=>?_) (fun hjl=>?_)
  ·have hjS:j<c.sides.length:=oM;have hb2:=SlA.based hxs oM;have hgj:c.sides[((j:Nat):Int).toNat]?=some c.sides[j]:=gE hjS;have hll:((c.sides.take j).map Side.cell).length=j:=by rw[List.length_map,List.length_take]; omega
   refine kP (tN (sQ (bK (rZ (lU (iA uT37 zT56 I I hb2 oM sL) (lK (eA iT56 zT56 I (SlA.rd hxs) hgj) (bW (aL zeroValue56) fun b10=>?_)))))));refine oZ (sK 0 zT56 I I I I I sB) ?_;refine tZ (rG (lM I (lU (fA uT56 I zT3 I) (lK (qL (v:=vi c.sides[j].cell) iT3 I (cO 0 I I)) (lW (bS sty22 I I I (szs_mk ⟨I,trivial⟩) dC) ?_)))));rintro _ _ _ ⟨b42,rfl,rfl,rfl⟩;refine lW (aP (e:=encInt) 1 c.sides[j].cell sty22 I I I I I oM oM) ?_;rintro w3 _ _ ⟨rfl,rfl⟩;refine lA I (nL (bN (tN (rG (yD I (lM I (nL (dR (.cons _ (.refl _)) ?_))))))));exact ST.again (w3,j+1) sB rfl (by dsimp only; rw[tS hjS,List.map_append]; rfl) (by dsimp only; omega) (by dsimp only; omega)
  ·have hjj:c.sides.take j=c.sides:=tL oM;rw[hjj];refine xI (tX (tX (bX (tN (fS fun g3 hle3 hs3=>?_)))));refine dW [7] [(0,2),(1,2),(2,2),(3,1),(4,2),(5,1),(6,2),(7,0)] Tryz.mixed kR ?_;refine yM I (pU I (nC I) (pU I (fA uT73 I sizeOf69 I) (pK I (qL (v:=.map (some b18)) isAgg69 I (cO 1 I I)) (pU I (fA uT54 I zT3 I) (pK I (qL (v:=vi c.id) iT3 I (cO 0 I I)) (yM I (SP.on I (SO.mapUpdate 4 mty69 I I I I) (.inl dC) ?_)))))));rintro _ _ _ ⟨rfl,rfl⟩;refine pN (bN (tN (rG (yD I (lM I (nL (dR (.cons _ (.refl _)) ?_)))))));exact ST.again (k+1,g3,mput sm c.id w) sB I I ⟨by dsimp only; omega,hle2.trans hle3,by dsimp only; rw[htk]; exact (hS.mono hle3).put c hs3 hsl⟩ (by dsimp only; omega)
 ·have hkk:A.take k=A:=tL oM;rw[hkk] at hS;refine xI (tX (tX (bX (tN (sW I (aT I (rE (ST.perm (perm4 _ _ _ _ _) (ST.freezeMap fun g3 hle3 hm3=>?_)))))))));refine ST.to (g':=g3) (s':=[pt b22 (.cells #[vb rt,.map (some b18),.map (some b19),.map (some b20),.slice none 0 0] 73 (0,0)),mp b19 [],mp b20 []]++rowA encPr 44 (.slice none 0 0) []::s) (fun w hw=>((hw.sublist (.cons_cons _ (.cons_cons _ (.cons_cons _ (.cons _ (.refl _)))))).nilRow 44 2).perm (List.perm_middle (l₁:=[pt b22 (.cells #[vb rt,.map (some b18),.map (some b19),.map (some b20),.slice none 0 0] 73 (0,0)),mp b19 [],mp b20 []])).symm) ?_;exact ST.ret1 (.inl I) results33 I ⟨hle1.trans (hle2.trans hle3),b22,b18,b19,b20,sm,I,I,hm3,hS.mono hle3⟩
theorem all_spec (E:World)(g:PH)(s:Own)(v:Value) :
  Ctr Tryz.prog E 36 #[.agg #[v]] g s (fun r g' s'=>s=s'∧Le g g'∧∃ b,r = .func (.func 66) #[] #[pp b 0]∧g' b=some (.cells #[v] 29 (0,0))):=by
 refine Ctr.of (args:=[.agg #[v]]) func36 I ntmps36 (bE I) ?_;refine rZ (bW (bO I) fun b1=>?_);refine aT I (rZ (lU (SU.mkFunc I) (aT I (rE (ST.freeze fun g1 hle hb=>?_)))));exact ST.ret1 (.inl I) results36 I ⟨I,hle,_,I,hb⟩
def pairsOf (l:List Cl)(c:Cl):List Pr:=(aboveC l c.id).map fun h=>(c.id,h)
theorem flat_split {A:List Cl}{f:Cl→List Pr}{k j:Nat}(hk:k<A.length)(hj:j<(f A[k]).length):A.flatMap f=((A.take k).flatMap f++(f A[k]).take j)++(f A[k])[j]::((f A[k]).drop (j+1)++(A.drop (k+1)).flatMap f):=by
 have e1:A=A.take k++A[k]::A.drop (k+1):=by rw[List.getElem_cons_drop,List.take_append_drop]
 have e2:f A[k]=(f A[k]).take j++(f A[k])[j]::(f A[k]).drop (j+1):=by rw[List.getElem_cons_drop,List.take_append_drop]
 calc A.flatMap f=(A.take k++A[k]::A.drop (k+1)).flatMap f:=by rw[← e1]
  _=(A.take k).flatMap f++(f A[k]++(A.drop (k+1)).flatMap f):=by rw[List.flatMap_append,List.flatMap_cons]
  _=(A.take k).flatMap f++(((f A[k]).take j++(f A[k])[j]::(f A[k]).drop (j+1))++(A.drop (k+1)).flatMap f):=by rw[← e2]
  _=_:=by simp only[List.append_assoc,List.cons_append]
theorem all_gives (E:World)(g0:PH)(b:Nat)(v:Value)(l:List Cl)(hb:g0 b=some (.cells #[v] 29 (0,0)))(hv:Cells g0 v l)(hf:Fits l) :
  Gives2 Tryz.prog E 66 [pp b 0] (fun p:Pr=>[.agg #[vi p.1,vi p.2]]) (pairsP l) g0:=by
 intro y ι G S J i0 h0 hmono hup hY sx;have hfc:=canonC_fits hf;have hres:pairsP l=(canonC l).flatMap (pairsOf l):=rfl;rw[hres] at hY ⊢;have hm0:=hmono _ _ h0;have habl:∀ id,(aboveC l id).length<1099511627776:=fun id=>Nat.lt_of_le_of_lt (above_len l id) (tabC_fits hf).1;refine Ctr.ofX (args:=[.func (.yield y) #[] #[],pp b 0]) func66 I ntmps66 (bE I) ?_;refine XC.seq ?_;refine XC.region ?_;refine XL.q (SQ.loadAggAt (vs:=[v]) iT29 zT29 rfl rfl (fun j u hj=>by rcases j with _ | j; (· simp at hj; subst hj; exact cK (hmono _ _ h0 _ _ hb) rfl); simp at hj)) dC ?_;refine XL.o (SO.call call50 I (canon_spec E (G i0) _ v l (hv.mono hm0) hf)) dC ?_;rintro _ g1 _ ⟨rfl,hle1,u,rfl,hc⟩;obtain ⟨rs,hrs,hall⟩:=hc;obtain ⟨q,d,rfl⟩:=SlA.form hrs;refine XL.u (SU.field uT29 I iT27 I I) dC ?_;refine XL.u (eN uT27 I) dC ?_;refine XL.u (mV I) dC ?_;refine XL.nil ?_;refine XT.thenN ?_;refine XC.block ?_;generalize canonC l=A at *;have hrl:=hall.length;have hAl:=hfc.1;obtain ⟨i1,hJ1,hG1,hS1⟩:=hup _ _ _ h0 hle1;refine XC.loop (ι:=ι×Nat) (fun z=>[(0,.func (.yield y) #[] #[]),(1,pp b 0),(9,.slice q rs.length d),(10,vi rs.length),(11,vi z.2)]) (fun z=>G z.1) (fun z=>S z.1++sx) (fun z=>z.2≤A.length∧Le g1 (G z.1)∧J ((A.take z.2).flatMap (pairsOf l)) z.1) (fun z=>A.length - z.2) (i1,0)
  sB hG1 (by dsimp only; rw[hS1]) ⟨Nat.zero_le _,by dsimp only; rw[hG1]; exact Le.refl _,hJ1⟩ ?_
 rintro ⟨i,k⟩ ⟨hk,hle2,hJ⟩;dsimp only at hk hle2 hJ ⊢;have hm:=hmono _ _ hJ;refine XC.seq ?_;refine XC.region ?_;refine XL.u (lS I I) dC ?_;refine XL.nil ?_;refine XT.thenN ?_;refine XC.seq ?_;refine XC.ifP I (fun hlt=>?_) (fun hlt=>?_)
 ·have hkl:k<A.length:=oM;have hkr:k<rs.length:=oM;have hb1:=SlA.based hrs oM;have hgk:rs[((k:Nat):Int).toNat]?=some rs[k]:=gE hkr;have hcr:=CellR.mono hle2 (hall.get (gE hkl) (gE hkr));have hfs:∀ j (hj:j<(pairsOf l A[k]).length),A.flatMap (pairsOf l)=((A.take k).flatMap (pairsOf l)++(pairsOf l A[k]).take j)++(pairsOf l A[k])[j]::((pairsOf l A[k]).drop (j+1)++(A.drop (k+1)).flatMap (pairsOf l)):=fun j hj=>flat_split hkl hj;have htk:(A.take (k+1)).flatMap (pairsOf l)=(A.take k).flatMap (pairsOf l)++pairsOf l A[k]:=by rw[tS hkl,List.flatMap_append]; simp
  generalize A[k]=c at *;generalize hrk:rs[k]=rk at *;obtain ⟨xi,xd,xp,xn,xc⟩:=rk;obtain ⟨e1,e2,hxs⟩:=hcr;dsimp only at e1 e2 hxs;subst e1 e2;have hal:=habl c.id;refine XC.skip ?_;refine XT.thenN ?_;refine XC.seq ?_;refine XC.block ?_;refine XC.seq ?_;refine XC.region ?_;refine XL.u (iA uT27 zT54 I I hb1 oM sL) dC ?_;refine XL.q (eA iT54 zT54 I (SlA.rd (SlA.mono hrs hle2)) hgk) dC ?_;refine XL.o (aL zeroValue54) dC ?_;rintro _ _ _ ⟨b4,rfl,rfl,rfl⟩;refine XL.on (sK 0 zT54 I I I I I sB) ?_;rintro _ _ _ ⟨rfl,rfl⟩;refine XL.nil ?_;refine XT.thenN ?_;refine XC.seq ?_;refine XC.region ?_;refine XL.q (SQ.loadAggAt (vs:=[v]) iT29 zT29 rfl rfl (fun j u hj=>by rcases j with _ | j; (· simp at hj; subst hj; exact cK (hm _ _ hb) rfl); simp at hj)) dC ?_;refine XL.u (fA uT54 I zT3 I) dC ?_;refine XL.q (qL (v:=vi c.id) iT3 I (cO 0 I I)) dC ?_;refine XL.o (SO.call call55 I (above_spec E (G i) _ v l c.id (hv.mono hm) hf)) dC ?_;rintro av g3 _ ⟨rfl,hle3,hav⟩;obtain ⟨qa,da,rfl⟩:=SlA.form hav;refine XL.u (eN uT22 I) dC ?_;refine XL.u (mV I) dC ?_;refine XL.nil ?_;refine XT.thenN ?_;refine XC.block ?_;obtain ⟨i2,hJ2,hG2,hS2⟩:=hup _ _ _ hJ hle3;have hpo:pairsOf l c=(aboveC l c.id).map fun h=>(c.id,h):=rfl;rw[hpo] at hfs htk;generalize aboveC l c.id=B at *;refine XC.to (g':=g3) (s':=S i++(pt b4 (.cells #[vi c.id,vi c.dim,.slice xp xn xc] 54 (0,0))::sx)) (fun w hw=>hw.perm List.perm_middle.symm) ?_;refine XC.loop (ι:=ι×Nat) (fun z=>[(0,.func (.yield y) #[] #[]),(1,pp b 0),(4,pp b4 0),(9,.slice q rs.length d),(10,vi rs.length),(11,vi k),(18,.slice qa B.length da),(19,vi B.length),(20,vi z.2)]) (fun z=>G z.1) (fun z=>S z.1++(pt b4 (.cells #[vi c.id,vi c.dim,.slice xp xn xc] 54 (0,0))::sx)) (fun z=>z.2≤B.length∧Le g3 (G z.1)∧J ((A.take k).flatMap (pairsOf l)++(B.map fun h=>(c.id,h)).take z.2) z.1) (fun z=>B.length - z.2) (i2,0)
   sB hG2 (by dsimp only; rw[hS2]) ⟨Nat.zero_le _,by dsimp only; rw[hG2]; exact Le.refl _,by simpa using hJ2⟩ ?_
  rintro ⟨i3,j⟩ ⟨hj,hle4,hJ3⟩;dsimp only at hj hle4 hJ3 ⊢;refine XC.seq ?_;refine XC.region ?_;refine XL.u (lS I I) dC ?_;refine XL.nil ?_;refine XT.thenN ?_;refine XC.seq ?_;refine XC.ifP I (fun hjl=>?_) (fun hjl=>?_)
  ·have hjB:j<B.length:=oM;have hjM:j<(B.map fun h=>(c.id,h)).length:=by rw[List.length_map]; exact hjB
   have hb2:=SlA.based hav oM;have hgj:B[((j:Nat):Int).toNat]?=some B[j]:=gE hjB;have hy:=hY _ _ _ i3 (pt b4 (.cells #[vi c.id,vi c.dim,.slice xp xn xc] 54 (0,0))::sx) (hfs j hjM) hJ3;have htj:(B.map fun h=>(c.id,h)).take (j+1)=(B.map fun h=>(c.id,h)).take j++[(c.id,B[j])]:=by rw[tS hjM,List.getElem_map]
   have hxe:(B.map fun h=>(c.id,h))[j]=(c.id,B[j]):=List.getElem_map ..;rw[hxe] at hy;dsimp only at hy;refine XC.skip ?_;refine XT.thenN ?_;refine XC.seq ?_;refine XC.block ?_;refine XC.seq ?_;refine XC.region ?_;refine XL.u (iA uT22 zT3 I I hb2 oM sL) dC ?_;refine XL.q (eB iT3 I (SlA.rd (SlA.mono hav hle4)) hgj I) dC ?_;refine XL.u (aS I) dC ?_;refine XL.nil ?_;refine XT.thenN ?_;refine XC.seq ?_;refine XC.region ?_;refine XL.u (mV I) dC ?_;refine XL.u (fA uT54 I zT3 I) dC ?_;refine XL.q (qL (v:=vi c.id) iT3 I (cO (cs:=#[vi c.id,vi c.dim,.slice xp xn xc]) (T:=54) (fr:=(0,0)) (S i3).length (by simp) I)) dC ?_;refine XL.u (mV I) dC ?_;refine XL.u (SU.build I (build44 _ _)) dC ?_;refine XL.x (XO.yield I I hy) dC ?_;rintro _ _ _ ⟨rfl,j',hJ',hL',rfl,rfl⟩;refine XL.u (SU.not I) dC ?_;refine XL.nil ?_;refine XT.thenN ?_;refine XC.condF I ?_;refine XC.skip ?_;refine XT.blockN ?_;refine XT.thenN ?_;refine XC.region ?_;refine XL.u (aD I I oM) dC ?_;refine XL.u (mV I) dC ?_;refine XL.nil ?_;exact XT.again (j',j+1) sB I I ⟨by dsimp only; omega,hle4.trans hL',by dsimp only; rw[htj,← List.append_assoc]; exact hJ'⟩ (by dsimp only; omega)
  ·have hjj:(B.map fun h=>(c.id,h)).take j=B.map fun h=>(c.id,h):=tL (by rw[List.length_map]; omega);rw[hjj,← htk] at hJ3;refine XC.exit ?_;refine XT.thenX ?_;refine XT.thenX ?_;refine XT.blockX ?_;refine XT.blockN ?_;refine XT.thenN ?_;refine XC.region ?_;refine XL.u (aD I I oM) dC ?_;refine XL.u (mV I) dC ?_;refine XL.nil ?_;refine XT.drop ((List.Sublist.refl _).append (List.sublist_cons_self _ _)) ?_;exact XT.again (i3,k+1) sB I I ⟨by dsimp only; omega,hle2.trans (hle3.trans hle4),hJ3⟩ (by dsimp only; omega)
 ·have hkk:A.take k=A:=tL oM;rw[hkk] at hJ;refine XC.exit ?_;refine XT.thenX ?_;refine XT.thenX ?_;refine XT.blockX ?_;exact XT.leave0 (.inr I) (ST.ret0 (.inr I) results66 ⟨i,hJ,I,I⟩)
end Go.Proofs.YtmmghffoakhheaaGreatDoor
