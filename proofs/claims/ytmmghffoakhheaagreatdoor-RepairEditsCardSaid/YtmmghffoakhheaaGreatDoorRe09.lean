/- 9 -/
import Derived.Test.YtmmghffoakhheaaGreatDoorRe08
import Derived.ChangeKeysEq
set_option linter.unusedSimpArgs false
set_option linter.unusedVariables false
namespace Go.Proofs.YtmmghffoakhheaaGreatDoor
open _root_.Go.Proofs.Tryz _root_.Go.Proofs.YtmmghffoakhheaaGreatDoor.Tryz
open Go Go.Sy Go.Pl Go.Proofs
def kf (l:List Cl)(h:Int):List Int:=((findC l h).getD bg).sides.map Side.cell
def Bb (l:List Cl)(low high:Int):Int:=(((findC l high).getD bg).sides.find? fun s=>decide (s.cell=low)).elim 0 Side.sign
def cq (m:List Pr)(id:Int):Bool:=(m.any fun q=>decide (q.1=id))||(m.any fun q=>decide (q.2=id))
def ei (l:List Cl)(m:List Pr)(k:Nat):Bool:=cq (m.take k) (m.getD k (0,0)).1||cq (m.take k) (m.getD k (0,0)).2||decide (Bb l (m.getD k (0,0)).1 (m.getD k (0,0)).2=0)
def mi (l:List Cl)(x y:Pr):Bool:=decide (Bb l y.1 x.2≠0)
def j8 (l:List Cl)(m:List Pr):Int:=if (aq l).2≠0 then (aq l).2 else if (List.range m.length).any (ei l m) then 42 else if mr (mi l) m then 43 else 0
def gK (l:List Cl)(T:List Pr)(p:Pr):List Pr:=if j8 l (T++[p])=0 then T++[p] else T
def kB (l:List Cl)(m:List Pr):List Pr:=m.foldl (gK l) []
def eX (l:List Cl):List Pr:=(aW l).flatMap fun c=>(ah l c.id).map fun h=>(c.id,h)
def eF (l:List Cl)(m:List Pr):List Pr:=if (aq l).2=0 then (eX l).foldl (gK l) (kB l m) else []
def dA (r:Bool)(S:Int→List Int)(T:List Pr)(p:Pr):List Pr:=if r && !cq T p.1 && !cq T p.2&&(S p.2).contains p.1 && !(bH p S (aK T) (T.length+1) p []).1 then T++[p] else T
def o6 (r:Bool)(S:Int→List Int)(m:List Pr):List Pr:=m.foldl (dA r S) []
def lL (l:List Cl):List Pr:=(aa l).flatMap fun c=>(ah l c.id).map fun h=>(c.id,h)
def np (r:Bool)(S:Int→List Int)(l:List Cl)(m:List Pr):List Pr:=(lL l).foldl (dA r S) (o6 r S m)
structure Vd (l:List Cl)(T:List Pr):Prop where
 once:(T.map Prod.fst++T.map Prod.snd).Nodup
 side:∀ q∈T,q.1∈kf l q.2
 free:¬ Cyc (pD<|kf l) T
theorem Vd.nil (l:List Cl):Vd l []:=⟨by simp,by simp,fun ⟨L,hL,hs⟩=>by
 obtain ⟨x,hx⟩:=List.exists_mem_of_ne_nil _ hL.1;exact absurd (hs x hx) (by simp)⟩
theorem mZ {T:List Pr}{id:Int}:cq T id=true↔id∈T.map Prod.fst++T.map Prod.snd:=by
 unfold cq;simp only[zj4,zj8,zj5,zf3,zf2]
section
variable {l:List Cl}(hl:(aq l).2=0)
include hl
theorem wn {h:Int}{s:Side}(hs:s∈((findC l h).getD bg).sides):∃ c,findC l h=some c∧c∈aa l∧c.id=h∧(s.sign=1∨s.sign = -1)∧∃ d,findC l s.cell=some d∧d.dim=c.dim - 1:=by
 have hr:=mq hl;have ht:aW l=aa l:=bB hr.asc;cases hc:findC l h with
 | none=>rw[hc] at hs; simp[bg] at hs
 | some c =>
  rw[hc] at hs;have hs:s∈c.sides:=hs;have h1:ao (aW l) h=some c:=hc;rw[ht] at h1;obtain ⟨h2,h3⟩:=eP h1;obtain ⟨d,hd,hdd⟩:=(hr.form c h2).found s hs;refine⟨c,I,h2,h3,(hr.form c h2).sg s hs,d,?_,hdd⟩;show ao (aW l) s.cell=some d;rw[ht];exact hd
theorem qW (low high:Int):Bb l low high≠0↔low∈kf l high:=by
 unfold Bb kf;cases hf:((findC l high).getD bg).sides.find? fun s=>decide (s.cell=low) with
 | none =>
  refine⟨fun h=>absurd I h,fun h=>?_⟩;obtain ⟨s,hs,rfl⟩:=zf2.1 h;have:=List.find?_eq_none.1 hf s hs;simp at this
 | some s =>
  have h1:=zk7 hf;have h2:s.cell=low:=by simpa using List.find?_some hf
  obtain ⟨_,_,_,_,hsg,_⟩:=wn hl h1;refine⟨fun _=>zf2.2 ⟨s,h1,h2⟩,fun _=>?_⟩;show s.sign≠0
  rcases hsg with e | e <;> rw[e] <;> decide
theorem DQ:mi l=pD (kf l):=by
 funext x y;unfold mi pD;rw[Bool.eq_iff_iff,zj6,List.contains_iff_mem];exact qW hl _ _
theorem yR {low high:Int}(h:low∈kf l high):low≠high:=by
 rintro rfl;obtain ⟨s,hs,e⟩:=zf2.1 h;obtain ⟨c,hc,-,-,-,d,hd,hdd⟩:=wn hl hs;rw[e,hc] at hd;injection hd with hd
 subst hd;omega
theorem Vd.bad {T:List Pr}(hT:Vd l T)(p:Pr){k:Nat}(hk:k<T.length):ei l (T++[p]) k=false:=by
 have hg:(T++[p]).getD k (0,0)=T[k]:=by rw[zh1,zh2 hk,gE hk]; rfl
 have htk:(T++[p]).take k=T.take k:=List.take_append_of_le_length oM;have hm:=gM hk;have hs:=hT.side _ hm;have hno:∀ id,(id=T[k].1∨id=T[k].2)→cq (T.take k) id=false:=fun id hid=>by
  rw[Bool.eq_false_iff];intro hu;rw[mZ,zf3,zf2,zf2] at hu;have hnd:=List.nodup_append.1 hT.once;have key:∀ q∈T.take k,∃ j,∃ hj:j<T.length,j<k∧q=T[j]:=fun q hq=>by
   obtain ⟨j,hj,e⟩:=zc7 hq;rw[ze4] at hj;exact⟨j,oM,oM,by rw[← e,List.getElem_take]⟩
  rcases hu with ⟨q,hq,e⟩ | ⟨q,hq,e⟩
  ·obtain ⟨j,hj,hjk,rfl⟩:=key q hq
   rcases hid with rfl | rfl
   ·have:=(List.getElem_inj (xs:=T.map Prod.fst) (i:=j) (j:=k) (h₀:=by simpa using hj) (h₁:=by simpa using hk) hnd.1).1 (by simpa using e);omega
   ·exact hnd.2.2 _ (zf2.2 ⟨T[j],gM hj,I⟩) _ (zf2.2 ⟨T[k],hm,I⟩) e
  ·obtain ⟨j,hj,hjk,rfl⟩:=key q hq
   rcases hid with rfl | rfl
   ·exact hnd.2.2 _ (zf2.2 ⟨T[k],hm,I⟩) _ (zf2.2 ⟨T[j],gM hj,I⟩) e.symm
   ·have:=(List.getElem_inj (xs:=T.map Prod.snd) (i:=j) (j:=k) (h₀:=by simpa using hj) (h₁:=by simpa using hk) hnd.2.1).1 (by simpa using e);omega
 unfold ei;rw[hg,htk,hno _<|.inl rfl,hno _<|.inr rfl,Bool.false_or,Bool.false_or,decide_eq_false_iff_not];exact (qW hl _ _).2 hs
theorem vq {T:List Pr}(hT:Vd l T)(p:Pr):j8 l (T++[p])=if cq T p.1||cq T p.2 || !(kf l p.2).contains p.1 then 42 else if mr (pD<|kf l) (T++[p]) then 43 else 0:=by
 have h1:(List.range (T++[p]).length).any (ei l<|T++[p])=(cq T p.1||cq T p.2 || !(kf l p.2).contains p.1):=by
  have hg:(T++[p]).getD T.length (0,0)=p:=by rw[zh1]; simp
  have htk:(T++[p]).take T.length=T:=by simp
  have hlast:ei l (T++[p]) T.length=(cq T p.1||cq T p.2 || !(kf l p.2).contains p.1):=by
   unfold ei;rw[hg,htk];congr 1;rw[Bool.eq_iff_iff,zj6,Bool.not_eq_true',← zj7,List.contains_iff_mem,← qW hl];exact Decidable.not_not.symm
  have hbefore:(List.range T.length).any (ei l<|T++[p])=false:=zk6.2 fun k hk=>by
   rw[hT.bad hl p<|List.mem_range.1 hk];decide
  rw[ze5,ze7,List.range_succ,List.any_append,hbefore,Bool.false_or];simp[hlast]
 unfold j8;rw[zf9 (by rw[hl]; decide),h1,DQ hl]
theorem Vd.snoc {T:List Pr}(hT:Vd l T){p:Pr}(h1:cq T p.1=false)(h2:cq T p.2=false)(h3:p.1∈kf l p.2)(h4:mr (pD<|kf l) (T++[p])=false):Vd l (T++[p]):=by
 have hne:=yR hl h3;have u1:p.1 ∉ T.map Prod.fst++T.map Prod.snd:=fun h=>by rw[mZ.2 h] at h1; cases h1
 have u2:p.2 ∉ T.map Prod.fst++T.map Prod.snd:=fun h=>by rw[mZ.2 h] at h2; cases h2
 rw[zf3] at u1 u2;have hnd:=List.nodup_append.1 hT.once;have honce:((T++[p]).map Prod.fst++(T++[p]).map Prod.snd).Nodup:=by
  rw[zg5,zg5,List.map_singleton,List.map_singleton,List.nodup_append];refine⟨?_,?_,?_⟩
  ·rw[List.nodup_append];exact⟨hnd.1,by simp,fun a ha b hb=>by
    have hb:b=p.1:=by simpa using hb
    subst hb;exact fun e=>u1 (.inl (e ▸ ha))⟩
  ·rw[List.nodup_append];exact⟨hnd.2.1,by simp,fun a ha b hb=>by
    have hb:b=p.2:=by simpa using hb
    subst hb;exact fun e=>u2 (.inr (e ▸ ha))⟩
  ·intro a ha b hb
   rcases zf3.1 ha with ha | ha
   ·rcases zf3.1 hb with hb | hb
    ·exact hnd.2.2 a ha b hb
    ·have hb:b=p.2:=by simpa using hb
     subst hb;exact fun e=>u2<|.inl<|e ▸ ha
   ·have ha:a=p.1:=by simpa using ha
    subst ha
    rcases zf3.1 hb with hb | hb
    ·exact fun e=>u1<|.inr<|e ▸ hb
    ·have hb:b=p.2:=by simpa using hb
     subst hb;exact hne
 refine⟨honce,fun q hq=>?_,fun h=>?_⟩
 ·rcases zf3.1 hq with hq | hq
  ·exact hT.side q hq
  ·have hq:q=p:=by simpa using hq
   subst hq;exact h3
 ·have hnd2:(T++[p]).Nodup:=(zk5.1 (List.nodup_append.1 honce).1).imp fun h e=>h (by rw[e]);rw[(sO hnd2).2 h] at h4;cases h4
theorem CX {T:List Pr}(hT:Vd l T)(p:Pr):gK l T p=dA true (kf l) T p∧Vd l (gK l T p):=by
 unfold gK dA;rw[vq hl hT p];by_cases hb:(cq T p.1||cq T p.2 || !(kf l p.2).contains p.1)=true
 ·rw[zg1 hb,zf9 dC];refine⟨?_,hT⟩;have:(true && !cq T p.1 && !cq T p.2&&(kf l p.2).contains p.1)=false:=by
   revert hb
   cases cq T p.1 <;> cases cq T p.2 <;> cases (kf l p.2).contains p.1 <;> simp
  rw[this];rfl
 ·have hb':(cq T p.1||cq T p.2 || !(kf l p.2).contains p.1)=false:=by simpa using hb
  rw[Bool.or_eq_false_iff,Bool.or_eq_false_iff] at hb';obtain ⟨⟨h1,h2⟩,h3⟩:=hb';have h3:(kf l p.2).contains p.1=true:=by simpa using h3
  have hp:=List.contains_iff_mem.1 h3;have hne:=yR hl hp;rw[zf9 hb];have u1:p.1 ∉ T.map Prod.fst++T.map Prod.snd:=fun h=>by rw[mZ.2 h] at h1; cases h1
  have hnd:=List.nodup_append.1 hT.once;have hreach:=xy (p:=p) (n:=T.length+1) hT.free (by
   rw[zg5,List.map_singleton,List.nodup_append];exact⟨hnd.1,by simp,fun a ha b hb=>by
    have hb:b=p.1:=by simpa using hb
    subst hb;exact fun e=>u1 (zf3.2 (.inl (e ▸ ha)))⟩) hnd.2.1 (Nat.lt_succ_self _)
  rw[hreach,h1,h2,h3];cases hr:mr (pD<|kf l) (T++[p]) with
  | true=>exact⟨rfl,hT⟩
  | false=>exact⟨rfl,hT.snoc hl h1 h2 hp hr⟩
theorem lc:∀ (m:List Pr) {T:List Pr},Vd l T→m.foldl (gK l) T=m.foldl (dA true<|kf l) T∧Vd l (m.foldl (gK l) T)
 | [],_,h=>⟨rfl,h⟩
 | p::m,T,h=>by
  obtain ⟨h1,h2⟩:=CX hl h p;obtain ⟨h3,h4⟩:=lc m h2;rw[zi7,zi7,← h1];exact⟨h3,h4⟩
theorem BK:lL l=eX l:=by
 unfold lL eX;rw[bB (mq hl).asc]
end
theorem uD {l:List Cl}(h:(aq l).2≠0)(T:List Pr)(p:Pr):gK l T p=T:=by
 unfold gK j8;rw[zg1 h,zf9 h]
theorem vw {l:List Cl}(h:(aq l).2≠0)(m T:List Pr):m.foldl (gK l) T=T:=by
 induction m generalizing T with
 | nil=>rfl
 | cons p m ih=>rw[zi7,uD h,ih]
theorem dx (S:Int→List Int)(m T:List Pr):m.foldl (dA false S) T=T:=by
 induction m generalizing T with
 | nil=>rfl
 | cons p m ih=>rw[zi7]; exact ih T
theorem y4 (l:List Cl)(m:List Pr):o6 (decide ((aq l).2=0)) (kf l) m=kB l m:=by
 unfold o6 kB;by_cases h:(aq l).2=0
 ·rw[zf8 h];exact (lc h m<|Vd.nil l).1.symm
 ·rw[zf7 h,dx,vw h]
theorem AI (l:List Cl)(m:List Pr):np (decide ((aq l).2=0)) (kf l) l m=eF l m:=by
 unfold np eF;by_cases h:(aq l).2=0
 ·have hk:=y4 l m;rw[zf8 h] at hk ⊢;rw[hk,zg1 h,BK h];exact (lc h _ (lc h m<|Vd.nil l).2).1.symm
 ·unfold o6;rw[zf7 h,dx,dx,zf9 h]
theorem wE {α β:Type}{ka:α→Int}{kb:β→Int}{f:α→β}(h:∀ a b,kb (f a)≤kb (f b)↔ka a≤ka b)(x:α):∀ l:List α,ins kb (f x) (l.map f)=(ins ka x l).map f
 | []=>rfl
 | y::r=>by
  simp only[zg4,ins,h];split
  ·rfl
  ·rw[wE h x r]; rfl
theorem ky {α β:Type}{ka:α→Int}{kb:β→Int}{f:α→β}(h:∀ a b,kb (f a)≤kb (f b)↔ka a≤ka b):∀ l:List α,sortBy kb (l.map f)=(sortBy ka l).map f
 | []=>rfl
 | x::r=>by
  simp only[zg4,sortBy];rw[ky h r,wE h]
theorem vJ (l:List Cl):aa (l.map dn)=aa l:=by
 unfold aa;rw[ky (ka:=Cl.id) (kb:=Cl.id) (f:=dn) (fun _ _=>Iff.rfl),zi4];exact zc8 fun c _=>qi c
theorem lr {l F:List Cl}(hF:Rt F)(hp:(l.map dn).Perm F):aa l=F:=by
 rw[← vJ];exact xB hF hp
theorem gX (l:List Cl):(l.map dn).Perm (aa l):=((n9 (key:=Cl.id) l).map dn).symm
def shS (m:Int)(s:Side):Side:=⟨s.cell+m,s.sign⟩
def shC (m:Int)(c:Cl):Cl:=⟨c.id+m,c.dim,c.sides.map<|shS m⟩
theorem BO (m:Int)(c:Cl):dn (shC m c)=shC m (dn c):=by
 unfold dn shC;dsimp only;rw[ky (ka:=Side.cell) (kb:=Side.cell) (f:=shS m) (fun a b=>by unfold shS; dsimp only; omega)]
theorem uq (m:Int)(k:Int):∀ B:List Cl,ao (B.map<|shC m) (k+m)=(ao B k).map (shC m)
 | []=>rfl
 | c::B=>by
  have ih:=uq m k B;unfold ao at ih ⊢;rw[zg4,zi5,zi5,ih];by_cases e:c.id=k
  ·have e2:(shC m c).id=k+m:=by unfold shC; dsimp only; omega
   rw[zf8 e,zf8 e2]; rfl
  ·have e2:¬ (shC m c).id=k+m:=by unfold shC; dsimp only; omega
   rw[zf7 e,zf7 e2]
theorem Bx (m:Int)(B:List Cl)(x:Side):aV (B.map<|shC m) (shS m x)=(aV B x).map (shS m):=by
 unfold aV;rw[show (shS m x).cell=x.cell+m from rfl,uq];cases ao B x.cell <;> rfl
theorem AQ (m:Int)(B:List Cl)(c:Cl):cH (B.map<|shC m) (shC m c)=cH B c:=by
 rw[gt,gt];have h:j5 (B.map<|shC m) (shC m c)=sr (fun k=>k+m) (j5 B c):=by
  unfold j5 sr;rw[show (shC m c).sides=c.sides.map (shS m) from rfl,zi4,zi4];refine zc8 fun x _=>?_;show (x.sign,aV (B.map<|shC m)<|shS m x)=(x.sign,(aV B x).map<|AY fun k=>k+m);rw[Bx];rfl
 rw[h];exact oS fun a _ b _ e=>by omega
theorem BD {B:List Cl}(h:Rt B){m:Int}(hm:0≤m):Rt (B.map<|shC m):=by
 refine⟨by rw[ze6]; exact h.few,?_,fun x hx=>?_,fun x hx=>?_,fun x hx hd=>?_⟩
 ·rw[zk5];exact h.asc.imp fun h=>by unfold shC; dsimp only; omega
 ·obtain ⟨c,hc,rfl⟩:=zf2.1 hx;have:=h.pos c hc;unfold shC;dsimp only;omega
 ·obtain ⟨c,hc,rfl⟩:=zf2.1 hx;have hf:=h.form c hc;refine⟨hf.dim,?_,fun x hx=>?_,?_,fun x hx=>?_,fun h1=>?_⟩
  ·have:=hf.cnt;unfold aY at this ⊢;unfold shC;simpa using this
  ·obtain ⟨s,hs,rfl⟩:=zf2.1 hx;obtain ⟨d,hd,hdd⟩:=hf.found s hs;refine⟨shC m d,?_,hdd⟩;show ao (B.map<|shC m) (s.cell+m)=_;rw[uq,hd];rfl
  ·show (c.sides.map<|shS m).Pairwise _;rw[zk5];exact hf.asc.imp fun h=>by unfold shS; dsimp only; omega
  ·obtain ⟨s,hs,rfl⟩:=zf2.1 hx;exact hf.sg s hs
  ·have:=hf.one h1;unfold kW at this ⊢;show ((c.sides.map<|shS m).map Side.sign).sum=0;rw[zi4];exact this
 ·obtain ⟨c,hc,rfl⟩:=zf2.1 hx;rw[AQ];exact h.around c hc hd
theorem oz (A B:List Cl)(k:Int):ao (A++B) k=(ao A k).or (ao B k):=by
 unfold ao;exact List.find?_append
theorem vO {A B:List Cl}{c:Cl}(h:∀ x∈c.sides,aV A x=aV B x):cH A c=cH B c:=by
 rw[gt,gt];unfold j5;rw[zc8 fun x hx=>by rw[h x hx]]
theorem zS {A B:List Cl}(hA:Rt A)(hB:Rt B)(hlt:∀ a∈A,∀ b∈B,a.id<b.id)(hf:A.length+B.length≤4000):Rt (A++B):=by
 have fa:∀ k d,ao A k=some d→ao (A++B) k=some d:=fun k d hd=>by rw[oz,hd]; rfl
 have fb:∀ k d,ao B k=some d→ao (A++B) k=some d:=fun k d hd=>by
  rw[oz];cases ha:ao A k with
  | none=>exact hd
  | some a =>
   obtain ⟨h1,h2⟩:=eP ha;obtain ⟨h3,h4⟩:=eP hd;have:=hlt a h1 d h3;omega
 have form:∀ C:List Cl,Rt C→(∀ k d,ao C k=some d→ao (A++B) k=some d)→∀ x∈C,Fm (A++B) x∧(x.dim>1→cH (A++B) x=0):=fun C hC hfd x hx=>by
  have hfm:=hC.form x hx;refine⟨⟨hfm.dim,hfm.cnt,fun s hs=>?_,hfm.asc,hfm.sg,hfm.one⟩,fun hd=>?_⟩
  ·obtain ⟨d,hd,hdd⟩:=hfm.found s hs;exact⟨d,hfd _ _ hd,hdd⟩
  ·rw[← hC.around x hx hd];refine vO fun s hs=>?_;obtain ⟨d,hd,-⟩:=hfm.found s hs;unfold aV;rw[hd,hfd _ _ hd]
 refine⟨by rw[ze5]; exact hf,List.pairwise_append.2 ⟨hA.asc,hB.asc,hlt⟩,fun x hx=>?_,fun x hx=>?_,fun x hx=>?_⟩
 ·rcases zf3.1 hx with h | h
  ·exact hA.pos x h
  ·exact hB.pos x h
 ·rcases zf3.1 hx with h | h
  ·exact (form A hA fa x h).1
  ·exact (form B hB fb x h).1
 ·rcases zf3.1 hx with h | h
  ·exact (form A hA fa x h).2
  ·exact (form B hB fb x h).2
def j9 (m:Int)(a b:List Cl):List Cl:=a++b.map (shC m)
theorem ug {m:Int}{a b:List Cl}(ha:Rt (aa a))(hb:Rt (aa b))(hm:0≤m)(hmx:∀ c∈a,c.id≤m)(hf:a.length+b.length≤4000):Rt (aa<|j9 m a b):=by
 have hF:Rt (aa a++(aa b).map (shC m)):=by
  refine zS ha (BD hb hm) (fun x hx y hy=>?_) (by rw[ze6,aN,aN]; exact hf);obtain ⟨d,hd,rfl⟩:=zf2.1 hy;have h1:=hb.pos d hd;obtain ⟨e,he,rfl⟩:=zf2.1<|(gX a).mem_iff.2 hx;have h2:=hmx e he;show e.id<d.id+m;omega
 rw[lr hF ?_]
 ·exact hF
 ·unfold j9;rw[zg5,zi4,show dn ∘ shC m=shC m ∘ dn from funext fun c=>BO m c,← zi4];exact (gX a).append<|(gX b).map _
theorem Bo {l:List Cl}{t:Int}(h:t∈cJ l):∀ c∈aW l,∀ x∈c.sides,x.cell≠t:=fun c hc x hx e=>by
 unfold cJ at h;obtain ⟨d,hd,rfl⟩:=zf2.1 h;have:=(zh4.1 hd).2;rw[Bool.not_eq_true',← zj7] at this;refine this ?_;unfold jk;rw[zj8];refine⟨c,hc,?_⟩;unfold lH;rw[zj8];exact⟨x,hx,by simpa using e⟩
theorem xP {l:List Cl}(hr:Rt (aa l)){t:Int}(h:t∈cJ l):Rt (aa<|l.filter fun c=>decide (c.id≠t)):=by
 have ht:aW l=aa l:=bB hr.asc;have hp:zq (aa l) fun k=>decide (k≠t):=fun c hc _ x hx=>by
  have:=Bo h c (by rw[ht]; exact hc) x hx;simpa using this
 have hF:=xC hr hp;rw[lr hF ?_]
 ·exact hF
 ·unfold part;have h1:(l.filter fun c=>decide (c.id≠t)).map dn=(l.map dn).filter fun c=>decide (c.id≠t):=by
   rw[List.filter_map];rfl
  rw[h1];exact (gX l).filter _
theorem yZ:∀ {A:List Cl},A≠[]→∃ c∈A,∀ d∈A,d.dim≤c.dim
 | [],h=>absurd rfl h
 | [a],_=>⟨a,by simp,fun d hd=>by simp at hd; subst hd; omega⟩
 | a::b::r,_=>by
  obtain ⟨c,hc,hm⟩:=yZ (A:=b::r) (by simp);by_cases h:a.dim≤c.dim
  ·exact⟨c,List.mem_cons_of_mem _ hc,fun d hd=>by
    rcases zf1.1 hd with rfl | hd
    ·exact h
    ·exact hm d hd⟩
  ·exact⟨a,by simp,fun d hd=>by
    rcases zf1.1 hd with rfl | hd
    ·omega
    ·have:=hm d hd; omega⟩
theorem sC {l:List Cl}(hr:Rt (aa l))(h:l≠[]):cJ l≠[]:=by
 have ht:aW l=aa l:=bB hr.asc;have hne:aa l≠[]:=fun e=>h<|zf4 (by rw[← aN,e]; rfl);obtain ⟨c,hc,hm⟩:=yZ hne;intro e;have hin:c.id∈cJ l:=by
  unfold cJ;rw[ht];refine zf2.2 ⟨c,zh4.2 ⟨hc,?_⟩,I⟩;rw[Bool.not_eq_true',← zj7];intro hs;unfold jk at hs;obtain ⟨d,hd,hx⟩:=zj8.1 hs;unfold lH at hx;obtain ⟨x,hx,e⟩:=zj8.1 hx;have e:x.cell=c.id:=by simpa using e
  obtain ⟨f,hf,hfd⟩:=(hr.form d hd).found x hx;rw[e,hr.find hc] at hf;injection hf with hf
  subst hf;have:=hm d hd;omega
 rw[e] at hin;simp at hin
def jm (s:Int):Side:=if s<0 then ⟨-s,-1⟩ else ⟨s,1⟩
def A8 (id dim:Int)(r:List Int):Cl:=⟨id,dim,r.map jm⟩
def jn:Int→List (List Int)→List Cl
 | _,[]=>[]
 | n,r::t=>A8 n (r.headD 0) r.tail::jn (n+1) t
def mX (n:Int):List Int:=if n % 2=0 then [n,2 * n - 1,-(2 * n)] else [n,-(2 * n - 1),2 * n]
def oY:Nat→List (List Int)
 | 0=>[[0],[0]]
 | n+1=>oY n++[mX<|n+1,mX<|n+1]
def Ei (n:Nat):List (List Int):=(List.range<|3 * n).map fun k:Nat=>[1,-1,((2+k % 3:Nat):Int)]
def Eh (n:Nat):List (List Int):=(List.range<|3 * n).map fun k:Nat=>[2,((8+k:Nat):Int),((5+k % 3:Nat):Int),-((8+(k+1) % (3 * n):Nat):Int)]
def lQ (n:Nat):List (List Int):=[[0],[0],[0],[0],[1,-2,3],[1,-3,4],[1,-4,2]]++Ei n++Eh n
def spcL:Nat→List (List Int)
 | 0=>[[0]]
 | 1=>oY 1
 | 2=>oY 2
 | 3=>oY 3
 | 4=>oY 0
 | 5=>[[0],[0],[0],[1,-1,2],[1,-1,2],[1,-2,3],[1,-2,3],[1,-1,3],[1,-1,3],[2,4,6,-8],[2,4,7,-9],[2,5,6,-9],[2,5,7,-8]]
 | 6=>lQ 3
 | 7=>[[0],[0],[0],[0],[1,-1,2],[1,-1,2],[1,-3,4],[1,-3,4],[1,-1,3],[1,-2,4],[1,-3,1],[1,-4,2],[2,5,10,-7,-9],[2,6,10,-8,-9],[2,7,12,-6,-11],[2,8,12,-5,-11]]
 | 8=>[[0],[0],[0],[0],[1,-1,2],[1,-1,2],[1,-3,4],[1,-3,4],[1,-1,3],[1,-2,4],[1,-3,1],[1,-4,2],[2,5,10,-7,-9],[2,6,10,-8,-9],[2,7,12,-5,-11],[2,8,12,-6,-11]]
 | _=>lQ 4
def kq (n:Nat):List Cl:=jn 1 (spcL n)
theorem fm:∀ n,n<10→(aq<|kq n).2=0∧(kq n).length≤31∧∀ c∈kq n,0<c.id∧c.id≤31∧c.sides.length≤4:=by decide +kernel
theorem n4 {n:Nat}(h:n<10):Rt (aa<|kq n):=mq (fm n h).1
def nb (c:List Cl)(q:Nat):List Cl:=c.filter fun x=>decide (x.id≠(cJ c).getD (q % (cJ c).length) 0)
def dq (G:List Nat)(c:List Cl):Nat→List Cl
 | 0=>c
 | k+1=>if (dq G c k).length>1 then nb (dq G c k) (G.getD k 0) else dq G c k
def rI (c:List Cl):Int:=c.foldl (fun m x=>max m x.id) 0
def il (n:Int):List Int:=(((List.range 6).filter fun v:Nat=>decide (n / 2 ^ v % 2=1)).take 4).map fun v:Nat=>(v:Int)
def D2 (L:List Int):List Cl:=fZ ((L.take 5).map il)
def fM (sp:Nat)(L:List Int):List Cl:=if sp % 26≥10 then D2 L else kq (sp % 10)
def fh (sp:Nat)(L:List Int)(G:List Nat)(bs:Nat):List Cl :=
 if bs % 4=3∧(dq G (fM sp L)<|min 6 G.length).length<26 then j9 (rI<|dq G (fM sp L)<|min 6 G.length) (dq G (fM sp L)<|min 6 G.length) (kq<|bs / 4 % 5) else dq G (fM sp L) (min 6 G.length)
structure Gd8 (l:List Cl):Prop where
 right:Rt (aa l)
 ids:∀ c∈l,0<c.id∧c.id≤4000
theorem Gd8.few {l:List Cl}(h:Gd8 l):l.length≤4000:=by
 have:=h.right.few;rwa [aN] at this
theorem qy (sp:Nat)(L:List Int):Gd8 (fM sp L):=by
 unfold fM;split
 ·unfold D2;obtain ⟨h1,h2⟩:=Dh<|(L.take 5).map il;have hc:Rt (aa<|fZ<|(L.take 5).map il):=by rw[h1.canon]; exact h1
  exact⟨hc,fun c hc=>⟨h1.pos c hc,by have:=h2 c hc; have:=h1.few; omega⟩⟩
 ·have:=fm (sp % 10)<|Nat.mod_lt _ dC;exact⟨n4<|Nat.mod_lt _ dC,fun c hc=>by have:=this.2.2 c hc; omega⟩
theorem Ax {c:List Cl}(h:Gd8 c)(hl:c.length>1)(q:Nat):Gd8 (nb c q):=by
 have hne:c≠[]:=fun e=>by subst e; simp at hl
 have ht:=sC h.right hne;have hlt:q % (cJ c).length<(cJ c).length:=Nat.mod_lt _<|List.length_pos_iff.2 ht;have hm:(cJ c).getD (q % (cJ c).length) 0∈cJ c:=by
  rw[zh1,gE hlt];exact gM hlt
 exact⟨xP h.right hm,fun d hd=>h.ids d (zh4.1 hd).1⟩
theorem kC {c:List Cl}(h:Gd8 c)(G:List Nat):∀ k,Gd8 (dq G c k)
 | 0=>h
 | k+1=>by
  have ih:=kC h G k;rw[dq];split
  ·rename_i hl;exact Ax ih hl _
  ·exact ih
theorem oy {c:List Cl}{G:List Nat}{k:Nat}(h:¬ (dq G c k).length>1):∀ {n:Nat},k≤n→dq G c n=dq G c k
 | 0,hn=>by rw[show k=0 by omega]
 | n+1,hn=>by
  by_cases e:k=n+1
  ·rw[e]
  ·have ih:=oy h (n:=n) oM;rw[dq,ih,zf9 h]
theorem wC (c:List Cl):∀ m:Int,m≤c.foldl (fun m x=>max m x.id) m∧∀ x∈c,x.id≤c.foldl (fun m x=>max m x.id) m:=by
 induction c with
 | nil=>exact fun m=>⟨Int.le_refl _,by simp⟩
 | cons a c ih =>
  intro m;obtain ⟨h1,h2⟩:=ih<|max m a.id;rw[zi7];refine⟨oM,fun x hx=>?_⟩
  rcases zf1.1 hx with rfl | hx
  ·omega
  ·exact h2 x hx
theorem wB {c:List Cl}{K:Int}(h:∀ x∈c,x.id≤K):∀ m:Int,m≤K→c.foldl (fun m x=>max m x.id) m≤K:=by
 induction c with
 | nil=>exact fun m hm=>hm
 | cons a c ih =>
  intro m hm;rw[zi7];exact ih (fun x hx=>h x<|by simp[hx]) _ (by have:=h a (by simp); omega)
theorem mO (sp:Nat)(L:List Int)(G:List Nat)(bs:Nat):Rt (aa<|fh sp L G bs)∧∀ c∈fh sp L G bs,0<c.id∧c.id≤8000:=by
 have h:=kC (qy sp L) G<|min 6 G.length;unfold fh;generalize dq G (fM sp L) (min 6 G.length)=c at *;split
 ·rename_i hl;have hs:=fm (bs / 4 % 5) oM;have hm:=wC c 0;have hM:=wB (K:=4000) (fun x hx=>(h.ids x hx).2) 0 dC;refine⟨ug h.right (n4 oM) hm.1 hm.2 oM,fun x hx=>?_⟩;unfold j9 at hx
  rcases zf3.1 hx with hx | hx
  ·have:=h.ids x hx; omega
  ·obtain ⟨d,hd,rfl⟩:=zf2.1 hx;have:=hs.2.2 d hd;have h1:=hm.1;unfold rI shC;dsimp only;omega
 ·exact⟨h.right,fun x hx=>by have:=h.ids x hx; omega⟩
set_option maxRecDepth 100000
set_option maxHeartbeats 1000000
def ax:Enc Pr 2:=⟨fun p=>[vi p.1,vi p.2],fun _=>rfl,fun _ u hu=>by simp at hu; rcases hu with rfl | rfl <;> rfl,by decide⟩
theorem SU.indexAddrC {P:Program}{N:Nat}{f:Fr}{dst:Option Tmp}{ty:TypeId}{pos:String}{af:Array Edge}{gd:Option (Nat×Bool)}{x y:Operand}{T e:TypeId}{k n o:Nat}{i:Int}{v:Value}(hT:P.underlying T=some (.array n e))(hs:∀ w,(sizeOf e).run P w = .ok k w)
  (hx:ev f x=some (mU v o)) (hb:based v=true) (hy:ev f y=some (vi i)) (h0:0≤i) (h1:i<n) :
  SU P N ⟨dst,.indexAddr T x y,ty,pos,af,gd⟩ f (mU v<|o+i.toNat * k):=by
 cases v <;> simp[based] at hb
 rename_i p m c;cases p <;> simp at hb
 simp only[mU] at hx ⊢;have:=iB (P:=P) (N:=N) (dst:=dst) (ty:=ty) (pos:=pos) (af:=af) (gd:=gd) hT hs hx hy h0 h1;rwa [Nat.add_assoc] at this
theorem Tryz.sty31:STy Tryz.prog 31 44 2 16 (.agg #[vi 0,vi 0]):=⟨underlying31,⟨t44,by kernel_rfl,by kernel_rfl,by kernel_rfl,by kernel_rfl⟩,rfl,by decide⟩
def at2 (p:Pr)(k:Nat):Int:=if k=0 then p.1 else p.2
theorem jM (E:World)(g:PH)(s:Own)(v:Value)(m:List Pr)(k:Nat)(id:Int)(hv:SlA ax g v m)(hl:m.length<1099511627776)(hk:k<2) :
  Ctr Tryz.prog E 134 #[v,vi k,vi id] g s (fun r g' s'=>(∃ n:Int,r=vi n∧decide (n≥0)=m.any (fun q=>decide (at2 q k=id)))∧g=g'∧s=s'):=by
 obtain ⟨p,c,rfl⟩:=za3 hv;refine zb1 (args:=[.slice p m.length c,vi k,vi id]) func134 I ntmps134 (bE I)<|rZ<|aT I<|sQ<|rZ<|aT I<|bK<|SC.loop (ι:=Nat) (fun i=>[(0,.slice p m.length c),(1,vi k),(2,vi id),(7,vi i)]) (fun _=>g) (fun _=>s) (fun i=>i≤m.length∧(m.take i).any (fun q=>decide (at2 q k=id))=false) (fun i=>m.length - i) 0 sB I I ⟨zf6 _,by simp⟩ ?_;rintro i ⟨hi,hno⟩;refine sQ<|sW I<|lM I<|lU (eN cC I)<|yL I<|tZ ?_;refine iP I (fun hlt=>?_) (fun hlt=>?_)
 ·have hil:i<m.length:=oM;have hb1:=za5 hv oM;have hgx:m[((i:Nat):Int).toNat]?=some m[i]:=gE hil;have hu:(ax.enc m[i])[((k:Nat):Int).toNat * 1]?=some (vi<|at2 m[i] k):=by
   rcases (by omega:k=0∨k=1) with rfl | rfl <;> rfl
  have hmi:=gM hil;refine kP<|tN<|sQ<|bK<|sW I<|lM I<|lM I<|lU (iA cC bM I I hb1 oM sL)<|lU (SU.indexAddrC cN zT3 I hb1 I oM oM)<|lK (aZ (e:=ax) (u:=vi<|at2 m[i] k) iT3 I (za6 hv) hgx hu)<|lM I<|yE I<|tZ<|iP I (fun he=>?_) (fun he=>?_)
  ·refine sW I<|aT I<|rE<|bR<|tR<|tR<|bR<|tR ?_;have hany:m.any (fun q=>decide (at2 q k=id))=true:=zj8.2 ⟨m[i],hmi,by simpa using he⟩;exact za7 (.inl I) results134 I ⟨⟨i,I,by rw[hany]; simp⟩,I,I⟩
  ·exact kP<|bN<|tN<|rG<|lM I<|yD I<|lA I<|nL<|ST.again (i+1) sB I I ⟨oM,by rw[tS hil,List.any_append,hno]; simpa using he⟩ oM
 ·refine xI<|tX<|tX<|bX<|tN<|rZ<|aT I<|rE ?_;have hkk:m.take i=m:=tL oM;rw[hkk] at hno;exact za7 (.inl I) results134 I ⟨⟨-1,I,by rw[hno]; rfl⟩,rfl,rfl⟩
theorem oh (E:World)(g:PH)(s:Own)(v:Value)(m:List Pr)(id:Int)(hv:SlA ax g v m)(hl:m.length<1099511627776) :
  Ctr Tryz.prog E 100 #[v,vi id] g s (fun r g' s'=>r=vb (cq m id)∧g=g'∧s=s'):=by
 have hu:cq m id=((m.any fun q=>decide (at2 q 0=id))||(m.any fun q=>decide (at2 q 1=id))):=rfl;rw[hu]
 rcases Bool.eq_false_or_eq_true (m.any fun q=>decide (at2 q 0=id)) with h1 | h1
 ·rw[h1];refine zb1 (args:=[v,vi id]) func100 I ntmps100 (bE I)<|rZ<|aT I<|sW I<|lM I<|lW (SO.call call134 I<|jM E g _ v m 0 id hv hl dC) ?_;rintro _ _ _ ⟨⟨n,rfl,hn⟩,rfl,rfl⟩;exact lU (SU.eq (v':=vb true) (gQ I I)<|ze2 vb<|hn.trans h1)<|lM I<|yA I<|yA I<|yA I<|yA I<|yP I<|aT I<|rE<|za7 (.inl I) results100 I ⟨I,I,I⟩
 ·rw[h1];refine zb1 (args:=[v,vi id]) func100 I ntmps100 (bE I)<|rZ<|aT I<|sW I<|lM I<|lW (SO.call call134 I<|jM E g _ v m 0 id hv hl dC) ?_;rintro _ _ _ ⟨⟨n,rfl,hn⟩,rfl,rfl⟩;refine lU (SU.eq (v':=vb false) (gQ I I)<|ze2 vb<|hn.trans h1)<|lM I<|yC I<|yC I<|ze1 (gT I I I dC) (SO.call call134 I<|jM E g _ v m 1 id hv hl dC) dC ?_;rintro _ _ _ ⟨⟨n2,rfl,hn2⟩,rfl,rfl⟩;exact lY I I I (SU.eq (v':=vb<|m.any fun q=>decide (at2 q 1=id)) (gQ I I)<|ze2 vb hn2)<|yF I<|aT I<|rE<|za7 (.inl I) results100 I ⟨I,I,I⟩
theorem y9 {α:Type}{p:α→Bool}{l:List α}{i:Nat}(hi:i<l.length)(h0:(l.take i).any p=false)(h1:p l[i]=true):l.find? p=some l[i]:=by
 have e:l=l.take i++l[i]::l.drop (i+1):=by rw[List.getElem_cons_drop,zj2]
 have h2:(l.take i).find? p=none:=List.find?_eq_none.2 fun x hx=>by
  have:=zk6.1 h0 x hx;simpa using this
 generalize l[i]=a at *;rw[e,List.find?_append,h2,zi5,h1];rfl
theorem AH {α:Type}{p:α→Bool}{l:List α}(h0:l.any p=false):l.find? p=none:=List.find?_eq_none.2 fun x hx=>by
 have:=zk6.1 h0 x hx;simpa using this
theorem pX (E:World)(g:PH)(s:Own)(v:Value)(l:List Cl)(low high:Int)(hv:ak g v l)(hf:a8 l) :
  Ctr Tryz.prog E 101 #[.agg #[v],vi low,vi high] g s (fun r g' s'=>r=vi (Bb l low high)∧s=s'∧Le g g'):=by
 have hft:=bL hf;have hsl:((findC l high).getD bg).sides.length<1099511627776:=by
  cases hc:findC l high with
  | none=>simp[bg]
  | some c=>exact hft.2 c<|zk7 hc
 have hok:((findC l high).getD bg).sides.length>0→(findC l high).isSome=true:=fun h=>by
  cases hc:findC l high with
  | none=>rw[hc] at h; simp[bg] at h
  | some c=>rfl
 refine zb1 (args:=[.agg #[v],vi low,vi high]) func101 I ntmps101 (bE I)<|rZ (bW (bO I) fun b3=>?_);refine aT I<|rZ<|lK (qV 0 ar ag I I I)<|lM I<|lW (SO.call call68 I<|aR E g _ v l high hv hf) ?_;rintro _ g1 _ ⟨rfl,hle,x,rfl,hx⟩;obtain ⟨xi,xd,xp,xn,xc⟩:=x;have hx3:=hx.2.2;dsimp only at hx3;have hxn:xn=((findC l high).getD bg).sides.length:=zc1 hx3;subst hxn;clear hx;refine lM I (yX I<|yX I<|bW (aL zl3) fun b7=>?_);refine oZ (sK 0 au I I I I I sB)<|aT I<|sQ<|rZ<|aT I<|bK ?_;have hsg:Bb l low high=(((findC l high).getD bg).sides.find? fun s=>decide (s.cell=low)).elim 0 Side.sign:=rfl;rw[hsg];generalize ((findC l high).getD bg).sides=S at *;generalize (findC l high).isSome=ok at *;refine SC.loop (ι:=Nat) (fun i=>[(1,vi low),(7,pp b7 0),(8,vb ok),(9,vi i)]) (fun _=>g1) (fun _=>pt b7 (.cells #[vi xi,vi xd,.slice xp S.length xc] 54 (0,0))::pt b3 (.cells #[v] 29 (0,0))::s) (fun i=>i≤S.length∧(S.take i).any (fun q=>decide (q.cell=low))=false) (fun i=>S.length - i) 0 sB I I ⟨zf6 _,by simp⟩ ?_;rintro i ⟨hi,hno⟩;have f1:(i:Int)<(S.length:Int)→ok=true:=fun h=>hok oM;refine sQ ?_;refine SC.cutB 23 (decide ((i:Int)<(S.length:Int))) ?_ ?_
 ·refine rG<|lM I<|lU (fA aw I aO I)<|lK (qL (v:=.slice xp S.length xc) bh I<|cO 0 I I)<|lU (eN aI I)<|yL I<|lM I<|sP ?_ ?_
  ·intro h21;exact yC I<|yP I<|nL<|za9 (by (have h5:=f1 (by assumption); subst h5; simp_all[a7]; done)) mI
  ·intro h21;exact yA I<|yF I<|nL<|za9 (by (simp_all[a7]; done)) mI
 refine iP I (fun hlt=>?_) (fun hlt=>?_)
 ·have hil:i<S.length:=oM;have hb1:=za5 hx3 oM;have hgx:S[((i:Nat):Int).toNat]?=some S[i]:=gE hil;refine kP<|tN<|sQ<|bK<|rZ<|lU (fA aw I aO I)<|lK (qL (v:=.slice xp S.length xc) bh I<|cO 0 I I)<|lM I<|lU (iA aI aB I I hb1 oM sL)<|lU (fC co I zT3 I hb1)<|lK (aZ (e:=encSide) (o:=0) (u:=vi S[i].cell) iT3 I (za6 hx3) hgx I)<|lM I<|yE I<|tZ<|iP I (fun he=>?_) (fun he=>?_)
  ·exact rZ<|lU (fA aw I aO I)<|lK (qL (v:=.slice xp S.length xc) bh I<|cO 0 I I)<|lM I<|lU (iA aI aB I I hb1 oM sL)<|lU (fC co I zT3 I hb1)<|lK (aZ (e:=encSide) (o:=1) (u:=vi S[i].sign) iT3 I (za6 hx3) hgx I)<|aT I<|rE<|bR<|tR<|tR<|bR<|tR<|dR (s':=s) uR<|za7 (.inl I) results101 I ⟨by rw[y9 hil hno (by simpa using he)]; rfl,rfl,hle⟩
  ·exact kP<|bN<|tN<|rG<|lM I<|yD I<|lA I<|nL<|ST.again (i+1) sB I I ⟨oM,by rw[tS hil,List.any_append,hno]; simpa using he⟩ oM
 ·refine xI<|tX<|tX<|bX<|tN<|rZ<|aT I<|rE ?_;have hkk:S.take i=S:=tL oM;rw[hkk] at hno;exact dR (s':=s) uR<|za7 (.inl I) results101 I ⟨by rw[AH hno]; rfl,rfl,hle⟩
theorem Ab {adj:Pr→Pr→Bool}{l:List Pr}{k:Nat}(h:eZ adj l=some k):uj adj l.length l=uj adj (l.eraseIdx k).length (l.eraseIdx k):=by
 obtain ⟨hk,-⟩:=kF h;have hl:l.length=(l.eraseIdx k).length+1:=by rw[List.length_eraseIdx_of_lt hk]; omega
 rw[hl,jC,h]
theorem BJ {adj:Pr→Pr→Bool}{l:List Pr}(h:eZ adj l=none):uj adj l.length l=l:=by
 cases hl:l.length with
 | zero=>rfl
 | succ n=>rw[jC,h]
theorem xR {adj:Pr→Pr→Bool}{l:List Pr}{k:Nat}(hk:k<l.length)(h0:∀ j<k,jQ adj l j=true)(h1:jQ adj l k=false):eZ adj l=some k:=by
 unfold eZ;have hk':k<(List.range l.length).length:=by simpa using hk
 rw[y9 hk' ?_ ?_]
 ·simp
 ·rw[List.take_range,Nat.min_eq_left oM,zk6];intro x hx;rw[h0 x<|List.mem_range.1 hx];decide
 ·simp[h1]
theorem Ca {adj:Pr→Pr→Bool}{l:List Pr}(h0:∀ j<l.length,jQ adj l j=true):eZ adj l=none:=by
 unfold eZ;refine List.find?_eq_none.2 fun x hx=>?_;rw[h0 x<|List.mem_range.1 hx];decide
theorem vE {α:Type}(l:List α)(k:Nat):l.eraseIdx k=l.take k++l.drop (k+1):=List.eraseIdx_eq_take_drop_succ l k
theorem xu (E:World)(g:PH)(s:Own)(v u:Value)(l:List Cl)(m:List Pr)(hv:ak g v l)(hf:a8 l)(hu:SlA ax g u m)(hl:m.length<1099511627776) :
  Ctr Tryz.prog E 102 #[.agg #[v],u] g s (fun r g' s'=>r=vb (mr (mi l) m)∧s=s'∧Le g g'):=by
 obtain ⟨p,c,rfl⟩:=za3 hu;refine zb1 (args:=[.agg #[v],.slice p m.length c]) func102 I ntmps102 (bE I)<|rZ (bW (bO I) fun b2=>?_);refine aT I<|rZ<|lW (bS sty31 I I I (ab trivial) dC) ?_;rintro _ _ _ ⟨b10,rfl,rfl,rfl⟩;refine SL.emptyRow 44 2 (some ⟨b10,0,none⟩)<|lM I<|lW (aQ (e:=ax) (l:=[]) 0 sty31 I I I hu (by simp; omega) (by simp; omega)) ?_;rintro v12 _ _ ⟨rfl,rfl⟩;refine fR fun g1 hle1 hs1=>?_;refine aT I<|sQ<|rZ<|aT I<|bK ?_;have hs1:SlA ax g1 v12 m:=hs1;have hv1:=hv.mono hle1;refine SC.drop (s':=pt b2 (.cells #[v] 29 (0,0))::s) (.cons _<|.refl _)<|SC.loop (ι:=Value×List Pr×PH×Bool) (fun q=>[(2,pp b2 0),(5,q.1),(6,vb q.2.2.2)]) (fun q=>q.2.2.1) (fun _=>pt b2 (.cells #[v] 29 (0,0))::s) (fun q=>Le g1 q.2.2.1∧SlA ax q.2.2.1 q.1 q.2.1∧q.2.1.length≤m.length∧uj (mi l) q.2.1.length q.2.1=uj (mi l) m.length m∧(q.2.2.2=false→eZ (mi l) q.2.1=none)) (fun q=>2 * q.2.1.length+if q.2.2.2 then 1 else 0) (v12,m,g1,true)
  sB rfl rfl ⟨zb8 _,hs1,lR _,rfl,fun h=>by cases h⟩ ?_
 rintro ⟨lv,L,g2,again⟩ ⟨hle2,hL,hLl,hpe,hfr⟩;dsimp only at hle2 hL hLl hpe hfr ⊢;obtain ⟨q,d,rfl⟩:=za3 hL;refine sQ<|sW I<|tZ<|iQ I (fun hag=>?_) (fun hag=>?_)
 ·subst hag;refine kP<|tN<|bK<|rZ<|aT I<|rZ<|aT I<|bK<|SC.loop (ι:=Nat×PH) (fun i=>[(2,pp b2 0),(5,.slice q L.length d),(6,vb false),(7,vi i.1)]) (fun i=>i.2) (fun _=>pt b2 (.cells #[v] 29 (0,0))::s) (fun i=>i.1≤L.length∧Le g2 i.2∧∀ j<i.1,jQ (mi l) L j=true) (fun i=>L.length - i.1) (0,g2)
   sB rfl rfl ⟨zf6 _,zb8 _,fun j hj=>absurd hj<|Nat.not_lt_zero _⟩ ?_
  rintro ⟨k,g3⟩ ⟨hk,hle3,hld⟩;dsimp only at hk hle3 hld ⊢;refine sQ<|sW I<|lM I<|lU (eN cC I)<|yL I<|tZ<|iP I (fun hkl=>?_) (fun hkl=>?_)
  ·have hkl:k<L.length:=oM;refine kP<|tN<|sQ<|bK<|rZ<|aT I<|sQ<|rZ<|aT I<|bK<|SC.loop (ι:=Nat×PH) (fun i=>[(2,pp b2 0),(5,.slice q L.length d),(6,vb false),(7,vi k),(8,vb<|(List.range i.1).any fun j=>decide (j≠k)&&mi l (L.getD k (0,0)) (L.getD j (0,0))),(9,vi i.1)]) (fun i=>i.2) (fun _=>pt b2 (.cells #[v] 29 (0,0))::s) (fun i=>i.1≤L.length∧Le g3 i.2) (fun i=>L.length - i.1) (0,g3)
    sB rfl rfl ⟨zf6 _,zb8 _⟩ ?_
   rintro ⟨j,g4⟩ ⟨hj,hle4⟩;dsimp only at hj hle4 ⊢;have h24:=hle3.trans hle4;have hv4:=hv1.mono<|hle2.trans h24;have hL4:=za4 hL h24;refine sQ<|sW I<|lM I<|lU (eN cC I)<|yL I<|tZ<|iP I (fun hjl=>?_) (fun hjl=>?_)
   ·have hjl:j<L.length:=oM;have hb1:=za5 hL oM;have hgj:L[((j:Nat):Int).toNat]?=some L[j]:=gE hjl;have hgk:L[((k:Nat):Int).toNat]?=some L[k]:=gE hkl;have hdj:L.getD j (0,0)=L[j]:=by rw[zh1,gE hjl]; rfl
    have hdk:L.getD k (0,0)=L[k]:=by rw[zh1,gE hkl]; rfl
    have hnx:((List.range<|j+1).any fun j=>decide (j≠k)&&mi l (L.getD k (0,0)) (L.getD j (0,0)))=(((List.range j).any fun j=>decide (j≠k)&&mi l (L.getD k (0,0)) (L.getD j (0,0)))||(decide (j≠k)&&mi l L[k] L[j])):=by
     rw[List.range_succ,List.any_append];simp only[List.any_cons,List.any_nil,Bool.or_false,hdj,hdk]
    by_cases hjk:j=k
    ·refine kP<|tN<|sQ<|bK<|sQ<|dW [] [(0,2),(1,2),(2,2),(3,2),(4,1),(5,2),(6,2),(7,2),(8,2),(9,1),(10,2),(11,2),(12,2),(13,2),(14,1),(15,0),(16,2),(17,2)] ze3 kR<|yM I<|yM I<|pU I (SU.eq (v':=vb false) (nQ I I)<|ze2 vb<|zf7 oM)<|yM I<|yI I<|yG I<|yG I<|yG I<|yG I<|yI I<|yG I<|yG I<|yG I<|yG I<|yI I<|fO I (gZ I I I dC) dC ⟨by exact zb8 _,(by exact .refl _)⟩ ?_;refine yG I<|pU I (wF I I)<|pN<|tN<|cF I<|kP<|bN<|tN<|rG<|lM I<|yD I<|lA I<|nL ?_;exact ST.again (j+1,g4) ⟨I,I,I,I,by rw[hnx,zf7 (p:=j≠k) (fun h=>h hjk),Bool.false_and,Bool.or_false]; rfl,rfl,trivial⟩ rfl rfl ⟨by dsimp only; omega,hle4⟩ (by dsimp only; omega)
    ·refine kP<|tN<|sQ<|bK<|sQ<|dW [] [(0,2),(1,2),(2,2),(3,2),(4,1),(5,2),(6,2),(7,2),(8,2),(9,1),(10,2),(11,2),(12,2),(13,2),(14,1),(15,0),(16,2),(17,2)] ze3 kR<|yM I<|yM I<|pU I (SU.eq (v':=vb true) (nQ I I)<|ze2 vb<|zf8 oM)<|yM I<|SP.gq I (gT I I I dC) (qV 0 ar ag I I I) dC<|yJ I<|yJ I<|zb2 I (gT I I I dC) (iA cC bM I I hb1 oM sL) dC<|zb2 I (gT I I I dC) (SU.indexAddrC cN zT3 I hb1 I dC dC) dC<|SP.gq I (gT I I I dC) (aZ (e:=ax) (o:=0) (u:=vi L[j].1) iT3 I (za6 hL4) hgj I) dC<|yJ I<|yJ I<|zb2 I (gT I I I dC) (iA cC bM I I hb1 oM sL) dC<|zb2 I (gT I I I dC) (SU.indexAddrC cN zT3 I hb1 I dC dC) dC<|SP.gq I (gT I I I dC) (aZ (e:=ax) (o:=1) (u:=vi L[k].2) iT3 I (za6 hL4) hgk I) dC<|SP.go I (gT I I I dC) (SO.call call101 I<|pX E g4 _ v l L[j].1 L[k].2 hv4 hf) dC (.inr iR) ?_;rintro _ g5 _ ⟨rfl,rfl,hle5⟩;refine zb2 I (gT I I I dC) (nQ I I) dC<|pU I (wT I I)<|pN<|tN<|iP I (fun hsg=>?_) (fun hsg=>?_)
     ·exact rG<|lA I<|nL<|bN<|tN<|rG<|lM I<|yD I<|lA I<|nL<|ST.again (j+1,g5) ⟨I,I,I,I,by rw[hnx,zf8 hjk,Bool.true_and,show mi l L[k] L[j]=true from zf8 hsg,Bool.or_true]; rfl,rfl,trivial⟩ rfl rfl ⟨by dsimp only; omega,hle4.trans hle5⟩ (by dsimp only; omega)
     ·exact kP<|bN<|tN<|rG<|lM I<|yD I<|lA I<|nL<|ST.again (j+1,g5) ⟨I,I,I,I,by rw[hnx,show mi l L[k] L[j]=false from zf7 hsg,Bool.and_false,Bool.or_false]; rfl,rfl,trivial⟩ rfl rfl ⟨by dsimp only; omega,hle4.trans hle5⟩ (by dsimp only; omega)
   ·have hjj:j=L.length:=oM;subst hjj;have hlr:((List.range L.length).any fun j=>decide (j≠k)&&mi l (L.getD k (0,0)) (L.getD j (0,0)))=jQ (mi l) L k:=rfl;rw[hlr];have hcut1:=SlA.cut hL4 (l:=0) (m:=k) (zf6 _) oM;have hcut2:=SlA.cut hL4 (l:=k+1) (m:=L.length) oM<|lR _;have hcap:=(SlA.cap hL4).2;rw[Nat.sub_zero,List.drop_zero] at hcut1;rw[tL (l:=L.drop<|k+1) (by rw[ze9]; exact lR _)] at hcut2;refine xI<|tX<|tX<|bX<|tN<|sW I<|lU (SU.not I)<|tZ<|iQ I (fun hlk=>?_) (fun hlk=>?_)
    ·have hlk':jQ (mi l) L k=false:=by simpa using hlk
     have hfk:=xR hkl hld hlk';have hel:(L.eraseIdx k).length=L.length - 1:=List.length_eraseIdx_of_lt hkl;refine sQ<|dW [4,9,10] [(1,2),(2,2),(3,2),(5,2),(6,2),(7,2),(8,2),(0,0),(4,0),(9,0),(10,0)] ze3 kR<|yM I<|yM I<|pU I (SU.sliceH cC bM I I oM oM)<|yM I<|yM I<|pU I (SU.eq (v':=vi<|(k+1:Nat)) (aD I I oM)<|ze2 vi oM)<|pU I (SU.sliceL cC bM I I oM oM)<|SP.o I (bS sty31 I I I (ab trivial) dC) dC (.inr iR) ?_;rintro _ _ _ ⟨b46,rfl,rfl,rfl⟩;refine SP.to (g':=g4) (s':=rowA ax 44 (.slice (some ⟨b46,0,none⟩) 0 0) []::pt b2 (.cells #[v] 29 (0,0))::s) (fun w hw=>(hw.sublist<|.cons _<|.refl _).emptyRow _ 2 _) ?_;refine SP.o I (aQ (e:=ax) (l:=[]) 0 sty31 I I I hcut1 (by rw[ze4]; simp; omega) (by rw[ze4]; simp; omega)) dC (.inl dC) ?_;rintro v50 _ _ ⟨rfl,rfl⟩;refine SP.o I (aQ (e:=ax) (l:=L.take k) 0 sty31 I I I hcut2 (by rw[ze4,ze9]; omega) (by rw[ze4,ze9]; omega)) dC (.inl dC) ?_;rintro v55 _ _ ⟨rfl,rfl⟩;refine oU I (aS I) dC (.inl dC) (pN<|tN<|rZ<|aT I<|xI<|ST.blockO dC<|tX<|tX<|bX<|bN<|fT fun g5 hle5 hs5=>?_);exact ST.again (v55,L.eraseIdx k,g5,true) sB I I ⟨hle2.trans<|h24.trans hle5,by rw[vE]; exact hs5,by dsimp only; omega,by dsimp only; rw[← Ab hfk]; exact hpe,fun h=>by cases h⟩ (by dsimp only; rw[hel]; simp; omega)
    ·have hlk':jQ (mi l) L k=true:=by simpa using hlk
     refine kP (bN (tN (rG (lM I (yD I (lA I (nL ?_)))))));exact ST.again (k+1,g4) sB I I ⟨by dsimp only; omega,h24,fun j hj=>by
      rcases (by omega:j<k∨j=k) with h | rfl
      ·exact hld j h
      ·exact hlk'⟩ (by dsimp only; omega)
  ·have hkk:k=L.length:=oM;subst hkk;exact xI<|tX<|tX<|bX<|bN<|ST.again (.slice q L.length d,L,g3,false) sB I I ⟨hle2.trans hle3,za4 hL hle3,hLl,hpe,fun _=>Ca hld⟩ (by dsimp only; simp)
 ·subst hag;refine xI<|tX<|tX<|bX<|tN<|sW I<|lU (eN cC I)<|lU (gR I I)<|aT I<|rE ?_;have hend:=BJ<|hfr rfl;have hres:mr (mi l) m=decide ((L.length:Int)>0):=by
   unfold mr;rw[← hpe,hend,decide_eq_decide];constructor
   ·intro h;have:=List.length_pos_iff.2 h;omega
   ·intro h e;subst e;simp at h
  exact dR (s':=s) uR<|za7 (.inl I) results102 I ⟨by rw[hres],I,hle1.trans hle2⟩
theorem vm (E:World)(g:PH)(s:Own)(v u:Value)(l:List Cl)(m:List Pr)(hv:ak g v l)(hf:a8 l)(hu:SlA ax g u m)(hl:m.length<1099511627776) :
  Ctr Tryz.prog E 65 #[.agg #[v],u] g s (fun r g' s'=>r=vi (j8 l m)∧s=s'∧Le g g'):=by
 obtain ⟨p,c,rfl⟩:=za3 hu;have hck:=gb E g (pt 0 (.cells #[] 0 (0,0))::s) v l hv hf;have hck:=fun s=>gb E g s v l hv hf;simp only[eI] at hck;have hcap:=(SlA.cap hu).2;refine zb1 (args:=[.agg #[v],.slice p m.length c]) func65 I ntmps65 (bE I)<|rZ (bW (bO I) fun b2=>?_);refine aT I<|rZ<|lK (qV 0 ar ag I I I)<|lW (SO.call call67 I<|hck _) ?_;rintro _ g1 _ ⟨rfl,rfl,hle1⟩;refine lM I<|yX I<|yX I<|lA I<|aT I<|sQ<|sW I<|lU (nQ I I)<|tZ ?_;have hres:j8 l m=if (aq l).2≠0 then (aq l).2 else if (List.range m.length).any (ei l m) then 42 else if mr (mi l) m then 43 else 0:=rfl
 rw[hres];clear hck;generalize (aq l).2=e at *;refine iP I (fun he=>?_) (fun he=>?_)
 ·rw[zg1 he];exact sW I<|aT I<|rE<|tR<|dR (s':=s) uR<|za7 (.inl I) results65 I ⟨I,I,hle1⟩
 ·rw[zf9 he];refine kP<|tN<|sQ<|rZ<|aT I<|bK<|SC.loop (ι:=Nat×PH) (fun i=>[(1,.slice p m.length c),(2,pp b2 0),(7,vi i.1)]) (fun i=>i.2) (fun _=>pt b2 (.cells #[v] 29 (0,0))::s) (fun i=>i.1≤m.length∧Le g i.2∧(List.range i.1).any (ei l m)=false) (fun i=>m.length - i.1) (0,g1)
   sB rfl rfl ⟨zf6 _,hle1,rfl⟩ ?_
  rintro ⟨k,g2⟩ ⟨hk,hle2,hno⟩;dsimp only at hk hle2 hno ⊢;have hv2:=hv.mono hle2;have hu2:=za4 hu hle2;refine sQ<|sW I<|lM I<|lU (eN cC I)<|yL I<|tZ<|iP I (fun hlt=>?_) (fun hlt=>?_)
  ·have hkl:k<m.length:=oM;have hb1:=za5 hu oM;have hgk:m[((k:Nat):Int).toNat]?=some m[k]:=gE hkl;have hdk:m.getD k (0,0)=m[k]:=by rw[zh1,gE hkl]; rfl
   have hcut:=SlA.cut hu2 (l:=0) (m:=k) (zf6 _) oM;rw[Nat.sub_zero,List.drop_zero] at hcut;have hcl:(m.take k).length<1099511627776:=by rw[ze4]; omega
   have hbad:ei l m k=(cq (m.take k) m[k].1||cq (m.take k) m[k].2||decide (Bb l m[k].1 m[k].2=0)):=by unfold ei; rw[hdk]
   have hany:∀ n≤m.length,k<n→ei l m k=true→(List.range n).any (ei l m)=true:=fun n _ hn h=>zj8.2 ⟨k,List.mem_range.2 hn,h⟩;have hnx:(List.range<|k+1).any (ei l m)=ei l m k:=by rw[List.range_succ,List.any_append,hno]; simp
   refine kP<|tN<|sQ<|bK<|sQ<|dW [] [(0,2),(1,2),(2,2),(3,2),(4,2),(5,2),(6,2),(7,1),(8,0),(9,2)] ze3 kR<|yM I<|yM I<|pU I (SU.sliceH cC bM I I oM oM)<|yM I<|yM I<|pU I (iA cC bM I I hb1 oM sL)<|pU I (SU.indexAddrC cN zT3 I hb1 I dC dC)<|pK I (aZ (e:=ax) (o:=0) (u:=vi m[k].1) iT3 I (za6 hu2) hgk I)<|SP.o I (SO.call call100 I<|oh E g2 _ _ (m.take k) m[k].1 hcut hcl) dC (.inr iR) ?_;rintro _ _ _ ⟨rfl,rfl,rfl⟩;refine pU I (aS I)<|pN<|tN<|sQ<|dW [] [(0,2),(1,2),(2,2),(3,2),(4,2),(5,2),(6,2),(7,1),(8,0),(9,2)] ze3 kR<|yM I<|yM I<|pU I (SU.sliceH cC bM I I oM oM)<|yM I<|yM I<|pU I (iA cC bM I I hb1 oM sL)<|pU I (SU.indexAddrC cN zT3 I hb1 I dC dC)<|pK I (aZ (e:=ax) (o:=1) (u:=vi m[k].2) iT3 I (za6 hu2) hgk I)<|SP.o I (SO.call call100 I<|oh E g2 _ _ (m.take k) m[k].2 hcut hcl) dC (.inr iR) ?_;rintro _ _ _ ⟨rfl,rfl,rfl⟩;refine pU I (aS I)<|pN<|tN ?_;generalize cq (m.take k) m[k].1=x at *;generalize cq (m.take k) m[k].2=y at *
   rcases Bool.eq_false_or_eq_true x with hx | hx
   ·subst hx;refine sQ<|dW [] [(0,2),(1,2),(2,2),(3,2),(4,2),(5,1),(6,2),(7,2),(8,2),(9,2),(10,1),(11,2),(12,2),(13,2),(14,2),(15,1),(16,0),(17,2),(18,2)] ze3 kR<|yM I<|yM I<|yG I<|pU I (wT I I)<|yM I<|yI I<|yG I<|yG I<|yG I<|yG I<|yI I<|yG I<|yG I<|yG I<|yG I<|yI I<|fO I (gZ I I I dC) dC ⟨by exact zb8 _,(by exact .refl _)⟩ ?_;refine yG I<|pU I (wT I I)<|pN<|tN<|za1 I<|rZ<|aT I<|rE<|bR<|tR<|tR<|bR<|tR ?_;rw[zg1<|hany _ (lR _) hkl (by rw[hbad]; rfl)];refine dR (s':=s) uR ?_;exact za7 (.inl I) results65 I ⟨I,I,hle2⟩
   ·subst hx
    rcases Bool.eq_false_or_eq_true y with hy | hy
    ·subst hy;refine sQ<|dW [] [(0,2),(1,2),(2,2),(3,2),(4,2),(5,1),(6,2),(7,2),(8,2),(9,2),(10,1),(11,2),(12,2),(13,2),(14,2),(15,1),(16,0),(17,2),(18,2)] ze3 kR<|yM I<|yM I<|yJ I<|pU I (wF I I)<|yM I<|yI I<|yG I<|yG I<|yG I<|yG I<|yI I<|yG I<|yG I<|yG I<|yG I<|yI I<|fO I (gZ I I I dC) dC ⟨by exact zb8 _,(by exact .refl _)⟩ ?_;refine yG I<|pU I (wT I I)<|pN<|tN<|za1 I<|rZ<|aT I<|rE<|bR<|tR<|tR<|bR<|tR ?_;rw[zg1<|hany _ (lR _) hkl (by rw[hbad]; rfl)];refine dR (s':=s) uR ?_;exact za7 (.inl I) results65 I ⟨I,I,hle2⟩
    ·subst hy;rw[Bool.false_or,Bool.false_or] at hbad;refine sQ<|dW [] [(0,2),(1,2),(2,2),(3,2),(4,2),(5,1),(6,2),(7,2),(8,2),(9,2),(10,1),(11,2),(12,2),(13,2),(14,2),(15,1),(16,0),(17,2),(18,2)] ze3 kR<|yM I<|yM I<|yJ I<|pU I (wF I I)<|yM I<|SP.gq I (gT I I I dC) (qV 0 ar ag I I I) dC<|yJ I<|yJ I<|zb2 I (gT I I I dC) (iA cC bM I I hb1 oM sL) dC<|zb2 I (gT I I I dC) (SU.indexAddrC cN zT3 I hb1 I dC dC) dC<|SP.gq I (gT I I I dC) (aZ (e:=ax) (o:=0) (u:=vi m[k].1) iT3 I (za6 hu2) hgk I) dC<|yJ I<|yJ I<|zb2 I (gT I I I dC) (iA cC bM I I hb1 oM sL) dC<|zb2 I (gT I I I dC) (SU.indexAddrC cN zT3 I hb1 I dC dC) dC<|SP.gq I (gT I I I dC) (aZ (e:=ax) (o:=1) (u:=vi m[k].2) iT3 I (za6 hu2) hgk I) dC<|SP.go I (gT I I I dC) (SO.call call101 I<|pX E g2 _ v l m[k].1 m[k].2 hv2 hf) dC (.inr iR) ?_;rintro _ g3 _ ⟨rfl,rfl,hle3⟩;refine zb2 I (gT I I I dC) (eQ I I) dC<|pU I (wF I I)<|pN<|tN<|iP I (fun hz=>?_) (fun hz=>?_)
     ·refine rZ<|aT I<|rE<|bR<|tR<|tR<|bR<|tR ?_;rw[zg1 (hany _ (lR _) hkl<|by rw[hbad,zf8 hz])];refine dR (s':=s) uR ?_;exact za7 (.inl I) results65 I ⟨I,I,hle2.trans hle3⟩
     ·exact kP<|bN<|tN<|rG<|lM I<|yD I<|lA I<|nL<|ST.again (k+1,g3) sB I I ⟨by dsimp only; omega,hle2.trans hle3,by dsimp only; rw[hnx,hbad,zf7 hz]⟩ (by dsimp only; omega)
  ·have hkk:k=m.length:=oM;subst hkk;rw[zf9 (by rw[hno]; decide)];refine xI<|tX<|tX<|bX<|tN<|rZ<|lK (qV 0 ar ag I I I)<|lM I<|lW (SO.call call102 I<|xu E g2 _ v _ l m hv2 hf hu2 hl) ?_;rintro _ g3 _ ⟨rfl,rfl,hle3⟩;refine aT I<|sQ<|sW I<|tZ<|iQ I (fun hr=>?_) (fun hr=>?_)
   ·rw[zg1 hr];exact rZ<|aT I<|rE<|tR<|dR (s':=s) uR<|za7 (.inl I) results65 I ⟨I,I,hle2.trans hle3⟩
   ·rw[zf9 (by rw[hr]; decide)];exact kP<|tN<|rZ<|aT I<|rE<|dR (s':=s) uR<|za7 (.inl I) results65 I ⟨I,I,hle2.trans hle3⟩
theorem Dv (x y:Pr)(w:World):(binOp .neq 44 (.agg (ax.enc x).toArray)<|.agg (ax.enc y).toArray).run Tryz.prog w = .ok (.bool<|decide (x≠y)) w:=by
 have hi:Tryz.prog.info? 3=some t3:=by kernel_rfl
 have hc:Tryz.prog.cellsOf 3=1:=by kernel_rfl
 rw[run_neq_struct,run_equalIn_array w 9999 _ _ cN hi,hc];obtain ⟨a,b⟩:=x;obtain ⟨c,d⟩:=y;have h1:=run_equalIn_int (P:=Tryz.prog) w 9998 3 .i64 .i64 a c uT3;have h2:=run_equalIn_int (P:=Tryz.prog) w 9998 3 .i64 .i64 b d uT3;have hr:List.range 2=[0,1]:=rfl;rw[hr];simp only[Op.eqItems,ax,Go.part,Sem.run_bind,iT3,zd1];simp[h1,h2];by_cases hac:a=c <;> by_cases hbd:b=d <;> simp[hac,hbd]
theorem SU.neqPr {N:Nat}{f:Fr}{dst:Option Tmp}{ty:TypeId}{pos:String}{af:Array Edge}{gd:Option (Nat×Bool)}{x y:Operand}{a b:Pr}{U:TypeId}(hx:ev f x=some (.agg (ax.enc a).toArray))(hy:ev f y=some (.agg (ax.enc b).toArray)) :
  SU Tryz.prog N ⟨dst,.binOp .neq 44 x y U,ty,pos,af,gd⟩ f (.bool<|decide (a≠b)):=fun ac w ha=>by
 have hg:=run_eqGuard_agg (P:=Tryz.prog) w .neq 44 x y (ax.enc a).toArray (ax.enc b).toArray eqGuardType44;simp only[execOp,ha.ev hx,ha.ev hy,Sem.run_bind,hg,zd1,Dv];rfl
theorem fo (E:World)(g:PH)(s:Own)(v u:Value)(m:List Pr)(hv:SlA ax g v m)(hu:SlA ax g u m)(hl:m.length<1099511627776) :
  Ctr Tryz.prog E 12 #[v,u] g s (fun r g' s'=>r=vb true∧g=g'∧s=s'):=by
 obtain ⟨p,c,rfl⟩:=za3 hv;obtain ⟨q,d,rfl⟩:=za3 hu;refine zb1 (args:=[.slice p m.length c,.slice q m.length d]) func12 I ntmps12 (bE I)<|rZ<|aT I<|sQ<|sW I<|lU (eN cC I)<|lM I<|lU (eN cC I)<|lU (SU.eq (v':=vb false) (nQ I I)<|ze2 vb<|zf7<|by simp) ?_;refine tZ<|cF I<|kP<|tN<|sQ<|rZ<|aT I<|bK ?_;refine SC.loop (ι:=Nat) (fun k=>[(0,.slice p m.length c),(1,.slice q m.length d),(5,vi k)]) (fun _=>g) (fun _=>s) (fun k=>k≤m.length) (fun k=>m.length - k) 0 sB I I (zf6 _) ?_;rintro k hk;refine sQ<|sW I<|lM I<|lU (eN cC I)<|yL I<|tZ ?_;refine iP I (fun hlt=>?_) (fun hlt=>?_)
 ·have hkl:k<m.length:=oM;have hb1:=za5 hv oM;have hb2:=za5 hu oM;refine kP<|tN<|sQ<|bK<|sQ<|dW [] [(0,2),(1,2),(2,2),(3,1),(4,2),(5,2),(6,2),(7,1),(8,2)] ze3 kR<|yM I<|yM I<|pU I (iA cC bM I I hb1 oM sL)<|pQ I (eA kI bM I (za6 hv)<|gE hkl) dC<|yM I<|yM I<|pU I (iA cC bM I I hb2 oM sL)<|pQ I (eA kI bM I (za6 hu)<|gE hkl) dC<|pU I (SU.eq (v':=vb false) (SU.neqPr I I)<|ze2 vb<|zf7<|by simp) ?_;refine pN<|tN<|cF I<|kP<|bN<|tN<|rG<|lM I<|yD I<|lA I<|nL ?_;exact ST.again (k+1) sB I I oM oM
 ·exact xI<|tX<|tX<|bX<|tN<|rZ<|aT I<|rE<|za7 (.inl I) results12 I ⟨I,I,I⟩
theorem zC (l:List Cl)(T:List Pr)(p:Pr):(gK l T p).length≤T.length+1:=by
 unfold gK;split
 ·simp
 ·omega
theorem iy (l:List Cl):∀ (m T:List Pr),(m.foldl (gK l) T).length≤T.length+m.length
 | [],T=>lR _
 | p::m,T=>by
  have:=iy l m<|gK l T p;have:=zC l T p;rw[zi7,ze8];omega
theorem Tryz.build44 (a b:Int)(w:World):(Instr.build 44 #[(0,vi a),(1,vi b)]).run Tryz.prog w = .ok (.agg #[vi a,vi b]) w:=by
 have h1:∀ n,(vi n).cells = #[vi n]:=fun _=>rfl;simp[Instr.build,Instr.fill,h1];rfl
theorem nW (E:World)(g:PH)(s:Own)(v u:Value)(l:List Cl)(T:List Pr)(p:Pr)(hv:ak g v l)(hf:a8 l)(hu:SlA ax g u T)(hl:T.length+1<1099511627776) :
  Ctr Tryz.prog E 35 #[.agg #[v],u,.agg #[vi p.1,vi p.2]] g s (fun r g' s'=>s=s'∧Le g g'∧SlA ax g' r (gK l T p)):=by
 refine zb1 (args:=[.agg #[v],u,.agg #[vi p.1,vi p.2]]) func35 I ntmps35 (bE I)<|rZ (bW (bO I) fun b3=>?_);refine bW (bO I) fun b5=>aT I<|SC.cut (ι:=Value×PH) (fun i=>[(1,u),(3,pp b3 0),(7,i.1)]) (fun i=>i.2) (fun i=>rowA ax 44 i.1 (T++[p])::pt b5 (.cells #[vi p.1,vi p.2] 44 (0,0))::pt b3 (.cells #[v] 29 (0,0))::s) (fun i=>Le g i.2) ?_ ?_
 ·refine SC.drawX [] ze3 kR ?_;refine SX.u (i:=1) I kR (mV I) dC<|SX.q (i:=3) I kR (qV 0 kI bM I I I) dC ?_
  repeat' (first
   | (refine SB.o (i:=0) I (bS sty31 I I I (ab trivial) dC) dC (.inr iR) ?_; rintro _ _ _ ⟨b8,rfl,rfl,rfl⟩; refine SX.to (fun w hw=>(hw.sublist<|zj1 _ _).emptyRow 44 2<|some ⟨b8,0,none⟩) ?_)
   | (refine SB.o (i:=0) I (bS sty31 I I I (ab trivial) dC) dC (.inr iR) ?_; rintro _ _ _ ⟨b8,rfl,rfl,rfl⟩; refine SX.to (fun w hw=>(hw.sublist<|zj1 _ _).emptyRow 44 2<|some ⟨b8,0,none⟩) ?_)
   | (refine SB.o (i:=2) I (aQ (e:=ax) (l:=[]) 0 sty31 I I I (by exact za4 hu<|by assumption) (by simp; omega) (by simp; omega)) dC (.inr iR) ?_; rintro v10 _ _ ⟨rfl,rfl⟩)
   | (refine SB.o (i:=2) I (aQ (e:=ax) (l:=[]) 0 sty31 I I I (by exact hu) (by simp; omega) (by simp; omega)) dC (.inr iR) ?_; rintro v10 _ _ ⟨rfl,rfl⟩)
   | (refine SB.o (i:=4) I (bS sty31 I I I (ab ⟨I,trivial⟩) dC) dC (.inr iR) ?_; rintro _ _ _ ⟨b12,rfl,rfl,rfl⟩; refine SX.to (fun w hw=>At.litRow (e:=ax) (l:=[p]) (n:=0) hw I I dC) ?_; refine SX.freezeRow fun g12 hle12 hs12=>?_)
   | (refine SB.o (i:=4) I (bS sty31 I I I (ab ⟨I,trivial⟩) dC) dC (.inr iR) ?_; rintro _ _ _ ⟨b12,rfl,rfl,rfl⟩; refine SX.to (fun w hw=>At.litRow (e:=ax) (l:=[p]) (n:=0) hw I I dC) ?_; refine SX.freezeRow fun g12 hle12 hs12=>?_)
   | (refine SB.o (i:=5) I (aQ (e:=ax) (l:=T) 0 sty31 I I I hs12 (by simp; omega) (by simp; omega)) dC (.inr iR) ?_; rintro v13 _ _ ⟨rfl,rfl⟩; refine SX.u (i:=6) I kD (aS I) dC ?_)
   | refine zd7 0 4 kD ?_ ?_
   | refine zd7 2 4 kD ?_ ?_
   | refine zd6 4 kD ?_
   | refine zd6 5 kD ?_
   | refine zd6 2 kD ?_
   | refine zd6 0 kD ?_
   | (refine SX.nil kD ?_; exact za8 (v13,g12) sB I I hle12))
 rintro ⟨v7,g1⟩ hle1;dsimp only at hle1 ⊢;refine fS fun g2 hle2 hs2=>?_;have h12:=hle1.trans hle2;have hs2:SlA ax g2 v7 (T++[p]):=hs2;refine sQ<|rZ<|lK (qV 1 ar ag I I I)<|lM I<|lW (SO.call call65 I<|vm E g2 _ v v7 l (T++[p]) (hv.mono h12) hf hs2 (by simp; omega)) ?_;rintro _ g3 _ ⟨rfl,rfl,hle3⟩;refine yE I<|tZ ?_;have htk:gK l T p=if j8 l (T++[p])=0 then T++[p] else T:=rfl
 rw[htk];refine iP I (fun hz=>?_) (fun hz=>?_)
 ·rw[zg1 hz];exact sW I<|aT I<|rE<|tR<|dR (s':=s) uR<|za7 (.inl I) results35 I ⟨I,h12.trans hle3,za4 hs2 hle3⟩
 ·rw[zf9 hz];exact kP<|tN<|sW I<|aT I<|rE<|dR (s':=s) uR<|za7 (.inl I) results35 I ⟨I,h12.trans hle3,za4 hu<|h12.trans hle3⟩
theorem vx (E:World)(g:PH)(s:Own)(v u:Value)(l:List Cl)(m:List Pr)(hv:ak g v l)(hf:a8 l)(hu:SlA ax g u m)(hl:m.length<1099511627775) :
  Ctr Tryz.prog E 14 #[.agg #[v],u] g s (fun r g' s'=>s=s'∧Le g g'∧SlA ax g' r (kB l m)):=by
 obtain ⟨p,c,rfl⟩:=za3 hu;refine zb1 (args:=[.agg #[v],.slice p m.length c]) func14 I ntmps14 (bE I)<|rZ (bW (bO I) fun b2=>?_);refine aT I<|rZ<|aT I<|sQ<|rZ<|aT I<|bK<|SC.loop (ι:=Value×Nat×PH) (fun i=>[(1,.slice p m.length c),(2,pp b2 0),(5,i.1),(6,vi i.2.1)]) (fun i=>i.2.2) (fun _=>pt b2 (.cells #[v] 29 (0,0))::s) (fun i=>i.2.1≤m.length∧Le g i.2.2∧SlA ax i.2.2 i.1 ((m.take i.2.1).foldl (gK l) [])) (fun i=>m.length - i.2.1) (.slice none 0 0,0,g)
  sB rfl rfl ⟨zf6 _,zb8 _,zb9 g _⟩ ?_
 rintro ⟨w,k,g1⟩ ⟨hk,hle1,hw⟩;dsimp only at hk hle1 hw ⊢;refine sQ<|sW I<|lM I<|lU (eN cC I)<|yL I<|tZ<|iP I (fun hlt=>?_) (fun hlt=>?_)
 ·have hkl:k<m.length:=oM;have hb1:=za5 hu oM;have hgk:m[((k:Nat):Int).toNat]?=some m[k]:=gE hkl;have hfl:=iy l (m.take k) [];rw[ze4,zc4] at hfl;refine kP<|tN<|sQ<|bK<|dW [] [(0,1),(1,2),(2,2),(3,2),(4,2),(5,1),(6,0),(7,2)] ze3 kR<|pK I (qV 0 ar ag I I I)<|yM I<|yM I<|yM I<|pU I (iA cC bM I I hb1 oM sL)<|pK I (eA kI bM I (za6<|za4 hu hle1) hgk)<|SP.o I (SO.call call35 I<|nW E g1 _ v w l _ m[k] (hv.mono hle1) hf hw oM) dC (.inr iR) ?_;rintro w2 g2 _ ⟨rfl,hle2,hw2⟩;exact pU I (aS I)<|pN<|bN<|tN<|rG<|lM I<|yD I<|lA I<|nL<|ST.again (w2,k+1,g2) sB I I ⟨by dsimp only; omega,hle1.trans hle2,by dsimp only; rw[tS hkl,zi8]; exact hw2⟩ (by dsimp only; omega)
 ·refine xI<|tX<|tX<|bX<|tN<|sW I<|aT I<|rE ?_;have hkk:m.take k=m:=tL oM;rw[hkk] at hw;exact dR (s':=s) uR<|za7 (.inl I) results14 I ⟨I,hle1,hw⟩
def iS (l A:List Cl)(k:Nat):List Pr:=(A.take k).flatMap fun c=>(ah l c.id).map fun h=>(c.id,h)
theorem lh (l:List Cl)(id:Int):(ah l id).length≤(aW l).length:=by
 unfold ah;rw[ze6];exact zc5 _ _
theorem jb (l:List Cl):∀ (A:List Cl),(A.flatMap fun c=>(ah l c.id).map fun h=>(c.id,h)).length≤A.length * (aW l).length
 | []=>by simp
 | c::A=>by
  have ih:=jb l A;have:=lh l c.id;rw[zh5,ze5,ze6,ze8,Nat.succ_mul];omega
theorem mJ (E:World)(g:PH)(s:Own)(v:Value)(l:List Cl)(hv:ak g v l)(hf:a8 l)(hl:l.length≤1000000) :
  Ctr Tryz.prog E 26 #[.agg #[v]] g s (fun r g' s'=>s=s'∧Le g g'∧SlA ax g' r (eX l)):=by
 have htl:(aW l).length≤1000000:=zk8 (dN l) hl;have hsq:∀ k,k≤(aW l).length→k * (aW l).length≤1000000000000:=fun k hk=>Nat.mul_le_mul (zk8 hk htl) htl;have hab:=lh l;have hpl:=jb l;have hres:eX l=(aW l).flatMap fun c=>(ah l c.id).map fun h=>(c.id,h):=rfl;rw[hres];refine zb1 (args:=[.agg #[v]]) func26 I ntmps26 (bE I)<|rZ (bW (bO I) fun b1=>?_);refine aT I<|rZ<|aT I<|rZ<|lK (qV 0 ar ag I I I)<|lW (SO.call call42 I<|dy E g _ v l hv hf) ?_;rintro cv g1 _ ⟨rfl,hle1,hc⟩;obtain ⟨rs,hrs,hall⟩:=hc;obtain ⟨q,d,rfl⟩:=za3 hrs;refine aT I<|sQ<|rZ<|aT I<|bK ?_;generalize aW l=A at *;have hrl:=hall.length;refine zb5 44 2<|SC.loop (ι:=Value×Nat×PH) (fun i=>[(1,pp b1 0),(3,i.1),(4,.slice q rs.length d),(5,vi i.2.1)]) (fun i=>i.2.2) (fun i=>rowA ax 44 i.1 (iS l A i.2.1)::pt b1 (.cells #[v] 29 (0,0))::s) (fun i=>i.2.1≤A.length∧Le g1 i.2.2) (fun i=>A.length - i.2.1) (.slice none 0 0,0,g1)
  sB rfl rfl ⟨zf6 _,zb8 _⟩ ?_
 rintro ⟨w,k,g2⟩ ⟨hk,hle2⟩;dsimp only at hk hle2 ⊢;refine sQ<|sW I<|lM I<|lU (eN aF I)<|yL I<|tZ<|iP I (fun hlt=>?_) (fun hlt=>?_)
 ·have hkl:k<A.length:=oM;have hkr:k<rs.length:=oM;have hb1:=za5 hrs oM;have hgk:rs[((k:Nat):Int).toNat]?=some rs[k]:=gE hkr;have hcr:=hall.get (gE hkl)<|gE hkr;have hid:rs[k].id=A[k].id:=hcr.1;have hrs2:=za4 hrs hle2;have hln:=hpl<|A.take k;have hsk:=hsq k hk;have htk:(A.take k).length=k:=by rw[ze4]; omega
  have hnext:iS l A (k+1)=iS l A k++(ah l A[k].id).map fun h=>(A[k].id,h):=by
   unfold iS;rw[tS hkl,List.flatMap_append];simp
  rw[htk] at hln;have hln:(iS l A k).length≤k * A.length:=hln;refine kP<|tN<|sQ<|bK<|sQ<|dW [] [(0,1),(1,2),(2,2),(3,2),(4,2),(5,1),(6,0),(7,2)] ze3 kR<|pK I (qV 1 ar ag I I I)<|yM I<|yM I<|pU I (iA aF au I I hb1 oM sL)<|pU I (fC aw I zT3 I hb1)<|pK I (aZ (e:=encCell) (o:=0) (u:=vi rs[k].id) iT3 I (za6 hrs2) hgk I)<|SP.o I (SO.call call54 I<|cj E g2 _ v l rs[k].id (hv.mono<|hle1.trans hle2) hf) dC (.inr iR) ?_;rintro av g3 _ ⟨rfl,hle3,hav⟩;obtain ⟨qa,da,rfl⟩:=za3 hav;refine pU I (aS I)<|pN<|tN<|rZ<|aT I<|bK ?_;rw[hid] at hav ⊢;have hal:=hab A[k].id;generalize ah l A[k].id=B at *;have hrs3:=za4 hrs2 hle3;refine SC.loop (ι:=Value×Nat) (fun i=>[(1,pp b1 0),(3,i.1),(4,.slice q rs.length d),(5,vi k),(6,.slice qa B.length da),(7,vi i.2)]) (fun _=>g3) (fun i=>rowA ax 44 i.1 (iS l A k++(B.take i.2).map fun h=>(A[k].id,h))::pt b1 (.cells #[v] 29 (0,0))::s) (fun i=>i.2≤B.length) (fun i=>B.length - i.2) (w,0)
   sB rfl (by simp) (zf6 _) ?_
  rintro ⟨w2,j⟩ hj;dsimp only at hj ⊢;refine sQ<|sW I<|lM I<|lU (eN aG I)<|yL I<|tZ<|iP I (fun hjl=>?_) (fun hjl=>?_)
  ·have hjB:j<B.length:=oM;have hb2:=za5 hav oM;have hgj:B[((j:Nat):Int).toNat]?=some B[j]:=gE hjB;have hll:(iS l A k++(B.take j).map fun h=>(A[k].id,h)).length≤k * A.length+A.length:=by
    rw[ze5,ze6,ze4]; omega
   have hsk1:=hsq (k+1) hkl;rw[Nat.succ_mul] at hsk1;refine kP<|tN<|sQ<|bK<|dW [12,13] [(0,2),(1,2),(2,2),(3,2),(4,2),(5,1),(6,2),(7,2),(8,2),(9,1),(10,2),(11,0),(12,0),(13,0)] ze3 kR<|yM I<|yM I<|yM I<|pU I (iA aF au I I hb1 oM sL)<|pU I (fC aw I zT3 I hb1)<|pK I (aZ (e:=encCell) (o:=0) (u:=vi A[k].id) iT3 I (za6 hrs3) hgk (by rw[← hid]; rfl)) ?_;refine yM I<|yM I<|pU I (iA aG zT3 I I hb2 oM sL)<|pK I (eB iT3 I (za6 hav) hgj I)<|pU I (za2 I<|build44 _ _)<|SP.o I (bS sty31 I I I (ab ⟨I,trivial⟩) dC) dC (.inr iR) ?_;rintro _ _ _ ⟨b40,rfl,rfl,rfl⟩;refine SP.o I (aP (e:=ax) 0 (A[k].id,B[j]) sty31 I I I I I oM oM) dC (.inl dC) ?_;rintro w3 _ _ ⟨rfl,rfl⟩;exact oU I (aS I) dC (.inl dC)<|pN<|bN<|tN<|rG<|lM I<|yD I<|lA I<|nL<|ST.again (w3,j+1) sB I (by dsimp only; rw[tS hjB,zg5,← zg8]; rfl) (by dsimp only; omega) (by dsimp only; omega)
  ·have hjj:B.take j=B:=tL oM;rw[hjj,← hnext];exact xI<|tX<|tX<|bX<|bN<|tN<|rG<|lM I<|yD I<|lA I<|nL<|ST.again (w2,k+1,g3) sB I I ⟨by dsimp only; omega,hle2.trans hle3⟩ (by dsimp only; omega)
 ·have hkk:A.take k=A:=tL oM;have hall:iS l A k=A.flatMap fun c=>(ah l c.id).map fun h=>(c.id,h):=by unfold iS; rw[hkk]
  rw[hall];refine xI (tX<|tX<|bX<|tN<|sW I<|aT I<|rE<|fT fun g3 hle3 hs3=>?_);exact dR (s':=s) uR<|za7 (.inl I) results26 I ⟨I,hle1.trans<|hle2.trans hle3,hs3⟩
theorem lp (E:World)(g:PH)(s:Own)(v u:Value)(l:List Cl)(m:List Pr)(hv:ak g v l)(hf:a8 l)(hl:l.length≤100000)(hu:SlA ax g u m)(hm:m.length<500000000000) :
  Ctr Tryz.prog E 16 #[.agg #[v],u] g s (fun r g' s'=>s=s'∧Le g g'∧SlA ax g' r (eF l m)):=by
 have hck:=fun s=>ga E g s v l hv hf;simp only[eI] at hck;have htl:(aW l).length≤100000:=zk8 (dN l) hl;have hpl:(eX l).length≤10000000000:=zk8 (jb l<|aW l)<|Nat.mul_le_mul htl htl;have hkl:(kB l m).length≤m.length:=by
  have:=iy l m [];rw[zc4,Nat.zero_add] at this;exact this
 have hres:eF l m=if (aq l).2=0 then (eX l).foldl (gK l) (kB l m) else []:=rfl
 rw[hres];refine zb1 (args:=[.agg #[v],u]) func16 I ntmps16 (bE I)<|rZ (bW (bO I) fun b2=>?_);refine aT I<|rZ<|lK (qV 0 ar ag I I I)<|lW (SO.call call37 I<|hck _) ?_;rintro _ g1 _ ⟨rfl,rfl,hle1⟩;refine aT I<|sQ<|sW I<|lU (SU.notP I)<|tZ ?_;clear hck hres;refine iP I (fun hwr=>?_) (fun hwr=>?_)
 ·rw[zf9 hwr];exact rZ<|aT I<|rE<|tR<|dR (s':=s) uR<|za7 (.inl I) results16 I ⟨I,hle1,zb9 g1 _⟩
 ·rw[zg1<|Classical.not_not.1 hwr];refine kP<|tN<|rZ<|lK (qV 0 ar ag I I I)<|lM I<|lW (SO.call call14 I<|vx E g1 _ v u l m (hv.mono hle1) hf (za4 hu hle1) oM) ?_;rintro w0 g2 _ ⟨rfl,hle2,hw0⟩;have hv2:=hv.mono<|hle1.trans hle2;refine aT I<|rZ<|lK (qV 0 ar ag I I I)<|lW (SO.call call26 I<|mJ E g2 _ v l hv2 hf oM) ?_;rintro pv g3 _ ⟨rfl,hle3,hpv⟩;obtain ⟨p,c,rfl⟩:=za3 hpv;have hw0:=za4 hw0 hle3;have hv3:=hv2.mono hle3;have h13:=hle1.trans<|hle2.trans hle3;refine aT I<|sQ<|rZ<|aT I<|bK ?_;generalize kB l m=K at *;generalize eX l=R at *;refine SC.loop (ι:=Value×Nat×PH) (fun i=>[(2,pp b2 0),(6,i.1),(7,.slice p R.length c),(8,vi i.2.1)]) (fun i=>i.2.2) (fun _=>pt b2 (.cells #[v] 29 (0,0))::s) (fun i=>i.2.1≤R.length∧Le g3 i.2.2∧SlA ax i.2.2 i.1 ((R.take i.2.1).foldl (gK l) K)) (fun i=>R.length - i.2.1) (w0,0,g3)
   sB rfl rfl ⟨zf6 _,zb8 _,hw0⟩ ?_
  rintro ⟨w,k,g4⟩ ⟨hk,hle4,hw⟩;dsimp only at hk hle4 hw ⊢;refine sQ<|sW I<|lM I<|lU (eN cC I)<|yL I<|tZ<|iP I (fun hlt=>?_) (fun hlt=>?_)
  ·have hkR:k<R.length:=oM;have hb1:=za5 hpv oM;have hgk:R[((k:Nat):Int).toNat]?=some R[k]:=gE hkR;have hfl:=iy l (R.take k) K;rw[ze4] at hfl;refine kP<|tN<|sQ<|bK<|dW [] [(0,1),(1,2),(2,2),(3,2),(4,2),(5,1),(6,0),(7,2)] ze3 kR<|pK I (qV 0 ar ag I I I)<|yM I<|yM I<|yM I<|pU I (iA cC bM I I hb1 oM sL)<|pK I (eA kI bM I (za6<|za4 hpv hle4) hgk)<|SP.o I (SO.call call35 I<|nW E g4 _ v w l _ R[k] (hv3.mono hle4) hf hw oM) dC (.inr iR) ?_;rintro w2 g5 _ ⟨rfl,hle5,hw2⟩;exact pU I (aS I)<|pN<|bN<|tN<|rG<|lM I<|yD I<|lA I<|nL<|ST.again (w2,k+1,g5) sB I I ⟨by dsimp only; omega,hle4.trans hle5,by dsimp only; rw[tS hkR,zi8]; exact hw2⟩ (by dsimp only; omega)
  ·refine xI<|tX<|tX<|bX<|tN<|sW I<|aT I<|rE ?_;have hkk:R.take k=R:=tL oM;rw[hkk] at hw;exact dR (s':=s) uR<|za7 (.inl I) results16 I ⟨I,h13.trans hle4,hw⟩
end Go.Proofs.YtmmghffoakhheaaGreatDoor
namespace Go.Sy
open Go Go.MapKept
def mpE (b:Nat)(l:List (Int×Value))(j:Nat)(st:Int):Ent:=⟨some b,fun oo=>∃ es clk,oo=some (.map es clk)∧jf l es clk∧∃ e,es[j]?=some e∧(e.born:Int)=st⟩
section
variable {P:Program}{w:World}{t kt et:TypeId}{z:Value}{b:Nat}{es:Array MapEntry}{clk:Nat}{l:List (Int×Value)}
theorem nf (hT:MTy P t kt et z)(hb:w.heap[b]?=some (.map es clk))(hm:jf l es clk)(k:Int) :
  ∃ es' clk' st j l',(Instr.mapEntry t (.map<|some b)<|vi k).run P w = .ok (.tuple #[(dF l k).getD z,vi st]) { w with heap:=w.heap.setIfInBounds b (.map es' clk') }∧jf l' es' clk'∧(∃ e,es'[j]?=some e∧(e.born:Int)=st)∧(∃ u,l'[j]?=some (k,u))∧∀ u,dS l k u=l'.set j (k,u):=by
 have hf:=gh k es.toList l 0 hm.1;have h1:=MapKept.run_findKey (w:=w) hT.key hf;have h2:=MapKept.run_checkKey (P:=P) (w:=w) hT.key (k:=vi k) rfl false 9999;have hlen:es.toList.length=l.length:=by have:=ze2 List.length hm.1; simpa using this
 have hsz:es.size=l.length:=by simpa using hlen
 rcases nd k l 0 with ⟨hn,hne⟩ | ⟨j,u,hs,hj,hput⟩
 ·refine⟨es.push { key:=vi k,val:=z,born:=clk },clk+1,clk,l.length,l++[(k,z)],?_,⟨?_,?_⟩,?_,?_,?_⟩
  ·have hg:dF l k=none:=by unfold dF; rw[hn]; rfl
   rw[hn] at h1;rw[hg];simp[Instr.mapEntry,run_underlying hT.und,MapKept.run_getObj_map hb,h2,h1,hT.zero w,MapKept.run_setObj_map _ hb,goInt]
  ·simp[hm.1,ju,er]
  ·refine stamped_push hm.2 ?_;intro x hx e;have:ju x∈l.map er:=by rw[← hm.1]; exact zf2.2 ⟨x,hx,I⟩
   obtain ⟨p,hp,hpe⟩:=zf2.1 this;simp only[er,ju,Prod.mk.injEq] at hpe;refine hne p hp ?_;rw[e] at hpe;simpa using hpe.1
  ·refine⟨{ key:=vi k,val:=z,born:=clk },?_,I⟩;rw[← hsz];simp
  ·exact⟨z,by simp⟩
  ·intro u;rw[gp k u l hne];simp
 ·have hjl:j<es.toList.length:=by rw[hlen]; exact (zf5.1 hj).1
  have hkey:(es.toList[j]).key=vi k:=by
   have h3:=ze2 (·[j]?) hm.1;simp only[zh9,hj,Option.map_some,gE hjl,zg7,ju,er,Prod.mk.injEq] at h3;exact h3.1
  have hje:es[j]?=some es.toList[j]:=by simp at hjl; simp[hjl]
  have hg:dF l k=some u:=by unfold dF; rw[hs]; rfl
  rw[hs,Nat.zero_add] at h1;have hkey':∀ h:j<es.size,es[j].key=vi k:=fun h=>by simpa using hkey
  refine⟨es.modify j fun e=>{ e with key:=vi k },clk,(es.toList[j].born:Nat),j,l,?_,⟨?_,?_⟩,?_,⟨u,hj⟩,hput⟩
  ·have h4:=MapKept.run_keyThatStays (P:=P) (w:=w) (d:=.int .i64) (k:=vi k) rfl;rw[hg];simp[Instr.mapEntry,run_underlying hT.und,MapKept.run_getObj_map hb,h2,h1,hje,hkey',h4,MapKept.run_setObj_map _ hb,goInt]
  ·apply List.ext_getElem?;intro q;have h3:=ze2 (·[q]?) hm.1;simp only[zh9] at h3;rw[zh9,zh9,Array.toList_modify,List.getElem?_modify];by_cases hq:j=q
   ·subst hq;rw[← h3];simp only[gE hjl,if_true,Option.map_some,ju];rw[hkey];rfl
   ·simp only[hq,if_false];simpa using h3
  ·exact stamped_modify hm.2 _ _ (fun _ _=>I) (fun e' _ he'=>by
    rw[hje] at he';injection he' with he'
    rw[← he',hkey])
  ·refine⟨{ es.toList[j] with key:=vi k },?_,I⟩;rw[Array.getElem?_modify,zg1 rfl,hje];rfl
theorem lG (hb:w.heap[b]?=some (.map es clk))(hm:jf l es clk){j:Nat}{e:MapEntry}(he:es[j]?=some e){k:Int}(hk:∃ u,l[j]?=some (k,u))(v:Value) :
  ∃ es' clk',(Instr.entryStore t (.map<|some b) (vi (e.born:Int)) v).run P w = .ok () { w with heap:=w.heap.setIfInBounds b (.map es' clk') }∧jf (l.set j (k,v)) es' clk':=by
 obtain ⟨u,hu⟩:=hk;have hlen:es.toList.length=l.length:=by have:=ze2 List.length hm.1; simpa using this
 obtain ⟨hj,hje⟩:=Array.getElem?_eq_some_iff.1 he;have hidx:es.findIdx? (fun x=>(x.born:Int) == (e.born:Int))=some j:=by
  rw[Array.findIdx?_eq_some_iff_getElem];refine⟨hj,by rw[hje]; simp,fun i hi h=>?_⟩;have hnd:=hm.2.2.1;have h5:(es[i]'oM).born=es[j].born:=by
   have h':(((es[i]'oM).born:Nat):Int)=(e.born:Int):=by simpa using h
   rw[hje];omega
  have h6:(es.toList.map (·.born))[i]'(by simp; omega)=(es.toList.map (·.born))[j]'(by simp; omega):=by simpa using h5
  have:=(List.getElem_inj hnd).1 h6;omega
 refine⟨es.modify j fun x=>{ x with val:=v },clk,?_,?_,?_⟩
 ·simp[Instr.entryStore,MapKept.run_getObj_map hb,asInt,asIntOf,hidx,MapKept.run_setObj_map _ hb]
 ·apply List.ext_getElem?;intro q;have h3:=ze2 (·[q]?) hm.1;simp only[zh9] at h3;rw[zh9,zh9,List.getElem?_set,Array.toList_modify,List.getElem?_modify];by_cases hq:j=q
  ·subst hq;have hjl:j<l.length:=(zf5.1 hu).1;have hjt:j<es.toList.length:=oM;rw[hu,gE hjt] at h3;simp only[Option.map_some,zg7,ju,er,Prod.mk.injEq] at h3;simp only[gE hjt,if_true,hjl,Option.map_some,er];show some (es.toList[j].key,v)=some (vi k,v);rw[h3.1]
  ·simp only[hq,if_false];simpa using h3
 ·exact stamped_modify hm.2 _ _ (fun _ _=>I) (fun e' _ he'=>I)
end
section
variable {P:Program}{N:Nat}{E:World}{f:Fr}{g:PH}{s:Own}{dst:Option Tmp}{ty:TypeId}{pos:String}{af:Array Edge}{gd:Option (Nat×Bool)}
variable {t kt et:TypeId}{z:Value}{b:Nat}{l:List (Int×Value)}{x y u:Operand}{k:Int}{v:Value}
theorem SO.mapEntry (i:Nat)(hT:MTy P t kt et z)(hx:ev f x=some (.map<|some b))(hy:ev f y=some (vi k))(hi:s[i]?=some (mp b l)) :
  SO P N E ⟨dst,.mapEntry t x y,ty,pos,af,gd⟩ f g s fun v' g' s'=>∃ st j l',v' = .tuple #[(dF l k).getD z,vi st]∧g=g'∧s'=s.set i (mpE b l' j st)∧(∃ u,l'[j]?=some (k,u))∧∀ u,dS l k u=l'.set j (k,u) :=
 SO.of_run fun a w ha hw=>by
  obtain ⟨es,clk,h1,h2⟩:=hw.own _<|zg2 hi;have hb:w.heap[b]?=some (.map es clk):=by simpa [mp] using h1
  obtain ⟨es',clk',st,j,l',hr,hm',he,hk,hp⟩:=nf hT hb h2 k;have hfr:=hw.fresh _ (zg2 hi) b rfl;obtain ⟨e1,e2⟩:=MapKept.heap_set (o':=.map es' clk') hb;refine⟨_,_,g,s.set i<|mpE b l' j st,by simp[execOp,ha.ev hx,ha.ev hy,hr]; rfl,?_,st,j,l',rfl,rfl,rfl,hk,hp⟩;refine hw.turn hi I ⟨I,(by exact lR _)⟩ I (by simp) (fun q _ hne=>e2 q<|fun e=>hne<|by simp[mp,e]) ⟨es',clk',by simpa [mpE] using e1,hm',he⟩ (fun b' hb'=>?_);simp only[mpE,zg7] at hb';subst hb';exact⟨by simpa using hfr.2,.inl I⟩
theorem SO.entryStore {j:Nat}{st:Int}(i:Nat)(hx:ev f x=some (.map<|some b))(hy:ev f y=some (vi st))(hu:ev f u=some v)(hi:s[i]?=some (mpE b l j st))(hk:∃ u,l[j]?=some (k,u)) :
  SO P N E ⟨dst,.entryStore t x y u,ty,pos,af,gd⟩ f g s fun _ g' s'=>g=g'∧s'=s.set i (mp b<|l.set j (k,v)) :=
 SO.of_skip fun a w ha hw=>by
  obtain ⟨es,clk,h1,h2,e,he,hst⟩:=hw.own _<|zg2 hi;have hb:w.heap[b]?=some (.map es clk):=by simpa [mpE] using h1
  subst hst;obtain ⟨es',clk',hr,hm'⟩:=lG (P:=P) (t:=t) hb h2 he hk v;have hfr:=hw.fresh _ (zg2 hi) b rfl;obtain ⟨e1,e2⟩:=MapKept.heap_set (o':=.map es' clk') hb;refine⟨_,g,s.set i<|mp b<|l.set j (k,v),by simp[execOp,ha.ev hx,ha.ev hy,ha.ev hu,hr]; rfl,?_,rfl,rfl⟩;refine hw.turn hi I ⟨I,(by exact lR _)⟩ I (by simp) (fun q _ hne=>e2 q<|fun e=>hne<|by simp[mpE,e]) ⟨es',clk',by simpa [mp] using e1,hm'⟩ (fun b' hb'=>?_);simp only[mp,zg7] at hb';subst hb';exact⟨by simpa using hfr.2,.inl I⟩
end
end Go.Sy
namespace Go.Sy
open Go
def CH (P:Program)(E:World)(gf:FuncId)(lb:List Value){α:Type}(encs:α→List Value)(xs:List α)(g0:PH):Prop :=
 ∀ (l:Nat) (ι:Type) (G:ι→PH) (S:ι→Own) (J:List α→ι→Prop) (i0:ι),J [] i0→(∀ pre i,J pre i→Le g0 (G i))→(∀ pre i g',J pre i→Le (G i) g'→∃ i',J pre i'∧G i'=g'∧S i'=S i) →
  (∀ pre x suf i sx,xs=pre++x::suf→J pre i→yy P E l (encs x).toArray (G i) (S i++sx) (fun v g' s'=>v = .bool true∧∃ j,J (pre++[x]) j∧Le (G i) (G j)∧g'=G j∧s'=S j++sx)) →
  ∀ sx,Ctr P E gf (.func (.yield l) #[] #[]::lb).toArray (G i0) (S i0++sx) (fun _ g' s'=>∃ j,J xs j∧g'=G j∧s'=S j++sx)
section
variable {P:Program}{M:Md}{N:Nat}{E:World}{Q:Exit→Act→World→Prop}{f:Fr}{g:PH}{s:Own}{dst:Option Tmp}{ty:TypeId}{pos:String}{af:Array Edge}{gd:Option (Nat×Bool)}
def tD {α ι:Type}(E:World)(G:ι→PH)(S:ι→Own)(J:List α→ι→Prop)(pre:List α)(x:α)(g:PH)(sx:Own):Exit→Act→World→Prop:=fun e _ w'=>e = .normal∧∃ j,At E (G j) (S j++sx) w'∧J (pre++[x]) j∧Le g (G j)
theorem XT.roundEnd2 {α ι:Type}{G:ι→PH}{S:ι→Own}{J:List α→ι→Prop}{pre:List α}{x:α}{g1:PH}{sx:Own}(j:ι)(hg:G j=g)(hs:S j++sx=s)(hj:J (pre++[x]) j)(hl:Le g1 (G j)):XT M N E (tD E G S J pre x g1 sx) .normal f g s:=fun _ _ _ hw=>⟨rfl,j,by rw[hg,hs]; exact hw,hj,hl⟩
theorem XC.rangeFuncB {α ι κ:Type}{gop:Operand}{ps:Array Tmp}{assign body:Code}{gf:FuncId}{lb:List Value}{encs:α→List Value}{xs:List α}{g0:PH}(G:ι→PH)(S:ι→Own)(J:List α→ι→Prop)(i0:ι)(sx0:Own)(fa:α→Fr)(fb:List α→α→ι→κ→Fr)(X:α→κ→Own)
  (hro:M.ro=none) (hg:ev f gop=some (.func (.func gf) #[] lb.toArray)) (eg:∀ args w,(callFunc gf args).run P w = .ok (.enter gf args) w) (hps:∀ x,(encs x).length=ps.size)
  (hG:G i0=g) (hS:S i0++sx0=s) (hseq:CH P E gf lb encs xs g0) (hmono:∀ pre i,J pre i→Le g0 (G i)) (hup:∀ pre i g',J pre i→Le (G i) g'→∃ i',J pre i'∧G i'=g'∧S i'=S i) (h0:J [] i0)
  (hfa:∀ x a,Ok N f (kY a)→Ok N (fa x) { tmps:=(ps.zip (encs x).toArray).foldl (fun t (p,v)=>t.setIfInBounds p v) a.tmps,defers:=[] })
  (hassign:∀ l pre x i sx,J pre i→XC P ⟨some l,[]⟩ N E assign (qO (N:=N) E (G i) (S i++sx) (fb pre x i)<|X x) (fa x) (G i) (S i++sx))
  (hbody:∀ l pre x suf i sx q,(∃ (r:Loop) (k:Nat),sx[k]?=some (pt l<|.loop r))→xs=pre++x::suf→J pre i→XC P ⟨some l,[]⟩ N E body (tD E G S J pre x (G i) sx) (fb pre x i q) (G i) (X x q++(S i++sx)))
  (hdone:∀ D j,J xs j→XT ⟨none,⟨.collected D,#[]⟩::M.ds⟩ N E Q .normal f (G j) (pt D (.deferred<|some [])::(S j++sx0))):XC P M N E (.rangeFunc gop ps assign body) Q f g s:=by
 subst hG hS;intro a w ha hw;rw[hro];refine wpIn_rangeFunc ?_;intro fn _;obtain ⟨rec,hrec⟩:∃ rec:LoopState→Option Code→Loop,rec=fun st pe=>{ state:=st,pending:=pe,fn,tmps:=a.tmps,params:=ps,assign,body,defers:=w.heap.size }:=⟨_,rfl⟩;obtain ⟨L,hL⟩:∃ L,L=w.heap.size+1:=⟨_,rfl⟩;obtain ⟨D,hD⟩:∃ D,D=w.heap.size:=⟨_,rfl⟩;obtain ⟨W1,hW1⟩:∃ W1,(w.alloc<|.deferred<|some []).alloc (.loop<|rec .ready none)=W1:=⟨_,rfl⟩;have hA:At E (G i0) (pt L (.loop<|rec .ready none)::pt D (.deferred<|some [])::(S i0++sx0)) W1:=by
  rw[← hW1,hL,hD];have h1:At E (G i0) (pt w.heap.size (.deferred<|some [])::(S i0++sx0)) (w.alloc<|.deferred<|some []):=hw.alloc (e:=pt w.heap.size<|.deferred<|some []) rfl rfl;have h2:=h1.alloc (e:=pt (w.alloc<|.deferred<|some []).heap.size<|.loop<|rec .ready none) rfl rfl;rw[World.size_alloc] at h2;exact h2
 obtain ⟨S2,hS2⟩:∃ S2:ι→Own,S2=fun i=>S i++(pt L (.loop<|rec .ready none)::pt D (.deferred<|some [])::sx0):=⟨_,rfl⟩;have hA2:At E (G i0) (S2 i0++[]) W1:=by
  rw[hS2,zc6];dsimp only;refine hA.perm ?_;have h1:(pt L (.loop<|rec .ready none)::pt D (.deferred<|some [])::(S i0++sx0))=[pt L<|.loop<|rec .ready none,pt D<|.deferred<|some []]++(S i0++sx0):=rfl;have h2:S i0++(pt L (.loop<|rec .ready none)::pt D (.deferred<|some [])::sx0)=S i0++([pt L<|.loop<|rec .ready none,pt D<|.deferred<|some []]++sx0):=rfl;rw[h1,h2,← zg8,← zg8];exact List.perm_append_comm.append_right _
 refine⟨L,[{ target:=.collected D,args:=#[] }],W1,{ target:=.fn (.func gf) lb.toArray,args:=#[.func (.yield L) #[] #[]] },W1,gf,(.func (.yield L) #[] #[]::lb).toArray,W1,?_,?_,fun _ _=>trivial,?_,fun h=>(by cases h),?_⟩
 ·rw[← hW1,hrec,hL,hD]; exact run_enterLoop_outer _ _ _ _ _
 ·have h1:a.eval gop = .func (.func gf) #[] lb.toArray:=ha.ev hg;simp only[resolve,h1];simp[go_sem]
 ·have:(#[.func (.yield L) #[] #[]]++lb.toArray:Array Value)=(.func (.yield L) #[] #[]::lb).toArray:=by simp
  simp[invoke,go_sem,eg]
 ·refine (callsIn_wide (n:=0 - 1)).2<|(hseq L ι G S2 J i0 h0 hmono (fun pre i g' hJ hl=>by obtain ⟨i',a1,a2,a3⟩:=hup pre i g' hJ hl; exact⟨i',a1,a2,by rw[hS2]; dsimp only; rw[a3]⟩) ?_ [] W1 hA2).mono ?_
  ·intro pre x suf i sx hxs hJ W hW;rw[hS2] at hW;simp only[zg8,List.cons_append] at hW;have hlen:(S i).length=(S i).length:=rfl;have gl:∀ (i:ι) (u u':Ent) (r:Own),(S i++u::u'::r)[(S i).length]?=some u:=fun i u u' r=>by simp
   have hl:=hW.here<|gl i _ _ _;have hy:=run_yield (P:=P) (args:=(encs x).toArray) hl (by rw[hrec]; simpa using hps x);rw[hrec] at hy;refine⟨fn,_,assign,body,hy,roundIn_of_wpIn trivial ?_⟩;refine Code.wpIn_mono (fun e a1 w1 h1=>?_)<|hassign L pre x i _ hJ { tmps:=(ps.zip (encs x).toArray).foldl (fun t (p,v)=>t.setIfInBounds p v) a.tmps,defers:=[] } W ⟨I,hfa x a ha.2⟩ hW;obtain ⟨rfl,q,ha1,hw1⟩:=h1;have glX:∀ (X:Own) (i:ι) (u u':Ent) (r:Own),(X++(S i++u::u'::r))[X.length+(S i).length]?=some u:=fun X i u u' r=>by rw[zh3 oM,Nat.add_sub_cancel_left]; exact gl i u u' r
   have hl1:=hw1.here<|glX _ i _ _ _;refine⟨_,run_beginRound hl1 (by rw[hrec]),?_⟩;have hset:∀ (i:ι) (u u' v:Ent) (r:Own),(S i++u::u'::r).set (S i).length v=S i++v::u'::r:=fun i u u' v r=>by simp
   have hsetX:∀ (X:Own) (i:ι) (u u' v:Ent) (r:Own),(X++(S i++u::u'::r)).set (X.length+(S i).length) v=X++(S i++v::u'::r):=fun X i u u' v r=>by rw[List.set_append_right _ _ oM,Nat.add_sub_cancel_left,hset]
   have hw2:=hw1.obj (o':=.loop { rec .ready none with state:=.busy })<|glX _ i _ _ _;rw[hsetX] at hw2;refine Code.wpIn_mono (fun e a3 w3 h3=>?_)<|hbody L pre x suf i _ q ⟨_,0,I⟩ hxs hJ a1 _ ha1 hw2;obtain ⟨rfl,j,hw3,hJ3,hL3⟩:=h3;have hl3:=hw3.here<|gl j _ _ _;have he:=run_endRound (P:=P) none hl3;have hw4:=hw3.obj (o':=.loop { (rec .ready none) with state:=.ready,pending:=none })<|gl j _ _ _;rw[hset] at hw4;refine⟨_,_,he,.bool true,G j,S2 j++sx,I,?_,I,j,hJ3,hL3,I,I⟩;rw[hS2];simp only[zg8,List.cons_append];rw[hrec] at hw4 ⊢;exact hw4
  ·rintro e W2 ⟨v,g',s',rfl,hat,j,hJ,rfl,rfl⟩;rw[hS2,zc6] at hat;have gl:∀ (i:ι) (u u':Ent) (r:Own),(S i++u::u'::r)[(S i).length]?=some u:=fun i u u' r=>by simp
   have hl:=hat.here<|gl j _ _ _;have he:=run_endLoop (P:=P) hl (by rw[hrec]; simp);have h2:=hat.obj (o':=.loop { (rec .ready none) with state:=.exhausted })<|gl j _ _ _;have hset:∀ (i:ι) (u u' v:Ent) (r:Own),(S i++u::u'::r).set (S i).length v=S i++v::u'::r:=fun i u u' v r=>by simp
   rw[hset] at h2;have hpn:(rec .ready none).pending=none:=by rw[hrec]
   refine⟨none,_,he.trans<|ze2 (fun p=>Result.ok p _) hpn,?_⟩;refine hdone D j hJ _ _ ⟨by rw[← ha.1]; rfl,ha.2⟩ ?_;have h3:=(h2.sublist (s':=S j++pt D (.deferred<|some [])::sx0)<|by exact (zc3 _).append<|zj1 _ _).perm zk2;exact h3
end
end Go.Sy
namespace Go.Proofs.YtmmghffoakhheaaGreatDoor
open _root_.Go.Proofs.Tryz _root_.Go.Proofs.YtmmghffoakhheaaGreatDoor.Tryz
open Go Go.Sy Go.Pl Go.Proofs
set_option maxRecDepth 100000
set_option maxHeartbeats 1000000
theorem rV (E:World)(g:PH)(s:Own)(v:Value)(l:List Int)(x:Int)(hv:dJ g v l)(hl:l.length<1099511627776) :
  Ctr Tryz.prog E 98 #[v,vi x] g s (fun r g' s'=>(∃ n:Int,r=vi n∧decide (n≥0)=l.contains x)∧g=g'∧s=s'):=by
 obtain ⟨p,c,rfl⟩:=za3 hv;refine zb1 (args:=[.slice p l.length c,vi x]) func98 I ntmps98 (bE I)<|rZ<|aT I<|sQ<|sW I<|lU (eN aG I)<|lM I<|tZ<|bK<|SC.loop (ι:=Nat) (fun k=>[(0,.slice p l.length c),(1,vi x),(7,vi l.length),(8,vi k)]) (fun _=>g) (fun _=>s) (fun k=>k≤l.length∧x ∉ l.take k) (fun k=>l.length - k) 0 sB I I ⟨zf6 _,by simp⟩ ?_;rintro k ⟨hk,hno⟩;refine rZ<|yL I<|tZ<|sQ ?_;refine iP I (fun hlt=>?_) (fun hlt=>?_)
 ·have hkl:k<l.length:=oM;have hb1:=za5 hv oM;have hgx:l[((k:Nat):Int).toNat]?=some l[k]:=gE hkl;refine kP<|tN<|sQ<|bK<|sW I<|aT I<|sW I<|lM I<|lM I<|lU (iA aG zT3 I I hb1 oM sL)<|lK (eB iT3 I (za6 hv) hgx I)<|yE I<|tZ<|iP I (fun he=>?_) (fun he=>?_)
  ·refine sW I<|aT I<|rE<|bR<|tR<|tR<|bR<|tR ?_;have hm:l.contains x=true:=by rw[List.contains_iff_mem,he]; exact gM hkl
   exact za7 (.inl I) results98 I ⟨⟨k,I,by rw[hm]; simp⟩,I,I⟩
  ·exact kP<|bN<|tN<|rG<|yD I<|lM I<|nL<|ST.again (k+1) sB I I ⟨oM,by rw[tS hkl,zf3]; rintro (h | h); exact hno h; simp at h; exact he h⟩ oM
 ·have hkk:l.take k=l:=tL oM;rw[hkk] at hno;refine xI<|tX<|tX<|bX<|tN<|rZ<|aT I<|rE ?_;have hm:l.contains x=false:=by rw[← zj7,List.contains_iff_mem]; exact hno
  exact za7 (.inl I) results98 I ⟨⟨-1,I,by rw[hm]; rfl⟩,rfl,rfl⟩
theorem jw (E:World)(g:PH)(s:Own)(v:Value)(l:List Int)(x:Int)(hv:dJ g v l)(hl:l.length<1099511627776) :
  Ctr Tryz.prog E 63 #[v,vi x] g s (fun r g' s'=>r=vb (l.contains x)∧g=g'∧s=s'):=by
 refine zb1 (args:=[v,vi x]) func63 I ntmps63 (bE I)<|rZ<|aT I<|sW I<|lM I<|lW (SO.call call98 I<|rV E g _ v l x hv hl) ?_;rintro _ _ _ ⟨⟨n,rfl,hn⟩,rfl,rfl⟩;exact lU (gQ I I)<|aT I<|rE<|za7 (.inl I) results63 I ⟨by rw[hn],I,I⟩
theorem tb {p:Pr}{H:Int→Option Int}{rc:Pr→List Int→Bool×List Int}(hrc:∀ y v,∀ z∈v,z∈(rc y v).2){x:Pr}:∀ (q v:List Int),∀ z∈v,z∈(dM p H rc x q v).2
 | [],_,_,hz=>hz
 | low::r,v,z,hz=>by
  have ih:=tb (p:=p) (H:=H) hrc (x:=x) r;unfold dM;split
  ·exact ih v z hz
  ·split
   ·exact hz
   ·cases H low with
    | none=>exact ih v z hz
    | some nx =>
     dsimp only;split
     ·exact ih v z hz
     ·have h1:=hrc (low,nx) (v++[nx]) z (by simp[hz]);split
      ·exact h1
      ·exact ih _ z h1
theorem p8 (p:Pr)(S:Int→List Int)(H:Int→Option Int):∀ (n:Nat) (x:Pr) (v:List Int),∀ z∈v,z∈(bH p S H n x v).2
 | 0,_,_,_,hz=>hz
 | n+1,x,v,z,hz=>tb (fun y w z hz=>p8 p S H n y w z hz) (S x.2) v z hz
def vU (g:PH)(m:List (Int×Value))(S:Int→List Int):Prop:=∀ k,∃ v,(dF m k).getD (.slice none 0 0)=v∧dJ g v (S k)∧(S k).length<1099511627776
theorem vU.mono {g g':PH}{m:List (Int×Value)}{S:Int→List Int}(h:vU g m S)(hl:Le g g'):vU g' m S:=fun k=>by
 obtain ⟨v,h1,h2,h3⟩:=h k;exact⟨v,h1,za4 h2 hl,h3⟩
def HiM (m:List (Int×Value))(T:List Pr):Prop:=∀ k,dF m k=(aK T k).map vi
theorem k4 {α:Type}{s:List α}{i j:Nat}{a b:α}(h:i≠j)(hj:s[j]?=some b):(s.set i a)[j]?=some b:=by
 rw[List.getElem?_set,zf9 h];exact hj
theorem Ee (E:World)(g:PH)(bT bp bs bf bt m ms mh:Nat)(p:Pr)(S:Int→List Int)(sm hm:List (Int×Value))(T:List Pr)(r:Bool)(mu:Value)(tv:Value)
  (h2:g bT=some (.cells #[pp bt 0] 66 (0,0))) (h3:g bp=some (.cells #[vi p.1,vi p.2] 44 (0,0))) (h4:g bs=some (.cells #[.map<|some m] 71 (0,0)))
  (h5:g bf=some (.cells #[.func (.func 99) #[] #[pp bT 0,pp bp 0,pp bs 0,pp bf 0]] 105 (0,0)))
  (hsm:Mp g ms sm) (hS:vU g sm S) (hH:HiM hm T):∀ (n:Nat) (x:Pr) (seen:List Int) (s:Own) (i j k:Nat),lJ T seen<n→i≠j→i≠k→s[i]?=some (mp m<|mT seen)→s[j]?=some (pt bt<|.cells #[vb r,.map<|some ms,.map<|some mh,mu,tv] 73 (0,0))→s[k]?=some (mp mh hm) →
  Ctr Tryz.prog E 99 #[vi x.2,vi x.1,pp bT 0,pp bp 0,pp bs 0,pp bf 0] g s (fun y g' s'=>y=vb (bH p S (aK T) n x seen).1∧g=g'∧s'=s.set i (mp m<|mT (bH p S (aK T) n x seen).2)):=by
 intro n;induction n with
 | zero=>intro x seen s i j k h; omega
 | succ n ih =>
 intro x seen s i j k hcnt hij hik hi hj hk;obtain ⟨v,hv1,hv2,hvl⟩:=hS x.2;have hr:bH p S (aK T) (n+1) x seen=dM p (aK T) (bH p S (aK T) n) x (S x.2) seen:=rfl;rw[hr];generalize S x.2=L at *;obtain ⟨q,c,rfl⟩:=za3 hv2;refine zb1 (args:=[vi x.2,vi x.1,pp bT 0,pp bp 0,pp bs 0,pp bf 0]) func99 I ntmps99 (bE I)<|rZ<|aT I<|sQ<|rZ<|lK (qL (v:=pp bt 0) isAgg66 I<|cK h2 I)<|lU (nC I)<|lU (fA ke I sizeOf69 I)<|lK (qL (v:=.map<|some ms) isAgg69 I<|cO j hj I)<|lM I<|lK (SQ.eq (SQ.lookup mty69 I I<|bo.known hsm) hv1)<|lU (eN aG I)<|lM I<|tZ<|bK<|SC.loop (ι:=Nat×List Int) (fun z=>[(1,vi x.1),(2,pp bT 0),(3,pp bp 0),(4,pp bs 0),(5,pp bf 0),(18,.slice q L.length c),(19,vi L.length),(20,vi z.1)]) (fun _=>g) (fun z=>s.set i<|mp m<|mT z.2)
  (fun z=>z.1≤L.length∧lJ T z.2<n+1∧dM p (aK T) (bH p S (aK T) n) x L seen=dM p (aK T) (bH p S (aK T) n) x (L.drop z.1) z.2) (fun z=>L.length - z.1) (0,seen)
  sB rfl (m6 hi) ⟨zf6 _,hcnt,rfl⟩ ?_
 rintro ⟨a,w⟩ ⟨ha,hcw,heq⟩;dsimp only at ha hcw heq ⊢;have hi':=qQ hi<|mp m<|mT w;have hj':=k4 (a:=mp m<|mT w) hij hj;have hk':=k4 (a:=mp m<|mT w) hik hk;refine rZ<|yL I<|tZ<|sQ<|iP I (fun hlt=>?_) (fun hlt=>?_)
 ·have hal:a<L.length:=oM;have hb1:=za5 hv2 oM;have hgx:L[((a:Nat):Int).toNat]?=some L[a]:=gE hal;have hdr:L.drop a=L[a]::L.drop (a+1):=(List.getElem_cons_drop hal).symm;rw[hdr] at heq;generalize L[a]=low at *;have hkey:=hH low;rw[heq];refine kP<|tN<|sQ<|bK<|rZ<|lU (iA aG zT3 I I hb1 oM sL)<|lK (eB iT3 I (za6 hv2) hgx I)<|aT I<|rZ<|lK (qL (v:=pp bt 0) isAgg66 I<|cK h2 I)<|lU (nC I)<|lU (fA ke I sizeOf70 I)<|lK (qL (v:=.map<|some mh) isAgg70 I<|cO j hj' I)<|lM I<|lK (SQ.eq (v':=.tuple #[((aK T low).map vi).getD<|vi 0,vb (aK T low).isSome]) (SQ.lookupOk mty70 I I<|bo.own k hk') (by rw[hkey]; cases aK T low <;> rfl)) ?_;refine lM I<|yX I<|yX I<|lA I<|aT I<|sQ<|bK<|sW I<|lM I<|yE I<|aT I<|iP I (fun hw=>?_) (fun hw=>?_)
  ·have hstep:dM p (aK T) (bH p S (aK T) n) x (low::L.drop (a+1)) w=dM p (aK T) (bH p S (aK T) n) x (L.drop<|a+1) w:=by
    rw[dM,zg1 hw]
   exact xI<|ST.blockO dC<|tX<|bX<|tN<|rG<|yD I<|lM I<|nL<|ST.again (a+1,w) sB I I ⟨by dsimp only; omega,hcw,by dsimp only; rw[← hstep]⟩ (by dsimp only; omega)
  ·refine sW I<|lU (iB cN zT3 I I dC dC)<|lK (qL (v:=vi p.1) iT3 I<|cK h3 I)<|yE I<|aT I<|iP I (fun hp=>?_) (fun hp=>?_)
   ·have hstep:dM p (aK T) (bH p S (aK T) n) x (low::L.drop (a+1)) w=(true,w):=by
     rw[dM,zf9 hw,zg1 hp]
    exact rZ<|aT I<|rE<|bR<|tR<|bR<|tR<|tR<|bR<|tR<|za7 (.inl I) results99 I ⟨by rw[hstep],I,by rw[hstep]⟩
   ·cases hh:aK T low with
    | none =>
     have hstep:dM p (aK T) (bH p S (aK T) n) x (low::L.drop (a+1)) w=dM p (aK T) (bH p S (aK T) n) x (L.drop<|a+1) w:=by
      rw[dM,zf9 hw,zf9 hp,hh]
     exact sW I<|lU (SU.not I)<|lM I<|yA I<|yA I<|yA I<|yP I<|aT I<|za1 I<|xI<|ST.blockO dC<|tX<|bX<|tN<|rG<|yD I<|lM I<|nL<|ST.again (a+1,w) sB I I ⟨by dsimp only; omega,hcw,by dsimp only; rw[← hstep]⟩ (by dsimp only; omega)
    | some nx =>
     refine sW I<|lU (SU.not I)<|lM I<|SL.gq (gT I I I dC) (qL (v:=.map<|some m) isAgg71 I<|cK h4 I) dC<|yC I<|SL.gq (gT I I I dC) (SQ.eq (v':=vb<|w.contains nx) (SQ.lookup mty71 I I<|bo.own i hi')<|(wl w).get nx) dC<|yF I<|aT I<|iQ I (fun hin=>?_) (fun hin=>?_)
     ·have hstep:dM p (aK T) (bH p S (aK T) n) x (low::L.drop (a+1)) w=dM p (aK T) (bH p S (aK T) n) x (L.drop<|a+1) w:=by
       rw[dM,zf9 hw,zf9 hp,hh];dsimp only;rw[zg1 hin]
      exact xI<|ST.blockO dC<|tX<|bX<|tN<|rG<|yD I<|lM I<|nL<|ST.again (a+1,w) sB I I ⟨by dsimp only; omega,hcw,by dsimp only; rw[← hstep]⟩ (by dsimp only; omega)
     ·have hcn:lJ T (w++[nx])<n:=by
       have:=uu (T:=T) (q:=(low,nx)) (ix hh) (v:=w) hin;dsimp only at this;omega
      have hstep:dM p (aK T) (bH p S (aK T) n) x (low::L.drop (a+1)) w=if (bH p S (aK T) n (low,nx)<|w++[nx]).1=true then (true,(bH p S (aK T) n (low,nx)<|w++[nx]).2) else dM p (aK T) (bH p S (aK T) n) x (L.drop<|a+1) (bH p S (aK T) n (low,nx)<|w++[nx]).2:=by
       rw[dM,zf9 hw,zf9 hp,hh];dsimp only;rw[zf9 (by rw[hin]; decide)]
      have hsub:=p8 p S (aK T) n (low,nx)<|w++[nx];have hcn2:lJ T (bH p S (aK T) n (low,nx)<|w++[nx]).2<n+1:=by
       have:=nM (T:=T) hsub;omega
      have hi2:=qQ hi<|mp m<|mT<|w++[nx];have hj2:=k4 (a:=mp m<|mT<|w++[nx]) hij hj;have hk2:=k4 (a:=mp m<|mT<|w++[nx]) hik hk;have hrec:=ih (low,nx) (w++[nx]) _ i j k hcn hij hik hi2 hj2 hk2;rw[hstep];generalize bH p S (aK T) n (low,nx) (w++[nx])=z at *;obtain ⟨zb,zs⟩:=z;dsimp only at hrec hcn2 hstep ⊢;refine kP<|bN<|tN<|rZ<|lK (qL (v:=.map<|some m) isAgg71 I<|cK h4 I)<|lM I<|lO (SO.mapUpdate i mty71 I I I hi') ?_;rintro _ _ _ ⟨rfl,rfl⟩;rw[wm hin,List.set_set];refine tZ<|rZ<|lK (qL isAgg105 I<|cK h5 I)<|lM I<|lM I<|lW (SO.callV I I<|cX.mk (cap:=[pp bT 0,pp bp 0,pp bs 0,pp bf 0]) call99 hrec) ?_;rintro _ _ _ ⟨rfl,rfl,rfl⟩;refine tZ<|iQ I (fun hz=>?_) (fun hz=>?_)
      ·subst hz;exact rZ<|aT I<|rE<|bR<|tR<|tR<|bR<|tR<|za7 (.inl I) results99 I ⟨I,I,by rw[List.set_set]; rfl⟩
      ·subst hz;exact kP<|bN<|tN<|rG<|yD I<|lM I<|nL<|ST.again (a+1,zs) sB I (by rw[List.set_set]) ⟨by dsimp only; omega,hcn2,by simp⟩ (by dsimp only; omega)
 ·have hdd:L.drop a=[]:=List.drop_eq_nil_of_le oM;rw[hdd] at heq;exact xI<|tX<|tX<|bX<|tN<|rZ<|aT I<|rE<|za7 (.inl I) results99 I ⟨by rw[heq]; rfl,rfl,by rw[heq]; rfl⟩
theorem se (E:World)(g:PH)(s:Own)(bt ms mh:Nat)(p:Pr)(S:Int→List Int)(sm hm:List (Int×Value))(T:List Pr)(r:Bool)(mu:Value)(tv:Value)(hsm:Mp g ms sm)(hS:vU g sm S)(hH:HiM hm T)(j k:Nat)
  (hj:s[j]?=some (pt bt<|.cells #[vb r,.map<|some ms,.map<|some mh,mu,tv] 73 (0,0))) (hk:s[k]?=some (mp mh hm)) :
  Ctr Tryz.prog E 64 #[pp bt 0,.agg #[vi p.1,vi p.2]] g s (fun y g' s'=>y=vb (bH p S (aK T) (T.length+1) p []).1∧s=s'∧Le g g'):=by
 refine zb1 (args:=[pp bt 0,.agg #[vi p.1,vi p.2]]) func64 I ntmps64 (bE I)<|rZ (bW (bO I) fun b2=>?_);refine bW (bO I) fun b3=>aT I<|rZ<|lW (SO.mkMap) ?_;rintro _ _ _ ⟨b7,rfl,rfl,rfl⟩;refine bW (aL zeroValue71) fun b5=>oZ (sK 0 sizeOf71 I I I I I sB)<|tZ (rZ<|bW (aL zeroValue105) fun b6=>?_);refine tZ<|rZ<|lU (SU.mkFunc I)<|oZ (sK 0 sizeOf105 I I I I I sB)<|tZ (sQ<|SC.freeze fun g1 hle1 h5=>?_);refine SC.freeze fun g2 hle2 h4=>?_;refine SC.to (fun w hw=>hw.perm<|(zk1 _ _ _).trans<|List.Perm.cons _<|zk1 _ _ _) ?_;refine SC.freeze fun g3 hle3 h3=>?_;refine SC.freeze fun g4 hle4 h2=>?_;have h5:=hle4 _ _<|hle3 _ _<|hle2 _ _ h5;have h4:=hle4 _ _<|hle3 _ _ h4;have h3:=hle4 _ _ h3;have hle:=hle1.trans<|hle2.trans<|hle3.trans hle4;refine rG<|lK (qL (v:=.func (.func 99) #[] #[pp b2 0,pp b3 0,pp b5 0,pp b6 0]) isAgg105 I<|cK h5 I)<|lU (iB cN zT3 I I dC dC)<|lK (qL (v:=vi p.2) iT3 I<|cK h3 I)<|lU (iB cN zT3 I I dC dC)<|lK (qL (v:=vi p.1) iT3 I<|cK h3 I)<|lW (SO.callV I I<|cX.mk (cap:=[pp b2 0,pp b3 0,pp b5 0,pp b6 0]) call99<|Ee E g4 b2 b3 b5 b6 bt b7 ms mh p S sm hm T r mu tv h2 h3 h4 h5 (hsm.mono hle) (hS.mono hle) hH (T.length+1) p [] (mp b7 []::s) 0 (j+1) (k+1) (Nat.lt_succ_of_le<|zc5 _ _) (Nat.succ_ne_zero _).symm (Nat.succ_ne_zero _).symm I hj hk) ?_;rintro _ _ _ ⟨rfl,rfl,rfl⟩;exact aT I<|rE<|dR (s':=s) uR<|za7 (.inl I) results64 I ⟨I,I,hle⟩
def UsM (m:List (Int×Value))(T:List Pr):Prop:=∀ k,(dF m k).getD (vb false)=vb (cq T k)
theorem w8 (T:List Pr)(p:Pr)(k:Int):cq (T++[p]) k=(cq T k||decide (p.1=k)||decide (p.2=k)):=by
 unfold cq;simp only[List.any_append,List.any_cons,List.any_nil,Bool.or_false];cases T.any (fun q=>decide (q.1=k))<;>cases T.any (fun q=>decide (q.2=k))<;>cases decide (p.1=k)<;>cases decide (p.2=k)<;>rfl
theorem UsM.snoc {m:List (Int×Value)}{T:List Pr}(h:UsM m T)(p:Pr):UsM (dS (dS m p.1<|vb true) p.2<|vb true) (T++[p]):=fun k=>by
 rw[iw,iw,w8];by_cases h2:k=p.2
 ·subst h2; simp
 ·by_cases h1:k=p.1
  ·subst h1; simp[h2]
  ·rw[zf9 h2,zf9 h1,h k,zf7 (fun e=>h1 e.symm),zf7 (fun e=>h2 e.symm),Bool.or_false,Bool.or_false]
theorem xO {T:List Pr}{k:Int}(h:cq T k=false):aK T k=none:=by
 cases hh:aK T k with
 | none=>rfl
 | some n =>
  have hm:=ix hh;unfold cq at h;rw[Bool.or_eq_false_iff] at h;have:=zk6.1 h.1 _ hm;simp at this
theorem xN (T:List Pr)(p:Pr)(k:Int):aK (T++[p]) k=(aK T k).or (if p.1=k then some p.2 else none):=by
 unfold aK;rw[List.find?_append];cases T.find? (fun q=>decide (q.1=k)) with
 | some q=>rfl
 | none =>
  by_cases e:p.1=k <;> simp[e]
theorem HiM.snoc {m:List (Int×Value)}{T:List Pr}(h:HiM m T){p:Pr}(hp:cq T p.1=false):HiM (dS m p.1<|vi p.2) (T++[p]):=fun k=>by
 rw[iw,xN];by_cases h1:k=p.1
 ·subst h1;rw[zg1 rfl,xO hp,zg1 rfl];rfl
 ·rw[zf9 h1,h k,zf9 (fun e=>h1 e.symm)];cases aK T k <;> rfl
theorem l6 (E:World)(g:PH)(s:Own)(bt ms mh mu:Nat)(p:Pr)(S:Int→List Int)(sm hm um:List (Int×Value))(T:List Pr)(r:Bool)(tv:Value)(hsm:Mp g ms sm)(hS:vU g sm S)(hH:HiM hm T)(hU:UsM um T)(hl:T.length<1099511627775) :
  Ctr Tryz.prog E 34 #[pp bt 0,.agg #[vi p.1,vi p.2]] g (pt bt (.cells #[vb r,.map<|some ms,.map<|some mh,.map<|some mu,tv] 73 (0,0))::mp mh hm::mp mu um::rowA ax 44 tv T::s)
   (fun _ g' s'=>Le g g'∧∃ hm' um' tv',s'=pt bt (.cells #[vb r,.map<|some ms,.map<|some mh,.map<|some mu,tv'] 73 (0,0))::mp mh hm'::mp mu um'::rowA ax 44 tv' (dA r S T p)::s∧HiM hm' (dA r S T p)∧UsM um' (dA r S T p)):=by
 obtain ⟨v,hv1,hv2,hvl⟩:=hS p.2;have htk:dA r S T p=if r && !cq T p.1 && !cq T p.2&&(S p.2).contains p.1 && !(bH p S (aK T) (T.length+1) p []).1 then T++[p] else T:=rfl
 have hno:(r && !cq T p.1 && !cq T p.2&&(S p.2).contains p.1 && !(bH p S (aK T) (T.length+1) p []).1)=false→dA r S T p=T:=fun h=>by rw[htk,h]; rfl
 refine zb1 (args:=[pp bt 0,.agg #[vi p.1,vi p.2]]) func34 I ntmps34 (bE I)<|rZ (bW (bO I) fun b3=>?_);refine tZ<|sQ ?_
 rcases Bool.eq_false_or_eq_true r with hr | hr
 rotate_left
 ·subst hr;have ht:=hno rfl;rw[ht];refine sQ<|dW [] [(0,2),(1,2),(2,2),(3,1),(4,2),(5,2),(6,2),(7,2),(8,2),(9,1),(10,2),(11,1),(12,1),(13,2),(14,2),(15,2),(16,2),(17,2),(18,1),(19,2),(20,1),(21,1),(22,2),(23,2),(24,2),(25,2),(26,2),(27,1),(28,2),(29,1),(30,1),(31,2),(32,1),(33,0),(34,2),(35,2),(36,2),(37,2),(38,1),(39,0),(40,2)] ze3 kR<|yM I<|pU I (nC I)<|pU I (fA ke I zT4 I)<|pK I (qL (v:=vb _) isAgg4 I<|cO 1 I I)<|pU I (SU.not I)<|yM I<|yG I<|yG I<|yG I<|yI I<|yG I<|yI I<|yI I<|pU I (wT I I)<|yM I<|yG I<|yG I<|yG I<|yI I<|yG I<|yI I<|yI I<|pU I (wT I I)<|yM I<|yG I<|yG I<|yG I<|yI I<|yG I<|yI I<|yI I<|yG I<|yI I<|fO I (gZ I I I dC) dC ⟨by exact zb8 _,(by exact .refl _)⟩ ?_;refine yG I<|pU I (wT I I)<|yM I<|yG I<|yI I<|fO I (gZ I I I dC) dC ⟨by exact zb8 _,(by exact .refl _)⟩ ?_;refine pU I (wT I I)<|pN<|tN<|za1 I<|rE<|tR<|dR (.cons _<|.refl _) ?_;exact ST.ret0 (.inl I) results34 ⟨zb8 _,hm,um,tv,I,hH,hU⟩
 subst hr
 rcases Bool.eq_false_or_eq_true (cq T p.1) with hx1 | hx1
 ·have ht:=hno (by rw[hx1]; rfl);rw[ht];refine sQ<|dW [] [(0,2),(1,2),(2,2),(3,1),(4,2),(5,2),(6,2),(7,2),(8,2),(9,1),(10,2),(11,1),(12,1),(13,2),(14,2),(15,2),(16,2),(17,2),(18,1),(19,2),(20,1),(21,1),(22,2),(23,2),(24,2),(25,2),(26,2),(27,1),(28,2),(29,1),(30,1),(31,2),(32,1),(33,0),(34,2),(35,2),(36,2),(37,2),(38,1),(39,0),(40,2)] ze3 kR<|yM I<|pU I (nC I)<|pU I (fA ke I zT4 I)<|pK I (qL (v:=vb _) isAgg4 I<|cO 1 I I)<|pU I (SU.not I)<|yM I<|yJ I<|zb2 I (gT I I I dC) (nC I) dC<|zb2 I (gT I I I dC) (fA ke I sizeOf71 I) dC<|SP.gq I (gT I I I dC) (qL (v:=.map<|some mu) isAgg71 I<|cO 1 I I) dC<|zb2 I (gT I I I dC) (iB cN zT3 I I dC dC) dC<|SP.gq I (gT I I I dC) (qL (v:=vi p.1) iT3 I<|cO 0 I I) dC<|SP.gq I (gT I I I dC) (SQ.eq (v':=vb true) (SQ.lookup mty71 I I<|bo.own 3 I)<|(hU p.1).trans<|ze2 vb hx1) dC<|pU I (wF I I)<|yM I<|yG I<|yG I<|yG I<|yI I<|yG I<|yI I<|yI I<|pU I (wT I I)<|yM I<|yG I<|yG I<|yG I<|yI I<|yG I<|yI I<|yI I<|yG I<|yI I<|fO I (gZ I I I dC) dC ⟨by exact zb8 _,(by exact .refl _)⟩ ?_;refine yG I<|pU I (wT I I)<|yM I<|yG I<|yI I<|fO I (gZ I I I dC) dC ⟨by exact zb8 _,(by exact .refl _)⟩ ?_;refine pU I (wT I I)<|pN<|tN<|za1 I<|rE<|tR<|dR (.cons _<|.refl _) ?_;exact ST.ret0 (.inl I) results34 ⟨zb8 _,hm,um,tv,I,hH,hU⟩
 rcases Bool.eq_false_or_eq_true (cq T p.2) with hx2 | hx2
 ·have ht:=hno (by rw[hx1,hx2]; rfl);rw[ht];refine sQ<|dW [] [(0,2),(1,2),(2,2),(3,1),(4,2),(5,2),(6,2),(7,2),(8,2),(9,1),(10,2),(11,1),(12,1),(13,2),(14,2),(15,2),(16,2),(17,2),(18,1),(19,2),(20,1),(21,1),(22,2),(23,2),(24,2),(25,2),(26,2),(27,1),(28,2),(29,1),(30,1),(31,2),(32,1),(33,0),(34,2),(35,2),(36,2),(37,2),(38,1),(39,0),(40,2)] ze3 kR<|yM I<|pU I (nC I)<|pU I (fA ke I zT4 I)<|pK I (qL (v:=vb _) isAgg4 I<|cO 1 I I)<|pU I (SU.not I)<|yM I<|yJ I<|zb2 I (gT I I I dC) (nC I) dC<|zb2 I (gT I I I dC) (fA ke I sizeOf71 I) dC<|SP.gq I (gT I I I dC) (qL (v:=.map<|some mu) isAgg71 I<|cO 1 I I) dC<|zb2 I (gT I I I dC) (iB cN zT3 I I dC dC) dC<|SP.gq I (gT I I I dC) (qL (v:=vi p.1) iT3 I<|cO 0 I I) dC<|SP.gq I (gT I I I dC) (SQ.eq (v':=vb false) (SQ.lookup mty71 I I<|bo.own 3 I)<|(hU p.1).trans<|ze2 vb hx1) dC<|pU I (wF I I)<|yM I<|yJ I<|zb2 I (gT I I I dC) (nC I) dC<|zb2 I (gT I I I dC) (fA ke I sizeOf71 I) dC<|SP.gq I (gT I I I dC) (qL (v:=.map<|some mu) isAgg71 I<|cO 1 I I) dC<|zb2 I (gT I I I dC) (iB cN zT3 I I dC dC) dC<|SP.gq I (gT I I I dC) (qL (v:=vi p.2) iT3 I<|cO 0 I I) dC<|SP.gq I (gT I I I dC) (SQ.eq (v':=vb true) (SQ.lookup mty71 I I<|bo.own 3 I)<|(hU p.2).trans<|ze2 vb hx2) dC<|pU I (wF I I)<|yM I<|yG I<|yG I<|yG I<|yI I<|yG I<|yI I<|yI I<|yG I<|yI I<|fO I (gZ I I I dC) dC ⟨by exact zb8 _,(by exact .refl _)⟩ ?_;refine yG I<|pU I (wT I I)<|yM I<|yG I<|yI I<|fO I (gZ I I I dC) dC ⟨by exact zb8 _,(by exact .refl _)⟩ ?_;refine pU I (wT I I)<|pN<|tN<|za1 I<|rE<|tR<|dR (.cons _<|.refl _) ?_;exact ST.ret0 (.inl I) results34 ⟨zb8 _,hm,um,tv,I,hH,hU⟩
 rcases Bool.eq_false_or_eq_true ((S p.2).contains p.1) with hx3 | hx3
 rotate_left
 ·have ht:=hno (by rw[hx1,hx2,hx3]; rfl);rw[ht];refine sQ<|dW [] [(0,2),(1,2),(2,2),(3,1),(4,2),(5,2),(6,2),(7,2),(8,2),(9,1),(10,2),(11,1),(12,1),(13,2),(14,2),(15,2),(16,2),(17,2),(18,1),(19,2),(20,1),(21,1),(22,2),(23,2),(24,2),(25,2),(26,2),(27,1),(28,2),(29,1),(30,1),(31,2),(32,1),(33,0),(34,2),(35,2),(36,2),(37,2),(38,1),(39,0),(40,2)] ze3 kR<|yM I<|pU I (nC I)<|pU I (fA ke I zT4 I)<|pK I (qL (v:=vb _) isAgg4 I<|cO 1 I I)<|pU I (SU.not I)<|yM I<|yJ I<|zb2 I (gT I I I dC) (nC I) dC<|zb2 I (gT I I I dC) (fA ke I sizeOf71 I) dC<|SP.gq I (gT I I I dC) (qL (v:=.map<|some mu) isAgg71 I<|cO 1 I I) dC<|zb2 I (gT I I I dC) (iB cN zT3 I I dC dC) dC<|SP.gq I (gT I I I dC) (qL (v:=vi p.1) iT3 I<|cO 0 I I) dC<|SP.gq I (gT I I I dC) (SQ.eq (v':=vb false) (SQ.lookup mty71 I I<|bo.own 3 I)<|(hU p.1).trans<|ze2 vb hx1) dC<|pU I (wF I I)<|yM I<|yJ I<|zb2 I (gT I I I dC) (nC I) dC<|zb2 I (gT I I I dC) (fA ke I sizeOf71 I) dC<|SP.gq I (gT I I I dC) (qL (v:=.map<|some mu) isAgg71 I<|cO 1 I I) dC<|zb2 I (gT I I I dC) (iB cN zT3 I I dC dC) dC<|SP.gq I (gT I I I dC) (qL (v:=vi p.2) iT3 I<|cO 0 I I) dC<|SP.gq I (gT I I I dC) (SQ.eq (v':=vb false) (SQ.lookup mty71 I I<|bo.own 3 I)<|(hU p.2).trans<|ze2 vb hx2) dC<|pU I (wF I I)<|yM I<|yJ I<|zb2 I (gT I I I dC) (nC I) dC<|zb2 I (gT I I I dC) (fA ke I sizeOf69 I) dC<|SP.gq I (gT I I I dC) (qL (v:=.map<|some ms) isAgg69 I<|cO 1 I I) dC<|zb2 I (gT I I I dC) (iB cN zT3 I I dC dC) dC<|SP.gq I (gT I I I dC) (qL (v:=vi p.2) iT3 I<|cO 0 I I) dC<|SP.gq I (gT I I I dC) (SQ.eq (v':=v) (SQ.lookup mty69 I I<|bo.known hsm) hv1) dC<|zb2 I (gT I I I dC) (iB cN zT3 I I dC dC) dC<|SP.gq I (gT I I I dC) (qL (v:=vi p.1) iT3 I<|cO 0 I I) dC<|SP.go I (gT I I I dC) (SO.call call63 I<|jw E g _ v (S p.2) p.1 hv2 hvl) dC (.inr iR) ?_;rintro _ _ _ ⟨rfl,rfl,rfl⟩;rw[hx3];refine zb2 I (gT I I I dC) (SU.not I) dC<|pU I (wF I I)<|yM I<|yG I<|yI I<|fO I (gZ I I I dC) dC ⟨by exact zb8 _,(by exact .refl _)⟩ ?_;refine pU I (wT I I)<|pN<|tN<|za1 I<|rE<|tR<|dR (.cons _<|.refl _) ?_;exact ST.ret0 (.inl I) results34 ⟨zb8 _,hm,um,tv,I,hH,hU⟩
 refine sQ<|dW [] [(0,2),(1,2),(2,2),(3,1),(4,2),(5,2),(6,2),(7,2),(8,2),(9,1),(10,2),(11,1),(12,1),(13,2),(14,2),(15,2),(16,2),(17,2),(18,1),(19,2),(20,1),(21,1),(22,2),(23,2),(24,2),(25,2),(26,2),(27,1),(28,2),(29,1),(30,1),(31,2),(32,1),(33,0),(34,2),(35,2),(36,2),(37,2),(38,1),(39,0),(40,2)] ze3 kR<|yM I<|pU I (nC I)<|pU I (fA ke I zT4 I)<|pK I (qL (v:=vb _) isAgg4 I<|cO 1 I I)<|pU I (SU.not I)<|yM I<|yJ I<|zb2 I (gT I I I dC) (nC I) dC<|zb2 I (gT I I I dC) (fA ke I sizeOf71 I) dC<|SP.gq I (gT I I I dC) (qL (v:=.map<|some mu) isAgg71 I<|cO 1 I I) dC<|zb2 I (gT I I I dC) (iB cN zT3 I I dC dC) dC<|SP.gq I (gT I I I dC) (qL (v:=vi p.1) iT3 I<|cO 0 I I) dC<|SP.gq I (gT I I I dC) (SQ.eq (v':=vb false) (SQ.lookup mty71 I I<|bo.own 3 I)<|(hU p.1).trans<|ze2 vb hx1) dC<|pU I (wF I I)<|yM I<|yJ I<|zb2 I (gT I I I dC) (nC I) dC<|zb2 I (gT I I I dC) (fA ke I sizeOf71 I) dC<|SP.gq I (gT I I I dC) (qL (v:=.map<|some mu) isAgg71 I<|cO 1 I I) dC<|zb2 I (gT I I I dC) (iB cN zT3 I I dC dC) dC<|SP.gq I (gT I I I dC) (qL (v:=vi p.2) iT3 I<|cO 0 I I) dC<|SP.gq I (gT I I I dC) (SQ.eq (v':=vb false) (SQ.lookup mty71 I I<|bo.own 3 I)<|(hU p.2).trans<|ze2 vb hx2) dC<|pU I (wF I I)<|yM I<|yJ I<|zb2 I (gT I I I dC) (nC I) dC<|zb2 I (gT I I I dC) (fA ke I sizeOf69 I) dC<|SP.gq I (gT I I I dC) (qL (v:=.map<|some ms) isAgg69 I<|cO 1 I I) dC<|zb2 I (gT I I I dC) (iB cN zT3 I I dC dC) dC<|SP.gq I (gT I I I dC) (qL (v:=vi p.2) iT3 I<|cO 0 I I) dC<|SP.gq I (gT I I I dC) (SQ.eq (v':=v) (SQ.lookup mty69 I I<|bo.known hsm) hv1) dC<|zb2 I (gT I I I dC) (iB cN zT3 I I dC dC) dC<|SP.gq I (gT I I I dC) (qL (v:=vi p.1) iT3 I<|cO 0 I I) dC<|SP.go I (gT I I I dC) (SO.call call63 I<|jw E g _ v (S p.2) p.1 hv2 hvl) dC (.inr iR) ?_;rintro _ _ _ ⟨rfl,rfl,rfl⟩;rw[hx3];refine zb2 I (gT I I I dC) (SU.not I) dC<|pU I (wF I I)<|yM I<|yJ I<|SP.gq I (gT I I I dC) (qV 0 kI bM I I I) dC<|SP.go I (gT I I I dC) (SO.call call64 I<|se E g _ bt ms mh p S sm hm T _ (.map<|some mu) tv hsm hS hH 1 2 I I) dC (.inr iR) ?_;rintro _ g1 _ ⟨rfl,rfl,hle1⟩;refine pU I (wF I I)<|pN<|tN<|iQ I (fun hx4=>?_) (fun hx4=>?_)
 ·have ht:=hno (by rw[hx1,hx2,hx3,hx4]; rfl);rw[ht];exact rE<|tR<|dR (.cons _<|.refl _)<|ST.ret0 (.inl I) results34 ⟨hle1,hm,um,tv,I,hH,hU⟩
 ·have ht:dA true S T p=T++[p]:=by rw[htk,hx1,hx2,hx3,hx4]; rfl
  rw[ht];have hU2:=hU.snoc p;have hH2:=hH.snoc hx1;refine kP<|tN<|sQ<|SC.drawT 3 [] [(0,2),(1,2),(2,2),(3,1),(4,2),(5,1),(6,2),(7,2),(8,2),(9,1),(10,2),(11,1),(12,0),(13,2),(14,0),(15,0),(16,2),(17,0)] ze3 kR<|yM rfl<|pU rfl (nC rfl)<|pU rfl (fA ke rfl sizeOf71 rfl)<|pK rfl (qL (v:=.map<|some mu) isAgg71 rfl<|cO 1 rfl rfl)<|pU rfl (iB cN zT3 rfl rfl dC dC)<|pK rfl (qL (v:=vi p.1) iT3 rfl<|cO 0 rfl rfl)<|yM rfl<|pU rfl (nC rfl)<|pU rfl (fA ke rfl sizeOf71 rfl)<|pK rfl (qL (v:=.map<|some mu) isAgg71 rfl<|cO 1 rfl rfl)<|pU rfl (iB cN zT3 rfl rfl dC dC)<|pK rfl (qL (v:=vi p.2) iT3 rfl<|cO 0 rfl rfl)<|SP.o rfl (SO.mapEntry 3 mty71 rfl rfl rfl) dC (.inr (by rintro _ _ _ ⟨st1,j1,l1,rfl,rfl,rfl,hk1,hp1⟩; exact⟨by exact zb8 _,(by exact eH _ _ _ _)⟩)) ?_;rintro _ _ _ ⟨st1,j1,l1,rfl,rfl,rfl,hk1,hp1⟩;refine pU rfl (xT rfl rfl)<|SP.on rfl (SO.entryStore 3 rfl rfl rfl rfl hk1) (.inr (by rintro _ _ _ ⟨rfl,rfl⟩; exact⟨by exact zb8 _,(by exact .cons_cons _<|.cons_cons _<|.cons_cons _<|List.nil_sublist _)⟩)) ?_;rintro _ _ _ ⟨rfl,rfl⟩;rw[← hp1];refine SP.o rfl (SO.mapEntry 3 mty71 rfl rfl rfl) dC (.inr (by rintro _ _ _ ⟨st2,j2,l2,rfl,rfl,rfl,hk2,hp2⟩; exact⟨by exact zb8 _,(by exact .cons_cons _<|.cons_cons _<|.cons_cons _<|List.nil_sublist _)⟩)) ?_;rintro _ _ _ ⟨st2,j2,l2,rfl,rfl,rfl,hk2,hp2⟩;refine pU rfl (xT rfl rfl)<|SP.on rfl (SO.entryStore 3 rfl rfl rfl rfl hk2) (.inr (by rintro _ _ _ ⟨rfl,rfl⟩; exact⟨by exact zb8 _,(by exact .cons_cons _<|.cons_cons _<|.cons_cons _<|List.nil_sublist _)⟩)) ?_;rintro _ _ _ ⟨rfl,rfl⟩;rw[← hp2];refine pN<|tN<|sQ ?_;refine dW [8] [(0,2),(1,2),(2,2),(3,1),(4,2),(5,1),(6,2),(7,1),(8,0)] ze3 kR ?_;refine yM I<|pU I (nC I)<|pU I (fA ke I sizeOf70 I)<|pK I (qL (v:=.map<|some mh) isAgg70 I<|cO 1 I I)<|pU I (iB cN zT3 I I dC dC)<|pK I (qL (v:=vi p.1) iT3 I<|cO 0 I I)<|pU I (iB cN zT3 I I dC dC)<|pK I (qL (v:=vi p.2) iT3 I<|cO 0 I I)<|SP.on I (SO.mapUpdate 2 mty70 I I I I) (.inl dC) ?_;rintro _ _ _ ⟨rfl,rfl⟩;refine pN<|tN ?_;refine dW [7,10] [(0,2),(1,2),(2,2),(3,2),(4,1),(5,1),(6,0),(7,0),(8,2),(9,2),(10,0)] ze3 kR ?_;refine yM I<|yM I<|pU I (nC I)<|pU I (fA ke I iW I)<|pK I (qL (v:=tv) jr I<|cO 1 I I)<|pK I (qV 0 kI bM I I I)<|SP.o I (bS sty31 I I I (ab ⟨I,trivial⟩) dC) dC (.inr iR) ?_;rintro _ _ _ ⟨b75,rfl,rfl,rfl⟩;refine SP.o I (aP (e:=ax) 4 p sty31 I I I I I oM oM) dC (.inl dC) ?_;rintro tv' _ _ ⟨rfl,rfl⟩;refine zd2 fun ⟨w0,hw0⟩=>?_;obtain ⟨q76,c76,rfl⟩:=aj (e:=ax) (l:=T++[p]) (i:=4) hw0 rfl;clear hw0 w0;refine pU rfl (nC rfl)<|pU rfl (fA ke rfl iW rfl)<|SP.on rfl (SO.store1 1 iW rfl rfl rfl rfl (bE rfl)<|by rfl) (.inl dC) ?_;rintro _ _ _ ⟨rfl,rfl⟩;refine pN<|dR (.cons _<|.refl _) ?_;exact ST.ret0 (.inr I) results34 ⟨hle1,_,_,_,I,hH2,hU2⟩
end Go.Proofs.YtmmghffoakhheaaGreatDoor
