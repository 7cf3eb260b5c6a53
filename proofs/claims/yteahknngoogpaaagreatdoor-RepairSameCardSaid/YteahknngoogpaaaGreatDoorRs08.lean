/- SyR Mee1 Mee3 Rgt1 Rgt2 Rgt3 Frm2 Sec2 Rgt4 Rgt5 -/
import Derived.Test.YteahknngoogpaaaGreatDoorRs03
import Derived.Test.YteahknngoogpaaaGreatDoorRs04
import Derived.Test.YteahknngoogpaaaGreatDoorRs07
import Derived.Test.YteahknngoogpaaaGreatDoorRs05
import Derived.SizedLaws
set_option linter.unusedSimpArgs false
set_option linter.unusedVariables false
namespace Go.Sy
open Go
section
variable {P:Program}{N:Nat}{E:World}{f:Fr}{g:PH}{s s1:Own}{dst:Option Tmp}{ty:TypeId}{pos:String}{af:Array Edge}{gd:Option (Nat×Bool)}{α:Type}{k:Nat}{e:Enc α k}
def que (e:Enc α k)(T:TypeId)(v:Value)(l:List α):Ent :=
 ⟨rblk v,fun oo=>(∃ p,v = .slice p 0 0∧l=[]) ∨
  ∃ b o cap cur,v = .slice (some ⟨b,o,none⟩) l.length (cap+1)∧oo=some (.cells cur T (0,0))∧l.length≤cap+1∧cap+1≤maxLen∧cur.size=o+(cap+1) * k∧(cur.toList.drop o).take (l.length * k)=l.flatMap e.enc⟩
theorem que_is {w:World}{T:TypeId}{i:Nat}{v:Value}{l:List α}(h:At E g s w)(hi:s[i]?=some (que e T v l)):(∃ p,v = .slice p 0 0∧l=[]) ∨
  ∃ b o cap cur,v = .slice (some ⟨b,o,none⟩) l.length (cap+1)∧w.heap[b]?=some (.cells cur T (0,0))∧l.length≤cap+1∧cap+1≤maxLen∧cur.size=o+(cap+1) * k∧(cur.toList.drop o).take (l.length * k)=l.flatMap e.enc:=by
 rcases h.own _ (List.mem_of_getElem? hi) with h2 | ⟨b,o,cap,cur,rfl,ho,h3⟩
 ·exact .inl h2
 ·refine .inr ⟨b,o,cap,cur,I,?_,h3⟩;simpa [que,rblk] using ho
theorem que_holds {w:World}{T:TypeId}{b o cap:Nat}{l:List α}{cur:Array Value}(hb:w.heap[b]?=some (.cells cur T (0,0)))(hn:l.length≤cap+1)(hc:cap+1≤maxLen)(hs:cur.size=o+(cap+1) * k)(ht:(cur.toList.drop o).take (l.length * k)=l.flatMap e.enc) :
  (que e T (.slice (some ⟨b,o,none⟩) l.length (cap+1)) l).holds ((que e T (.slice (some ⟨b,o,none⟩) l.length (cap+1)) l).blk.bind fun b=>w.heap[b]?) :=
 .inr ⟨b,o,cap,cur,rfl,by simpa [que,rblk] using hb,hn,hc,hs,ht⟩
theorem que_form {w:World}{T:TypeId}{i:Nat}{v:Value}{l:List α}(h:At E g s w)(hi:s[i]?=some (que e T v l)):∃ p c,v = .slice p l.length c∧(0<l.length→based v=true):=by
 rcases que_is h hi with ⟨p,rfl,rfl⟩ | ⟨b,o,cap,cur,rfl,_⟩
 ·exact⟨_,_,I,fun h=>absurd h (by simp)⟩
 ·exact⟨_,_,I,fun _=>I⟩
theorem At.toQue {w:World}{T:TypeId}{i:Nat}{v:Value}{l:List α}(h:At E g s w)(hi:s[i]?=some (rowA e T v l)):At E g (s.set i (que e T v l)) w:=by
 obtain ⟨hxl,hform⟩:=row_is h hi;refine h.turn hi I ⟨I,lR _⟩ I (lR _) (fun _ _ _=>I) ?_ (fun b hb=>⟨(h.fresh _ (List.mem_of_getElem? hi) b hb).2,.inl hb⟩)
 rcases hform with ⟨q,rfl,h0⟩ | ⟨b,cap,cur,rfl,hg,hle,hcm,hcs,htake⟩
 ·exact .inl ⟨q,I,List.eq_nil_of_length_eq_zero h0⟩
 ·exact que_holds hg hle hcm (by rw[hcs]; omega) (by simpa using htake)
theorem At.front {w:World}{T:TypeId}{i c n:Nat}{p:Option Addr}{a:α}{l:List α}(h:At E g s w)(hi:s[i]?=some (que e T (.slice p n c) (a::l))):At E g (s.set i (que e T (sliced p 1 n c k) l)) w:=by
 rcases que_is h hi with ⟨q,he,h0⟩ | ⟨b,o,cap,cur,he,hg,hle,hcm,hcs,htake⟩
 ·cases h0
 ·injection he with e1 e2 e3
  subst e1; subst e2; subst e3;have hfr:=h.fresh _ (List.mem_of_getElem? hi) b rfl;cases cap with
  | zero =>
   have hl0:l=[]:=by simpa using hle
   subst hl0;refine h.turn hi I ⟨I,lR _⟩ I (lR _) (fun _ _ _=>I) (.inl ⟨_,I,I⟩) (fun b' hb'=>?_);simp[que,sliced,rblk] at hb'
  | succ cap =>
   have hsl:sliced (some ⟨b,o,none⟩) 1 (a::l).length (cap+1+1) k = .slice (some ⟨b,o+k,none⟩) l.length (cap+1):=by
    simp[sliced,Addr.add_lit]
   rw[hsl];refine h.turn hi I ⟨I,lR _⟩ I (lR _) (fun _ _ _=>I) ?_ (fun b' hb'=>?_)
   ·refine que_holds hg (by simpa using hle) oM (by rw[hcs,Nat.succ_mul (cap+1)]; omega) ?_;have h1:=congrArg (List.drop k) htake;rw[List.flatMap_cons,List.drop_left' (e.len a),List.drop_take,List.drop_drop] at h1;have h2:(a::l).length * k - k=l.length * k:=by rw[List.length_cons,Nat.succ_mul]; omega
    rw[h2] at h1;exact h1
   ·simp only[que,rblk,Option.some.injEq] at hb';subst hb';exact⟨hfr.2,.inl I⟩
theorem Rd.que {T:TypeId}{v:Value}{l:List α}(i:Nat)(hi:s[i]?=some (que e T v l)):Rd g s v (l.flatMap e.enc):=by
 intro E w hw j x hj
 rcases que_is hw hi with ⟨p,rfl,rfl⟩ | ⟨b,o,cap,cur,rfl,hb,_,_,_,ht⟩
 ·simp at hj
 ·refine⟨⟨b,o,none⟩,l.length,cap+1,I,I,?_⟩;rw[← ht,List.getElem?_take] at hj;split at hj
  ·rw[List.getElem?_drop] at hj;simp[World.cell?,hb];simpa using hj
  ·cases hj
theorem run_append_roomO (w:World)(t ty e:TypeId)(i:TypeInfo)(ht:P.underlying t=some (.slice e))(hi:P.info? e=some i)
  (g o sLen sCap:Nat) (cur:Array Value) (hg:w.heap[g]?=some (.cells cur e (0,0)))
  (a:Addr) (m c:Nat) (news:List Value) (hl:news.length=m * i.size) (hnews:∀ j u,news[j]?=some u→w.cell? (a.add j)=some u) (h1:∀ u∈news,u.oneCell'=true)
  (hroom:sLen+m≤sCap) (hfit:o+sLen * i.size+news.length≤cur.size) :
  (Builtin.append_ #[t,t] ty #[.slice (some ⟨g,o,none⟩) sLen sCap,.slice (some a) m c]).run P w =
   .ok (.slice (some ⟨g,o,none⟩) (sLen+m) sCap) (w.setRow g (cur.toList.take (o+sLen * i.size)++news++cur.toList.drop (o+sLen * i.size+news.length)).toArray):=by
 have hf:=run_firstCells_some (P:=P) w i.size m a m c news hl hnews;have hst:=run_storeCells_at P g (o+sLen * i.size) e news 0 cur w hg (by simpa using hfit) h1;simp only[Nat.add_zero] at hst;simp[Builtin.append_,run_underlying ht,sizeOf,typeInfo,hi,Builtin.lenOf,hroom,hf,Addr.add_lit,hst]
theorem At.newQue {w w':World}{T:TypeId}{i cap:Nat}{v:Value}{l:List α}{a:α}{zs:List Value}(h:At E g s w)(hi:s[i]?=some (que e T v l))(hw':w'=w.drew.alloc (.cells ((l.flatMap e.enc).toArray++(e.enc a).toArray++zs.toArray) T))
  (hc:l.length+1≤cap) (hcm:cap≤maxLen) (hz:zs.length=(cap - (l.length+1)) * k) :
  At E g (s.set i (que e T (.slice (some ⟨w.heap.size,0,none⟩) (l.length+1) cap) (l++[a]))) w':=by
 subst hw';obtain ⟨cap,rfl⟩:∃ c,cap=c+1:=⟨cap - 1,oM⟩;have hnew:(w.drew.alloc (.cells ((l.flatMap e.enc).toArray++(e.enc a).toArray++zs.toArray) T)).heap[w.heap.size]?=some (.cells ((l.flatMap e.enc).toArray++(e.enc a).toArray++zs.toArray) T (0,0)):=heap_alloc_new w.drew _;have hlen:l.length+1=(l++[a]).length:=by simp
 rw[hlen];refine h.turn hi I ⟨I,(by exact Nat.le_add_right _ _)⟩ I (by simp) (fun k hk _=>by (first | exact heap_alloc_old w.drew _ k hk | exact heap_alloc_old w.drew _ hk)) (que_holds hnew (by simpa using hc) hcm ?_ ?_) (fun b hb=>?_)
 ·simp only[Array.size_append,List.size_toArray,e.length,e.len,hz];have:(cap+1) * k=(l.length+1) * k+(cap+1 - (l.length+1)) * k:=by rw[← Nat.add_mul]; congr 1; omega
  rw[this,Nat.add_mul];omega
 ·have:(l++[a]).length * k=(l.flatMap e.enc++e.enc a).length:=by simp[e.length,e.len,Nat.add_mul]
  rw[this];simp only[Array.toList_append,List.drop_zero];rw[List.take_left,List.flatMap_append];simp
 ·simp only[que,rblk,Option.some.injEq] at hb;subst hb;exact⟨by simp,.inr (lR _)⟩
theorem SO.queA {bytes b:Nat}{x y:Operand}{t T:TypeId}{z v:Value}{l:List α}{cs:Array Value}(i:Nat)(a:α)(hT:STy P t T k bytes z)(hx:ev f x=some v)(hy:ev f y=some (.slice (some ⟨b,0,none⟩) 1 1))
  (hs:s=pt b (.cells cs T (0,0))::s1) (hi:s1[i]?=some (que e T v l)) (hc:cs.toList=e.enc a) (hb:(l.length+1) * bytes≤140737488355328) (hlen:l.length+1≤4611686018427387904) :
  SO P N E ⟨dst,.call ⟨.builtin .append,#[x,y],#[t,t]⟩,ty,pos,af,gd⟩ f g s fun v' g' s'=>g=g'∧s'=s1.set i (que e T v' (l++[a])) :=
 SO.of_run fun a0 w ha hw0=>by
  have hr:Rd g s (.slice (some ⟨b,0,none⟩) 1 1) cs.toList:=Rd.pt 0 (by rw[hs]; rfl);have hw:At E g s1 w:=hw0.sublist (by rw[hs]; exact .cons _ (.refl _));obtain ⟨ti,ht1,ht2,ht3,ht4⟩:=hT.info;rw[hc] at hr;have hcells:∀ j q,(e.enc a)[j]?=some q→w.cell? ((⟨b,0,none⟩:Addr).add j)=some q:=fun j q hq=>by
   obtain ⟨a',_,_,he,_,hc⟩:=hr E w hw0 j q hq;cases he;have hadd:(⟨b,0,none⟩:Addr).add j=⟨b,0+j,none⟩:=by unfold Addr.add; split <;> simp_all
   rw[hadd];exact hc
  have hl1:(e.enc a).length=1 * k:=by rw[e.len]; omega
  have hzs:∀ c,(Builtin.zeroCells z.cells c).toList.length=c * k:=fun c=>by simp[size_zeroCells,hT.zs]
  have key:∃ v' w',(Builtin.append_ #[t,t] ty #[v,.slice (some ⟨b,0,none⟩) 1 1]).run P w = .ok v' w'∧At E g (s1.set i (que e T v' (l++[a]))) w':=by
   rcases que_is hw hi with ⟨q,rfl,rfl⟩ | ⟨bq,o,cap,cur,rfl,hg,hle,hcm,hcs,htake⟩
   ·have hge:=grownCap_ge w (0+1) 0 T;have hcm:=grownCap_le_maxLen w (0+1) 0 T (by unfold maxLen; omega);cases q with
    | none =>
     have h5:=run_append_nil (P:=P) w t ty T ti z hT.und ht1 ht2 ⟨b,0,none⟩ 1 1 (e.enc a) (by rw[ht3]; exact hl1) hcells oM oM (by rw[ht4]; simp at hb; omega);have h6:=hw.newQue (e:=e) (l:=[]) (a:=a) (zs:=(Builtin.zeroCells z.cells (grownCap w (0+1) 0 T - (0+1))).toList) hi rfl hge hcm (by rw[hzs]; rfl);refine⟨_,_,h5,?_⟩;simpa using h6
    | some q =>
     have h5:=run_append_grow (P:=P) w t ty T ti z hT.und ht1 ht2 q 0 0 [] (by simp) (by simp) ⟨b,0,none⟩ 1 1 (e.enc a) (by rw[ht3]; exact hl1) hcells oM oM (by rw[ht4]; exact growslice_fits oM (by simpa using hb));have h6:=hw.newQue (e:=e) (l:=[]) (a:=a) (zs:=(Builtin.zeroCells z.cells (grownCap w (0+1) 0 T - (0+1))).toList) hi rfl hge hcm (by rw[hzs]; rfl);refine⟨_,_,h5,?_⟩;simpa using h6
   ·by_cases hroom:l.length+1≤cap+1
    ·have hfit:o+l.length * k+(e.enc a).length≤cur.size:=by
      rw[hl1,hcs,Nat.add_assoc,← Nat.add_mul];exact Nat.add_le_add_left (Nat.mul_le_mul_right _ hroom) _
     have h5:=run_append_roomO (P:=P) w t ty T ti hT.und ht1 bq o l.length (cap+1) cur hg ⟨b,0,none⟩ 1 1 (e.enc a) (by rw[ht3]; exact hl1) hcells (e.one a) hroom (by rw[ht3]; exact hfit);refine⟨_,_,h5,?_⟩;have hfr:=hw.fresh _ (List.mem_of_getElem? hi) bq rfl;have hlen:l.length+1=(l++[a]).length:=by simp
     rw[hlen];refine hw.turn hi I ⟨I,(by exact lR _)⟩ I (by simp) (fun k' _ hk'=>setRow_other w bq k' _ (fun e1=>hk' (by simp[que,rblk,e1]))) (que_holds (setRow_heap w bq cur _ T _ hg) (by simpa using hroom) hcm ?_ ?_) (fun b' hb'=>?_)
     ·rw[ht3];simp only[List.size_toArray,List.length_append,List.length_take,List.length_drop,Array.length_toList];omega
     ·rw[ht3];have hsz:cur.toList.length=cur.size:=by simp
      have h1:cur.toList.take (o+l.length * k)=cur.toList.take o++l.flatMap e.enc:=by
       rw[← htake,List.take_add]
      have h2:(cur.toList.take o).length=o:=by rw[List.length_take]; omega
      simp only[h1,List.append_assoc];rw[List.drop_left' h2,← List.append_assoc];have h3:(l++[a]).length * k=(l.flatMap e.enc++e.enc a).length:=by simp[e.length,e.len,Nat.add_mul]
      rw[h3,List.take_left,List.flatMap_append];simp
     ·simp only[que,rblk,Option.some.injEq] at hb';subst hb';exact⟨by simpa using hfr.2,.inl I⟩
    ·have holds:∀ j q,(l.flatMap e.enc)[j]?=some q→w.cell? ((⟨bq,o,none⟩:Addr).add j)=some q:=fun j q hq=>by
      have hadd:(⟨bq,o,none⟩:Addr).add j=⟨bq,o+j,none⟩:=by unfold Addr.add; split <;> simp_all
      rw[← htake,List.getElem?_take] at hq;split at hq
      ·rw[List.getElem?_drop] at hq;rw[hadd]; simp[World.cell?,hg]; simpa using hq
      ·cases hq
     have hge:=grownCap_ge w (l.length+1) (cap+1) T;have hcm':=grownCap_le_maxLen w (l.length+1) (cap+1) T (by unfold maxLen; omega);have h5:=run_append_grow (P:=P) w t ty T ti z hT.und ht1 ht2 ⟨bq,o,none⟩ l.length (cap+1) (l.flatMap e.enc) (by rw[ht3]; exact e.length l) holds ⟨b,0,none⟩ 1 1 (e.enc a) (by rw[ht3]; exact hl1) hcells oM oM (by rw[ht4]; exact growslice_fits oM hb);have h6:=hw.newQue (a:=a) (zs:=(Builtin.zeroCells z.cells (grownCap w (l.length+1) (cap+1) T - (l.length+1))).toList) hi rfl hge hcm' (by rw[hzs]);refine⟨_,_,h5,?_⟩;simpa using h6
  obtain ⟨v',w',hr1,hr2⟩:=key;exact⟨v',w',g,_,run_appendOp (ha.ev hx) (ha.ev hy) hr1,hr2,I,I⟩
end
end Go.Sy
namespace Go.Proofs.YteahknngoogpaaaGreatDoor
open _root_.Go.Proofs.Tryz _root_.Go.Proofs.YteahknngoogpaaaGreatDoor.Tryz
open Go Go.Sy Go.Pl Go.Proofs
def adjT (A:List Cl)(k:Int):Option (List Int):=(findT A k).map fun c=>c.sides.map Side.cell
theorem reachF_dfs (A:List Cl):∀ (n:Nat) (id:Int) (vis:List Int),reachF A n id vis=dfs (adjT A) n id vis
 | 0,_,_=>rfl
 | n+1,id,vis=>by
  rw[reachF_succ,dfs_succ];unfold adjT;cases findT A id with
  | none=>rfl
  | some c =>
   simp only[Option.map_some,List.foldl_map];congr 2;funext v x;exact reachF_dfs A n x.cell v
theorem adjT_some {A:List Cl}{k:Int}{l:List Int}(h:adjT A k=some l):∃ c,findT A k=some c∧c.sides.map Side.cell=l:=by
 unfold adjT at h;cases hf:findT A k with
 | none=>rw[hf] at h; cases h
 | some c=>rw[hf] at h; injection h with h; exact⟨c,rfl,h⟩
theorem cntF_strict (A:List Cl):∀ v k l,adjT A k=some l→l≠[]→v.contains k=false→cntF A (v++[k])<cntF A v:=by
 intro v k l hl _ hv;obtain ⟨c,hf,_⟩:=adjT_some hl;obtain ⟨hm,rfl⟩:=findT_mem hf;exact cntF_lt hm hv
def ClosedT (A:List Cl)(v:List Int):Prop:=∀ x∈v,∀ l,adjT A x=some l→∀ y∈l,adjT A y≠none→y∈v
theorem clos_fold (A:List Cl):∀ (ids v:List Int),ClosedT A v→ClosedT A (ids.foldl (fun v id=>reachF A (A.length+1) id v) v)∧(∀ x∈v,x∈ids.foldl (fun v id=>reachF A (A.length+1) id v) v) ∧
  (∀ id∈ids,adjT A id≠none→id∈ids.foldl (fun v id=>reachF A (A.length+1) id v) v)∧∀ x∈ids.foldl (fun v id=>reachF A (A.length+1) id v) v,x∈v∨∃ id∈ids,Rch (adjT A) id x
 | [],v,h=>⟨h,fun _ h=>h,by simp,fun _ h=>.inl h⟩
 | id::ids,v,h=>by
  have hc:=dfs_complete (adjT A) (cntF A) (fun v v' h=>cntF_mono h) (cntF_strict A) (A.length+1) id v (Nat.lt_succ_of_le (cntF_le _ _));have hs:=dfs_sub (adjT A) (A.length+1) id v;have hd:=dfs_sound (adjT A) (A.length+1) id v;rw[← reachF_dfs] at hc hs hd;have hcl:ClosedT A (reachF A (A.length+1) id v):=by
   intro x hx l hl y hy hn;by_cases hv:x∈v
   ·exact hs y (h x hv l hl y hy hn)
   ·exact hc.2 x hx hv l hl y hy hn
  obtain ⟨h1,h2,h3,h4⟩:=clos_fold A ids _ hcl;simp only[List.foldl_cons];refine⟨h1,fun x hx=>h2 x (hs x hx),fun q hq hn=>?_,fun x hx=>?_⟩
  ·rcases List.mem_cons.1 hq with rfl | hq
   ·exact h2 _ (hc.1 hn)
   ·exact h3 q hq hn
  ·rcases h4 x hx with h5 | ⟨q,hq,h5⟩
   ·rcases hd x h5 with h6 | h6
    ·exact .inl h6
    ·exact .inr ⟨id,by simp,h6⟩
   ·exact .inr ⟨q,by simp[hq],h5⟩
theorem mem_closF (A:List Cl)(ids:List Int)(x:Int):x∈closF A ids↔∃ id∈ids,Rch (adjT A) id x:=by
 obtain ⟨h1,_,h3,h4⟩:=clos_fold A ids [] (fun x hx=>absurd hx (by simp));refine⟨fun h=>(h4 x h).resolve_left (by simp),fun ⟨id,hid,hr⟩=>?_⟩;have key:∀ a b,Rch (adjT A) a b→a∈closF A ids→b∈closF A ids:=by
  intro a b hr;induction hr with
  | refl a _=>exact fun h=>h
  | step a b c l hl hb r ih=>exact fun h=>ih (h1 a h l hl b hb r.node)
 exact key id x hr (h3 id hid hr.node)
def costF (A:List Cl)(m:List Int):Nat:=((A.filter fun c=>!m.contains c.id).map fun c=>c.sides.length).sum
theorem costF_cons (d:Cl)(A:List Cl)(m:List Int):costF (d::A) m=(if m.contains d.id then 0 else d.sides.length)+costF A m:=by
 unfold costF;rw[List.filter_cons];cases m.contains d.id <;> simp
theorem costF_mono (A:List Cl)(m:List Int)(x:Int):costF A (m++[x])≤costF A m:=by
 induction A with
 | nil=>exact lR _
 | cons d t ih =>
  rw[costF_cons,costF_cons];have:m.contains d.id=true→(m++[x]).contains d.id=true:=fun h=>by simp at h ⊢; exact .inl h
  cases h1:m.contains d.id <;> cases h2:(m++[x]).contains d.id <;> simp_all <;> omega
theorem costF_add {A:List Cl}{m:List Int}{c:Cl}(hc:c∈A)(hn:m.contains c.id=false):costF A (m++[c.id])+c.sides.length≤costF A m:=by
 induction A with
 | nil=>simp at hc
 | cons d t ih =>
  have hm:=costF_mono t m c.id;rw[costF_cons,costF_cons]
  rcases List.mem_cons.1 hc with rfl | hc'
  ·have:(m++[c.id]).contains c.id=true:=by simp
   rw[this,hn];simp;omega
  ·have h0:=ih hc';have:m.contains d.id=true→(m++[c.id]).contains d.id=true:=fun h=>by simp at h ⊢; exact .inl h
   cases h1:m.contains d.id <;> cases h2:(m++[c.id]).contains d.id <;> simp_all <;> omega
structure Wide (A:List Cl)(ids left m:List Int):Prop where
 sound:∀ x∈m,∃ id∈ids,Rch (adjT A) id x
 todo:∀ x∈left,adjT A x≠none→∃ id∈ids,Rch (adjT A) id x
 start:∀ x∈ids,adjT A x≠none→x∈left∨x∈m
 sides:∀ x∈m,∀ l,adjT A x=some l→∀ y∈l,adjT A y≠none→y∈left∨y∈m
 few:left.length+costF A m≤ids.length+costF A []
theorem Wide.begin (A:List Cl)(ids:List Int):Wide A ids ids []:=⟨by simp,fun x hx h=>⟨x,hx,.refl x h⟩,fun x hx _=>.inl hx,by simp,Nat.le_refl _⟩
theorem Rch.snoc {adj:Int→Option (List Int)}{a b c:Int}{l:List Int}(h:Rch adj a b)(hl:adj b=some l)(hc:c∈l)(hn:adj c≠none):Rch adj a c:=by
 induction h with
 | refl a _=>exact .step a c c l hl hc (.refl c hn)
 | step a b' c' l' h' hb' _ ih=>exact .step a b' c l' h' hb' (ih hl)
theorem Wide.skip {A:List Cl}{ids left m:List Int}{x:Int}(h:Wide A ids (x::left) m)(hx:adjT A x=none∨x∈m):Wide A ids left m:=by
 refine⟨h.sound,fun y hy=>h.todo y (by simp[hy]),fun y hy hn=>?_,fun y hy l hl z hz hn=>?_,by have:=h.few; simp at this; omega⟩
 ·rcases h.start y hy hn with h1 | h1
  ·rcases List.mem_cons.1 h1 with rfl | h1
   ·rcases hx with hx | hx
    ·exact absurd hx hn
    ·exact .inr hx
   ·exact .inl h1
  ·exact .inr h1
 ·rcases h.sides y hy l hl z hz hn with h1 | h1
  ·rcases List.mem_cons.1 h1 with rfl | h1
   ·rcases hx with hx | hx
    ·exact absurd hx hn
    ·exact .inr hx
   ·exact .inl h1
  ·exact .inr h1
theorem Wide.mark {A:List Cl}{ids left m:List Int}{x:Int}{c:Cl}(h:Wide A ids (x::left) m)(hf:findT A x=some c)(hx:m.contains x=false):Wide A ids (left++c.sides.map Side.cell) (m++[x]):=by
 have ha:adjT A x=some (c.sides.map Side.cell):=by unfold adjT; rw[hf]; rfl
 have hr:∃ id∈ids,Rch (adjT A) id x:=h.todo x (by simp) (by rw[ha]; simp);obtain ⟨hcm,hcid⟩:=findT_mem hf;refine⟨fun y hy=>?_,fun y hy hn=>?_,fun y hy hn=>?_,fun y hy l hl z hz hn=>?_,?_⟩
 ·rcases List.mem_append.1 hy with hy | hy
  ·exact h.sound y hy
  ·simp at hy; subst hy; exact hr
 ·rcases List.mem_append.1 hy with hy | hy
  ·exact h.todo y (by simp[hy]) hn
  ·obtain ⟨id,hid,hr⟩:=hr;exact⟨id,hid,hr.snoc ha hy hn⟩
 ·rcases h.start y hy hn with h1 | h1
  ·rcases List.mem_cons.1 h1 with rfl | h1
   ·exact .inr (by simp)
   ·exact .inl (by simp[h1])
  ·exact .inr (by simp[h1])
 ·rcases List.mem_append.1 hy with hy | hy
  ·rcases h.sides y hy l hl z hz hn with h1 | h1
   ·rcases List.mem_cons.1 h1 with rfl | h1
    ·exact .inr (by simp)
    ·exact .inl (by simp[h1])
   ·exact .inr (by simp[h1])
  ·simp at hy;subst hy;rw[ha] at hl;injection hl with hl
   subst hl;exact .inl (List.mem_append.2 (.inr hz))
 ·have h1:=h.few;have h2:=costF_add hcm (by rw[hcid]; exact hx);rw[hcid] at h2;simp at h1 ⊢;omega
theorem Wide.done {A:List Cl}{ids m:List Int}(h:Wide A ids [] m)(x:Int):m.contains x=(closF A ids).contains x:=by
 have key:∀ a b,Rch (adjT A) a b→a∈m→b∈m:=by
  intro a b hr;induction hr with
  | refl a _=>exact fun h=>h
  | step a b c l hl hb r ih=>exact fun h1=>ih ((h.sides a h1 l hl b hb r.node).resolve_left (by simp))
 have:x∈m↔x∈closF A ids:=by
  rw[mem_closF];exact⟨h.sound x,fun ⟨id,hid,hr⟩=>key id x hr ((h.start id hid hr.node).resolve_left (by simp))⟩
 rw[Bool.eq_iff_iff];simpa using this
def inB (B:List Cl)(x:Cl):Bool:=match findT B x.id with
 | some y=>decide (x=y)
 | none=>false
def meetI (A B:List Cl)(id:Int):Bool:=match findT B id with
 | some y=>decide ((findT A id).getD zeroC=y)
 | none=>false
def meetP (A B:List Cl)(c:Cl):Bool:=(closF A [c.id]).all (meetI A B)
def meetC (A B:List Cl):List Cl:=A.filter (meetP A B)
theorem Rch.last {adj:Int→Option (List Int)}{a b:Int}(h:Rch adj a b):adj b≠none:=by
 induction h with
 | refl _ h=>exact h
 | step _ _ _ _ _ _ _ ih=>exact ih
theorem closF_in {A:List Cl}{ids:List Int}{x:Int}(h:x∈closF A ids):∃ c,findT A x=some c:=by
 obtain ⟨id,_,hr⟩:=(mem_closF A ids x).1 h;have:=hr.last;unfold adjT at this;cases hf:findT A x with
 | none=>rw[hf] at this; simp at this
 | some c=>exact⟨c,rfl⟩
theorem meetP_ref {A B:List Cl}(hA:(A.map Cl.id).Nodup)(c:Cl):(A.all fun x=>!(closF A [c.id]).contains x.id||inB B x)=meetP A B c:=by
 rw[Bool.eq_iff_iff,meetP,List.all_eq_true,List.all_eq_true];have hx:∀ x∈A,meetI A B x.id=inB B x:=fun x hx=>by unfold meetI inB; rw[find_self hA hx]; rfl
 constructor
 ·intro h id hid;obtain ⟨d,hd⟩:=closF_in hid;obtain ⟨hdm,rfl⟩:=findT_mem hd;have:=h d hdm;rw[hx d hdm];simpa [hid] using this
 ·intro h x hxm;cases hc:(closF A [c.id]).contains x.id with
  | false=>rfl
  | true =>
   have:=h x.id (by simpa using hc);rw[hx x hxm] at this;simpa using this
set_option maxRecDepth 100000
set_option maxHeartbeats 1000000
theorem Tryz.sty109:STy Tryz.prog 109 4 1 1 (vb false):=⟨underlying109,⟨t4,by kernel_rfl,by kernel_rfl,by kernel_rfl,by kernel_rfl⟩,rfl,by decide⟩
def encBool:Enc Bool 1:=⟨fun n=>[vb n],fun _=>rfl,fun _ u hu=>by simp at hu; subst hu; rfl,by decide⟩
def flags (A:List Cl)(m:List Int):List Bool:=A.map fun c=>m.contains c.id
theorem flags_nil (A:List Cl):flags A []=List.replicate A.length false:=by
 unfold flags;induction A with
 | nil=>rfl
 | cons d t ih=>simp[List.replicate_succ] at ih ⊢; exact ih
theorem flags_get {A:List Cl}{m:List Int}{k:Nat}{c:Cl}(h:A[k]?=some c):(flags A m)[k]?=some (m.contains c.id):=by simp[flags,h]
theorem flags_set {A:List Cl}{m:List Int}{k:Nat}{c:Cl}(hn:(A.map Cl.id).Nodup)(h:A[k]?=some c):(flags A m).set k true=flags A (m++[c.id]):=by
 obtain ⟨hk,hc⟩:=List.getElem?_eq_some_iff.1 h;apply List.ext_getElem?;intro q;rw[List.getElem?_set];unfold flags;simp only[List.getElem?_map,List.length_map];split
 ·rename_i e;subst e;simp[hk,hc]
 ·rename_i hne;cases hq:A[q]? with
  | none=>rfl
  | some d =>
   obtain ⟨hq1,hq2⟩:=List.getElem?_eq_some_iff.1 hq;have hd:¬ d.id=c.id:=fun e=>by
    have h1:(A.map Cl.id)[q]?=some c.id:=by simp[hq,e]
    have h2:(A.map Cl.id)[k]?=some c.id:=by simp[h]
    obtain ⟨i1,e1⟩:=List.getElem?_eq_some_iff.1 h1;obtain ⟨i2,e2⟩:=List.getElem?_eq_some_iff.1 h2
    rcases Nat.lt_or_gt_of_ne hne with h3 | h3
    ·exact List.pairwise_iff_getElem.1 hn k q i2 i1 h3 (e2.trans e1.symm)
    ·exact List.pairwise_iff_getElem.1 hn q k i1 i2 h3 (e1.trans e2.symm)
   simp[hd]
theorem atC_self {A:List Cl}{id:Int}{c:Cl}(h:findT A id=some c):c.id=id:=(findT_mem h).2
def sumsL (L:List (Int×List Side)):List (Int×Int):=L.foldl (fun zl p=>p.2.foldl (fun zl r=>addZ zl r.cell (p.1 * r.sign)) zl) []
def metL (L:List (Int×List Side)):List (Int×List Int):=L.zipIdx.foldl (fun ml p=>p.1.2.foldl (stepL p.2) ml) []
def aroundL (L:List (Int×List Side)):Int :=
 if (sumsL L).any (fun p=>decide (p.2≠0)) then 24
 else if (metL L).any (fun p=>decide ((p.2.length:Int)≠2)) then 25
 else if ((seenC (joinC (metL L))).length:Int)≠L.length then 25 else 0
def lookL (tl:List Cl)(c:Cl):List (Int×List Side):=c.sides.map fun x=>(x.sign,sidesOf tl x)
theorem aroundC_L (tl:List Cl)(c:Cl):aroundC tl c=aroundL (lookL tl c):=by
 have h1:sumsC tl c.sides=sumsL (lookL tl c):=by
  unfold sumsC sumsL lookL;rw[List.foldl_map];rfl
 have h2:metC tl c.sides=metL (lookL tl c):=by
  unfold metC metL lookL;rw[List.zipIdx_map,List.foldl_map];rfl
 have h3:(lookL tl c).length=c.sides.length:=by simp[lookL]
 unfold aroundC aroundL;rw[h1,h2,h3]
def renS (φ:Int→Int)(r:Side):Side:=⟨φ r.cell,r.sign⟩
def renL (φ:Int→Int)(L:List (Int×List Side)):List (Int×List Side):=L.map fun p=>(p.1,p.2.map (renS φ))
def keyL (L:List (Int×List Side)):List Int:=L.flatMap fun p=>p.2.map Side.cell
def ren1 {α:Type}(φ:Int→Int)(zl:List (Int×α)):List (Int×α):=zl.map fun p=>(φ p.1,p.2)
section
variable {φ:Int→Int}{K:Int→Prop}(hφ:∀ a b,K a→K b→φ a=φ b→a=b)
include hφ
theorem addZ_ren {zl:List (Int×Int)}{k:Int}(x:Int)(hz:∀ p∈zl,K p.1)(hk:K k):addZ (ren1 φ zl) (φ k) x=ren1 φ (addZ zl k x):=by
 induction zl with
 | nil=>rfl
 | cons p r ih =>
  obtain ⟨a,z⟩:=p;have ha:=hz (a,z) (by simp);simp only[ren1,List.map_cons,addZ] at ih ⊢;by_cases h:k=a
  ·subst h; simp
  ·rw[if_neg h,if_neg fun e=>h (hφ k a hk ha e)];simp only[List.map_cons];rw[ih fun p hp=>hz p (by simp[hp])]
theorem addL_ren {zl:List (Int×List Int)}{k:Int}(x:Int)(hz:∀ p∈zl,K p.1)(hk:K k):addL (ren1 φ zl) (φ k) x=ren1 φ (addL zl k x):=by
 induction zl with
 | nil=>rfl
 | cons p r ih =>
  obtain ⟨a,z⟩:=p;have ha:=hz (a,z) (by simp);simp only[ren1,List.map_cons,addL] at ih ⊢;by_cases h:k=a
  ·subst h; simp
  ·rw[if_neg h,if_neg fun e=>h (hφ k a hk ha e)];simp only[List.map_cons];rw[ih fun p hp=>hz p (by simp[hp])]
omit hφ in
theorem addZ_key {zl:List (Int×Int)}{k x:Int}(hz:∀ p∈zl,K p.1)(hk:K k):∀ p∈addZ zl k x,K p.1:=by
 induction zl with
 | nil=>intro p hp; simp[addZ] at hp; subst hp; exact hk
 | cons q r ih =>
  obtain ⟨a,z⟩:=q;have ha:=hz (a,z) (by simp);intro p hp;simp only[addZ] at hp;split at hp
  ·rcases List.mem_cons.1 hp with rfl | hp
   ·exact ha
   ·exact hz p (by simp[hp])
  ·rcases List.mem_cons.1 hp with rfl | hp
   ·exact ha
   ·exact ih (fun p hp=>hz p (by simp[hp])) p hp
omit hφ in
theorem addL_key {zl:List (Int×List Int)}{k x:Int}(hz:∀ p∈zl,K p.1)(hk:K k):∀ p∈addL zl k x,K p.1:=by
 induction zl with
 | nil=>intro p hp; simp[addL] at hp; subst hp; exact hk
 | cons q r ih =>
  obtain ⟨a,z⟩:=q;have ha:=hz (a,z) (by simp);intro p hp;simp only[addL] at hp;split at hp
  ·rcases List.mem_cons.1 hp with rfl | hp
   ·exact ha
   ·exact hz p (by simp[hp])
  ·rcases List.mem_cons.1 hp with rfl | hp
   ·exact ha
   ·exact ih (fun p hp=>hz p (by simp[hp])) p hp
theorem sums1_ren (t:Int):∀ (l:List Side) (zl:List (Int×Int)),(∀ r∈l,K r.cell)→(∀ p∈zl,K p.1) →
  (l.map (renS φ)).foldl (fun zl r=>addZ zl r.cell (t * r.sign)) (ren1 φ zl)=ren1 φ (l.foldl (fun zl r=>addZ zl r.cell (t * r.sign)) zl)∧∀ p∈l.foldl (fun zl r=>addZ zl r.cell (t * r.sign)) zl,K p.1
 | [],zl,_,hz=>⟨rfl,hz⟩
 | r::l,zl,hl,hz=>by
  have hr:=hl r (by simp);have:=sums1_ren t l (addZ zl r.cell (t * r.sign)) (fun q hq=>hl q (by simp[hq])) (addZ_key hz hr);simp only[List.map_cons,List.foldl_cons];rw[show (renS φ r).cell=φ r.cell from rfl,show (renS φ r).sign=r.sign from rfl,addZ_ren hφ _ hz hr];exact this
theorem met1_ren (t:Int):∀ (l:List Side) (zl:List (Int×List Int)),(∀ r∈l,K r.cell)→(∀ p∈zl,K p.1) →
  (l.map (renS φ)).foldl (stepL t) (ren1 φ zl)=ren1 φ (l.foldl (stepL t) zl)∧∀ p∈l.foldl (stepL t) zl,K p.1
 | [],zl,_,hz=>⟨rfl,hz⟩
 | r::l,zl,hl,hz=>by
  have hr:=hl r (by simp);have:=met1_ren t l (addL zl r.cell t) (fun q hq=>hl q (by simp[hq])) (addL_key hz hr);simp only[List.map_cons,List.foldl_cons];rw[show stepL t (ren1 φ zl) (renS φ r)=ren1 φ (addL zl r.cell t) from addL_ren hφ _ hz hr];exact this
theorem sums_ren:∀ (L:List (Int×List Side)) (zl:List (Int×Int)),(∀ k∈keyL L,K k)→(∀ p∈zl,K p.1) →
  (renL φ L).foldl (fun zl p=>p.2.foldl (fun zl r=>addZ zl r.cell (p.1 * r.sign)) zl) (ren1 φ zl)=ren1 φ (L.foldl (fun zl p=>p.2.foldl (fun zl r=>addZ zl r.cell (p.1 * r.sign)) zl) zl)
 | [],_,_,_=>rfl
 | p::L,zl,hl,hz=>by
  obtain ⟨h1,h2⟩:=sums1_ren hφ p.1 p.2 zl (fun r hr=>hl _ (List.mem_flatMap.2 ⟨p,by simp,List.mem_map.2 ⟨r,hr,rfl⟩⟩)) hz;simp only[renL,List.map_cons,List.foldl_cons] at h1 ⊢;rw[h1];exact sums_ren L _ (fun k hk=>hl k (by simp only[keyL,List.flatMap_cons,List.mem_append]; exact .inr hk)) h2
theorem met_ren:∀ (L:List (Int×List Side)) (i:Nat) (zl:List (Int×List Int)),(∀ k∈keyL L,K k)→(∀ p∈zl,K p.1) →
  ((renL φ L).zipIdx i).foldl (fun ml p=>p.1.2.foldl (stepL p.2) ml) (ren1 φ zl)=ren1 φ ((L.zipIdx i).foldl (fun ml p=>p.1.2.foldl (stepL p.2) ml) zl)
 | [],_,_,_,_=>rfl
 | p::L,i,zl,hl,hz=>by
  obtain ⟨h1,h2⟩:=met1_ren hφ i p.2 zl (fun r hr=>hl _ (List.mem_flatMap.2 ⟨p,by simp,List.mem_map.2 ⟨r,hr,rfl⟩⟩)) hz;simp only[renL,List.map_cons,List.zipIdx_cons,List.foldl_cons] at h1 ⊢;rw[h1];exact met_ren L (i+1) _ (fun k hk=>hl k (by simp only[keyL,List.flatMap_cons,List.mem_append]; exact .inr hk)) h2
end
theorem any_ren {α:Type}(φ:Int→Int)(zl:List (Int×α))(q:α→Bool):(ren1 φ zl).any (fun p=>q p.2)=zl.any (fun p=>q p.2):=by
 simp only[ren1,List.any_map];rfl
theorem join_ren (φ:Int→Int)(ml:List (Int×List Int)):joinC (ren1 φ ml)=joinC ml:=by
 simp only[joinC,ren1,List.foldl_map];rfl
theorem aroundL_ren {φ:Int→Int}{L:List (Int×List Side)}(hφ:∀ a∈keyL L,∀ b∈keyL L,φ a=φ b→a=b):aroundL (renL φ L)=aroundL L:=by
 have h1:sumsL (renL φ L)=ren1 φ (sumsL L):=sums_ren (K:=fun k=>k∈keyL L) (fun a b ha hb=>hφ a ha b hb) L [] (fun _ h=>h) (by simp);have h2:metL (renL φ L)=ren1 φ (metL L):=met_ren (K:=fun k=>k∈keyL L) (fun a b ha hb=>hφ a ha b hb) L 0 [] (fun _ h=>h) (by simp);unfold aroundL;rw[h1,h2,any_ren φ _ fun z=>decide (z≠0),any_ren φ _ fun l:List Int=>decide ((l.length:Int)≠2),join_ren];have h3:(renL φ L).length=L.length:=by simp[renL]
 rw[h3]
def code (k q:Nat):Int:=if q<k then ((q * 16+k:Nat):Int) else ((k * 16+(q+1):Nat):Int)
def patS (n:Nat):List (Int×List Side):=(List.range n).reverse.map fun k:Nat=>(signC k,(List.range (n - 1)).reverse.map fun q:Nat=>⟨code k q,signC q⟩)
theorem patS_ok:∀ n,n<10→2<n→aroundL (patS n)=0:=by decide +kernel
theorem pickB_cons (b:Nat)(a:Int)(l:List Int):pickB b (a::l)=(if b % 2=1 then [a] else [])++pickB (b / 2) l:=by
 unfold pickB;have hz:∀ (l:List Int) (i:Nat),((l.zipIdx (i+1)).filter fun p=>b / 2 ^ p.2 % 2 == 1).map (·.1)=((l.zipIdx i).filter fun p=>b / 2 / 2 ^ p.2 % 2 == 1).map (·.1):=by
  intro l;induction l with
  | nil=>intro i; rfl
  | cons x r ih =>
   intro i;have hp:b / 2 ^ (i+1)=b / 2 / 2 ^ i:=by rw[Nat.pow_succ,Nat.mul_comm,Nat.div_div_eq_div_mul]
   simp only[List.zipIdx_cons,List.filter_cons,hp];have:=ih (i+1);split
   ·simp only[List.map_cons,this]
   ·exact this
 simp only[List.zipIdx_cons,List.filter_cons,Nat.pow_zero,Nat.div_one];by_cases h:b % 2=1
 ·simp only[h,if_true,beq_self_eq_true,List.map_cons];rw[hz l 0];rfl
 ·have h2:(b % 2 == 1)=false:=by simpa using h
  simp only[h,h2,if_false,Bool.false_eq_true];rw[hz l 0];rfl
theorem pickB_nil (b:Nat):pickB b []=[]:=rfl
theorem pickB_sub (l:List Int):∀ b,(pickB b l).Sublist l:=by
 induction l with
 | nil=>intro b; exact .slnil
 | cons a r ih =>
  intro b;rw[pickB_cons];split
  ·exact (ih _).cons_cons a
  ·exact (ih _).cons a
theorem pickB_ne (l:List Int):∀ b,b≠0→b<2 ^ l.length→pickB b l≠[]:=by
 induction l with
 | nil=>intro b h0 h; simp at h; exact absurd h h0
 | cons a r ih =>
  intro b h0 h;rw[pickB_cons];split
  ·simp
  ·rename_i h1;rw[List.length_cons,Nat.pow_succ] at h;simpa using ih (b / 2) oM oM
theorem pick_of_sub {x l:List Int}(h:x.Sublist l):∃ b,b<2 ^ l.length∧pickB b l=x:=by
 induction h with
 | slnil=>exact⟨0,by simp,rfl⟩
 | cons a _ ih =>
  obtain ⟨b,hb,e⟩:=ih;refine⟨2 * b,by rw[List.length_cons,Nat.pow_succ]; omega,?_⟩;rw[pickB_cons,if_neg oM,show 2 * b / 2=b by omega,e];rfl
 | cons_cons a _ ih =>
  obtain ⟨b,hb,e⟩:=ih;refine⟨2 * b+1,by rw[List.length_cons,Nat.pow_succ]; omega,?_⟩;rw[pickB_cons,if_pos oM,show (2 * b+1) / 2=b by omega,e];rfl
theorem subsetsC_iff (t x:List Int):x∈subsetsC t↔x.Sublist t∧x≠[]:=by
 unfold subsetsC;constructor
 ·intro h;obtain ⟨i,hi,rfl⟩:=List.mem_map.1 h;have:=List.mem_range.1 hi;exact⟨pickB_sub _ _,pickB_ne _ _ oM oM⟩
 ·rintro ⟨h,hne⟩;obtain ⟨b,hb,rfl⟩:=pick_of_sub h;have h0:b≠0:=fun e=>by
   subst e;apply hne;have:∀ l:List Int,pickB 0 l=[]:=by
    intro l;induction l with
    | nil=>rfl
    | cons a r ih=>rw[pickB_cons]; simpa using ih
   exact this t
  exact List.mem_map.2 ⟨b - 1,List.mem_range.2 oM,by rw[show b - 1+1=b by omega]⟩
structure Good (all:List (List Int)):Prop where
 strict:StrictL all
 form:∀ s∈all,s≠[]∧StrictI s∧s.length≤9
 faces:∀ s∈all,2≤s.length→∀ k,k<s.length→s.eraseIdx k∈all
theorem Good.nil:Good []:=⟨List.Pairwise.nil,by simp,by simp⟩
theorem Good.add {all:List (List Int)}{t:List Int}(h:Good all)(ht:StrictI t)(hl:t.length≤9):Good (addSets all t):=by
 refine⟨addSets_strict all t,fun s hs=>?_,fun s hs h2 k hk=>?_⟩
 ·rcases (addSets_iff all t s).1 hs with h1 | h1
  ·exact h.form s h1
  ·obtain ⟨h2,h3⟩:=(subsetsC_iff t s).1 h1;exact⟨h3,ht.sublist h2,Nat.le_trans h2.length_le hl⟩
 ·refine (addSets_iff all t _).2 ?_
  rcases (addSets_iff all t s).1 hs with h1 | h1
  ·exact .inl (h.faces s h1 h2 k hk)
  ·refine .inr ((subsetsC_iff t _).2 ⟨(List.eraseIdx_sublist s k).trans ((subsetsC_iff t s).1 h1).1,fun e=>?_⟩);have:=congrArg List.length e;rw[List.length_eraseIdx] at this;simp[hk] at this;omega
theorem simpAll_good:∀ (ls acc:List (List Int)) {all:List (List Int)},simpAll acc ls=some all→Good acc→acc.length≤4000→Good all∧all.length≤4000
 | [],acc,all,h,hg,hl=>by cases h; exact⟨hg,hl⟩
 | s::r,acc,all,h,hg,hl=>by
  unfold simpAll at h;split at h
  ·exact simpAll_good r acc h hg hl
  ·rename_i hb;split at h
   ·cases h
   ·rename_i hlen;refine simpAll_good r _ h (hg.add (setC_strict s) ?_) oM;cases hc:setC s with
    | nil=>simp
    | cons a q =>
     rw[hc] at hb;simp[badSet] at hb;simp;omega
section
variable {all:List (List Int)}(hg:Good all)
include hg
theorem Good.get_lb {t:List Int}(ht:t∈all):all[lbL all t]?=some t:=by
 obtain ⟨h1,h2⟩:=lbL_split t hg.strict.srt;have hs:StrictL (all.take (lbL all t)++all.drop (lbL all t)):=by rw[List.take_append_drop]; exact hg.strict
 have hd:=(List.pairwise_append.1 hs).2.1;have hm:t∈all.drop (lbL all t):=by
  have:t∈all.take (lbL all t)++all.drop (lbL all t):=by rw[List.take_append_drop]; exact ht
  rcases List.mem_append.1 this with h | h
  ·have:=h1 t h;rw[compareC_self] at this;exact absurd this dC
  ·exact h
 have e:all[lbL all t]?=(all.drop (lbL all t))[0]?:=by simp
 rw[e];cases hc:all.drop (lbL all t) with
 | nil=>rw[hc] at hm; simp at hm
 | cons y r =>
  rw[hc] at hm hd h2
  rcases List.mem_cons.1 hm with rfl | hm
  ·rfl
  ·exact absurd ((List.pairwise_cons.1 hd).1 t hm) (h2 y (by simp))
theorem Good.lb_get {k:Nat}(hk:k<all.length):lbL all all[k]=k:=by
 have h1:=hg.get_lb (gM hk);obtain ⟨h2,h3⟩:=List.getElem?_eq_some_iff.1 h1;have hself:¬ compareC all[k] all[k]<0:=by rw[compareC_self]; decide
 rcases Nat.lt_trichotomy (lbL all all[k]) k with h | h | h
 ·have:=List.pairwise_iff_getElem.1 hg.strict _ _ h2 hk h;rw[h3] at this;exact absurd this hself
 ·exact h
 ·have:=List.pairwise_iff_getElem.1 hg.strict _ _ hk h2 h;rw[h3] at this;exact absurd this hself
end
def ixC (all:List (List Int))(t:List Int):Int:=((lbL all t:Nat):Int)+1
theorem Good.inj {all:List (List Int)}(hg:Good all){t u:List Int}(ht:t∈all)(hu:u∈all)(h:ixC all t=ixC all u):t=u:=by
 have h1:=hg.get_lb ht;have h2:=hg.get_lb hu;have:lbL all t=lbL all u:=by unfold ixC at h; omega
 rw[this,h2] at h1;injection h1 with h1
 exact h1.symm
theorem Good.lt {all:List (List Int)}(hg:Good all){t u:List Int}(ht:t∈all)(hu:u∈all)(h:compareC t u<0):ixC all t<ixC all u:=by
 obtain ⟨i1,e1⟩:=List.getElem?_eq_some_iff.1 (hg.get_lb ht);obtain ⟨i2,e2⟩:=List.getElem?_eq_some_iff.1 (hg.get_lb hu);unfold ixC
 rcases Nat.lt_trichotomy (lbL all t) (lbL all u) with h1 | h1 | h1
 ·omega
 ·have:t=u:=hg.inj ht hu (by unfold ixC; omega);subst this;rw[compareC_self] at h;exact absurd h dC
 ·have:=List.pairwise_iff_getElem.1 hg.strict _ _ i2 i1 h1;rw[e1,e2] at this;exact absurd h (compareC_asymm this)
def facesC (all:List (List Int))(s:List Int):List Side:=if s.length≤1 then [] else (List.range s.length).reverse.map fun k:Nat=>⟨ixC all (s.eraseIdx k),signC k⟩
def celC (all:List (List Int))(s:List Int):Cl:=⟨ixC all s,(s.length:Int) - 1,facesC all s⟩
theorem erase_lt {s:List Int}(hs:StrictI s):∀ {i j:Nat},i<j→j<s.length→compareC (s.eraseIdx j) (s.eraseIdx i)<0:=by
 induction s with
 | nil=>intro i j _ h; simp at h
 | cons a r ih =>
  intro i j hij hj;obtain ⟨h1,h2⟩:=List.pairwise_cons.1 hs;cases j with
  | zero=>omega
  | succ j =>
   simp only[List.length_cons] at hj;cases i with
   | zero =>
    cases r with
    | nil=>simp at hj
    | cons b q =>
     have hab:=h1 b (by simp);have hl:((a::b::q).eraseIdx (j+1)).length=((a::b::q).eraseIdx 0).length:=by
      simp[List.length_eraseIdx] at hj ⊢;omega
     rw[compareC_same hl];simp only[List.eraseIdx_cons_succ,List.eraseIdx_cons_zero,cmpL];have:cmpI a b = -1:=by unfold cmpI; rw[if_pos hab]
     simp[this]
   | succ i =>
    have h3:=ih h2 (i:=i) (j:=j) oM oM;have hl:(r.eraseIdx j).length=(r.eraseIdx i).length:=by
     rw[List.length_eraseIdx,List.length_eraseIdx,if_pos oM,if_pos oM]
    have hl2:((a::r).eraseIdx (j+1)).length=((a::r).eraseIdx (i+1)).length:=by simp[hl]
    rw[compareC_same hl] at h3;rw[compareC_same hl2];simp only[List.eraseIdx_cons_succ,cmpL];have:cmpI a a=0:=by unfold cmpI; rw[if_neg oM,if_neg oM]
    simpa [this] using h3
theorem find_mem {A:List Cl}(h:(A.map Cl.id).Nodup){x:Cl}(hx:x∈A):findT A x.id=some x:=by
 induction A with
 | nil=>simp at hx
 | cons c t ih =>
  simp only[List.map_cons,List.nodup_cons] at h;unfold findT
  rcases List.mem_cons.1 hx with rfl | hx
  ·simp
  ·have hne:¬ c.id=x.id:=fun e=>h.1 (by rw[e]; exact List.mem_map.2 ⟨x,hx,rfl⟩);rw[List.find?_cons];simp only[hne,decide_false];exact ih h.2 hx
theorem normC_idem (c:Cl):normC (normC c)=normC c:=by
 unfold normC;rw[← eq_sortBy (sortBy_srt c.sides) (Stab.refl _)]
theorem canonC_idem (l:List Cl):canonC (canonC l)=canonC l:=by
 have h1:sortBy Cl.id (canonC l)=canonC l:=(eq_sortBy (canonC_srt l) (Stab.refl _)).symm;show (sortBy Cl.id (canonC l)).map normC=canonC l;rw[h1];unfold canonC;rw[List.map_map];exact List.map_congr_left fun c _=>normC_idem c
theorem sort_rev {α:Type}{key:α→Int}{l:List α}(h:l.Pairwise fun a b=>key b<key a):sortBy key l=l.reverse:=by
 refine (eq_sortBy ?_ ⟨by simp,fun c=>?_⟩).symm
 ·unfold Srt;rw[List.pairwise_reverse];exact h.imp fun h=>by omega
 ·rw[List.filter_reverse];have:∀ m:List α,m.Pairwise (fun a b=>key b<key a)→(∀ a∈m,(key a == c)=true)→m.reverse=m:=by
   intro m hm hc
   match m,hm,hc with
   | [],_,_=>rfl
   | [_],_,_=>rfl
   | a::b::r,hm,hc =>
    have h1:=(List.pairwise_cons.1 hm).1 b (by simp);have h2:=hc a (by simp);have h3:=hc b (by simp);simp at h2 h3;omega
  exact this _ (h.sublist List.filter_sublist) fun a ha=>(List.mem_filter.1 ha).2
section
variable {all:List (List Int)}(hg:Good all)
include hg
theorem Good.face {s:List Int}(hs:s∈all){k:Nat}(hk:k<s.length)(h2:2≤s.length):s.eraseIdx k∈all∧(s.eraseIdx k).length=s.length - 1 :=
 ⟨hg.faces s hs h2 k hk,by rw[List.length_eraseIdx,if_pos hk]⟩
theorem Good.sides {s:List Int}(hs:s∈all):sortBy Side.cell (simpSides all s s.length)=facesC all s:=by
 have hne:=(hg.form s hs).1;have hst:=(hg.form s hs).2.1;by_cases h1:s.length≤1
 ·have h0:s.length=1:=by have:=List.length_pos_iff.2 hne; omega
  unfold facesC;rw[if_pos h1,h0];have:sideAt all s 0=[]:=by
   unfold sideAt;have h3:(s.eraseIdx 0).length=0:=by rw[List.length_eraseIdx,if_pos oM]; omega
   rw[if_neg oM]
  simp[simpSides,List.range_succ,this,sortBy]
 ·have h2:2≤s.length:=oM;have e:simpSides all s s.length=(List.range s.length).map fun k:Nat=>(⟨ixC all (s.eraseIdx k),signC k⟩:Side):=by
   unfold simpSides;rw[List.flatMap_def];have:(List.range s.length).map (sideAt all s)=(List.range s.length).map fun k:Nat=>[(⟨ixC all (s.eraseIdx k),signC k⟩:Side)]:=List.map_congr_left fun k hk=>by
    have hk:=List.mem_range.1 hk;unfold sideAt;rw[(hg.face hs hk h2).2,if_pos oM];rfl
   rw[this];generalize List.range s.length=R;induction R with
   | nil=>rfl
   | cons x r ih=>simp only[List.map_cons,List.flatten_cons,ih]; rfl
  unfold facesC;rw[if_neg h1,e,List.map_reverse];refine sort_rev ?_;rw[List.pairwise_map];refine List.Pairwise.imp_of_mem ?_ (List.pairwise_lt_range (n:=s.length));intro i j hi hj hij;have hi:=List.mem_range.1 hi;have hj:=List.mem_range.1 hj;exact hg.lt (hg.face hs hj h2).1 (hg.face hs hi h2).1 (erase_lt hst hij hj)
theorem Good.cells:canonC (simpCells all)=all.map (celC all):=by
 rw[canon_simp];apply List.ext_getElem?;intro k;simp only[List.getElem?_map];by_cases hk:k<all.length
 ·rw[simpCells_get hk,gE hk];simp only[Option.map_some,Option.some.injEq];unfold normC simpCell celC;simp only[hg.sides (gM hk),ixC,hg.lb_get hk]
 ·rw[List.getElem?_eq_none (by rw[simpCells_length]; omega),List.getElem?_eq_none oM];rfl
theorem Good.ids:((all.map (celC all)).map Cl.id).Pairwise (· < ·):=by
 rw[List.map_map,List.pairwise_map];refine List.Pairwise.imp_of_mem ?_ hg.strict;intro a b ha hb h;exact hg.lt ha hb h
theorem Good.find {s:List Int}(hs:s∈all):findT (all.map (celC all)) (ixC all s)=some (celC all s) :=
 find_mem (x:=celC all s) (hg.ids.imp fun h=>by omega) (List.mem_map.2 ⟨s,hs,rfl⟩)
end
theorem signC_one (k:Nat):signC k=1∨signC k = -1:=by unfold signC; omega
theorem facesC_get {all:List (List Int)}{s:List Int}(h:2≤s.length){i:Nat}(hi:i<s.length):(facesC all s)[i]?=some ⟨ixC all (s.eraseIdx (s.length - 1 - i)),signC ((s.length - 1 - i:Nat):Int)⟩:=by
 unfold facesC;rw[if_neg oM,List.getElem?_map,List.getElem?_reverse (by simpa using hi)];simp only[List.length_range];rw[List.getElem?_range oM];rfl
theorem facesC_length {all:List (List Int)}{s:List Int}:(facesC all s).length=if s.length≤1 then 0 else s.length:=by
 unfold facesC;split <;> simp
section
variable {all:List (List Int)}(hg:Good all)
include hg
theorem Good.formOk {s:List Int}(hs:s∈all):formC (all.map (celC all)) (celC all s)=0:=by
 obtain ⟨hne,hst,h9⟩:=hg.form s hs;have hp:=List.length_pos_iff.2 hne;have hlen:(celC all s).sides.length=if s.length≤1 then 0 else s.length:=facesC_length
 have hdim:(celC all s).dim=(s.length:Int) - 1:=rfl;have h1:dimBad (celC all s)=false:=by unfold dimBad; rw[hdim]; simp; omega
 have h2:cntBad (celC all s)=false:=by
  unfold cntBad;rw[hdim,hlen];split
  ·simp; omega
  ·simp; omega
 have h3:(List.range (celC all s).sides.length).any (badAt (all.map (celC all)) (celC all s))=false:=by
  rw[List.any_eq_false];intro i hi;have hi:=List.mem_range.1 hi;rw[hlen] at hi;split at hi
  ·omega
  ·rename_i hl;have h2:2≤s.length:=oM;have hgi:=facesC_get (all:=all) h2 hi;have hf:=hg.face hs (k:=s.length - 1 - i) oM h2;unfold badAt;rw[show (celC all s).sides[i]?=_ from hgi];show ¬ badSide _ _ i ⟨ixC all (s.eraseIdx (s.length - 1 - i)),_⟩=true;unfold badSide;dsimp only;rw[hg.find hf.1];have hd:(celC all (s.eraseIdx (s.length - 1 - i))).dim=(celC all s).dim - 1:=by
    show ((s.eraseIdx (s.length - 1 - i)).length:Int) - 1=(s.length:Int) - 1 - 1;rw[hf.2];omega
   simp only[Option.isSome_some,Bool.not_true,Bool.false_or,Option.getD_some,hd,ne_eq,not_true_eq_false,decide_false];by_cases hi0:i>0
   ·have hgp:=facesC_get (all:=all) h2 (i:=i - 1) oM;rw[show (celC all s).sides[i - 1]?=_ from hgp];have hf2:=hg.face hs (k:=s.length - 1 - (i - 1)) oM h2;have:=hg.lt hf2.1 hf.1 (erase_lt hst oM oM);simp;omega
   ·simp[hi0]
 have h4:(celC all s).sides.any signBad=false:=by
  rw[List.any_eq_false];intro x hx;show ¬ signBad x=true;have hx:x∈facesC all s:=hx;unfold facesC at hx;split at hx
  ·simp at hx
  ·obtain ⟨k,_,rfl⟩:=List.mem_map.1 hx
   rcases signC_one k with h | h <;> simp[signBad,h]
 have h5:(decide ((celC all s).dim=1)&&decide (sumS (celC all s).sides≠0))=false:=by
  by_cases hd:(celC all s).dim=1
  ·rw[hdim] at hd;have hl2:s.length=2:=oM;have:sumS (celC all s).sides=0:=by
    show sumS (facesC all s)=0;unfold facesC;rw[if_neg oM,hl2];simp[List.range_succ,sumS,signC]
   rw[this];simp
  ·simp[hd]
 unfold formC;rw[h1,h2,h3,h4,h5];rfl
end
theorem erase_comm (s:List Int):∀ {k q:Nat},k≤q→(s.eraseIdx k).eraseIdx q=(s.eraseIdx (q+1)).eraseIdx k:=by
 induction s with
 | nil=>intro k q _; rfl
 | cons a r ih =>
  intro k q h;cases k with
  | zero=>simp
  | succ k =>
   cases q with
   | zero=>omega
   | succ q =>
    simp only[List.eraseIdx_cons_succ];rw[ih oM]
theorem mem_erase2 {s:List Int}(hs:s.Nodup){a b i:Nat}(hab:a<b)(hb:b<s.length)(hi:i<s.length):s[i]∈(s.eraseIdx b).eraseIdx a↔i≠a∧i≠b:=by
 have hinj:∀ {j k:Nat} (hj:j<s.length) (hk:k<s.length),s[j]=s[k]→j=k:=fun {j k} hj hk e=>by
  rcases Nat.lt_trichotomy j k with h | h | h
  ·exact absurd e (List.pairwise_iff_getElem.1 hs j k hj hk h)
  ·exact h
  ·exact absurd e.symm (List.pairwise_iff_getElem.1 hs k j hk hj h)
 rw[List.mem_eraseIdx_iff_getElem];constructor
 ·rintro ⟨j,hj1,hj2,e⟩;have hj1':=hj1;rw[List.length_eraseIdx,if_pos hb] at hj1';rw[List.getElem_eraseIdx] at e;split at e
  ·have:=hinj _ _ e;omega
  ·have:=hinj _ _ e;omega
 ·rintro ⟨h1,h2⟩
  rcases Nat.lt_or_ge i b with h | h
  ·refine⟨i,by rw[List.length_eraseIdx,if_pos hb]; omega,h1,?_⟩;rw[List.getElem_eraseIdx,dif_pos h]
  ·refine⟨i - 1,by rw[List.length_eraseIdx,if_pos hb]; omega,oM,?_⟩;rw[List.getElem_eraseIdx,dif_neg oM];congr 1;omega
theorem erase2_inj {s:List Int}(hs:s.Nodup){a b c d:Nat}(hab:a<b)(hb:b<s.length)(hcd:c<d)(hd:d<s.length)(h:(s.eraseIdx b).eraseIdx a=(s.eraseIdx d).eraseIdx c):a=c∧b=d:=by
 have key:∀ i,i<s.length→((i≠a∧i≠b)↔(i≠c∧i≠d)):=fun i hi=>by
  rw[← mem_erase2 hs hab hb hi,← mem_erase2 hs hcd hd hi,h]
 have ha:=key a oM;have hb':=key b hb;have hc:=key c oM;have hd':=key d hd;omega
def phiC (all:List (List Int))(s:List Int)(c:Int):Int:=ixC all ((s.eraseIdx (c % 16).toNat).eraseIdx (c / 16).toNat)
theorem code_ab {n k q:Nat}(hk:k<n)(hq:q<n - 1):∃ a b:Nat,a<b∧b<n∧code k q=((a * 16+b:Nat):Int)∧((q<k∧a=q∧b=k)∨(k≤q∧a=k∧b=q+1)):=by
 unfold code;by_cases h:q<k
 ·rw[if_pos h]; exact⟨q,k,h,hk,rfl,.inl ⟨h,rfl,rfl⟩⟩
 ·rw[if_neg h]; exact⟨k,q+1,oM,oM,rfl,.inr ⟨oM,rfl,rfl⟩⟩
theorem code_div {a b:Nat}(h:b<16):((((a * 16+b:Nat):Int) % 16).toNat=b)∧((((a * 16+b:Nat):Int) / 16).toNat=a):=oM
section
variable {all:List (List Int)}(hg:Good all)
include hg
theorem Good.aroundOk {s:List Int}(hs:s∈all)(h3:2<s.length):aroundC (all.map (celC all)) (celC all s)=0:=by
 obtain ⟨hne,hst,h9⟩:=hg.form s hs;have hnd:s.Nodup:=hst.imp fun h=>by omega
 have hE:∀ a b,a<b→b<s.length→(s.eraseIdx b).eraseIdx a∈all:=fun a b hab hb=>by
  have h1:=hg.face hs (k:=b) hb oM;exact (hg.face h1.1 (k:=a) (by rw[h1.2]; omega) (by rw[h1.2]; omega)).1
 have hlook:lookL (all.map (celC all)) (celC all s)=renL (phiC all s) (patS s.length):=by
  unfold lookL renL patS;show (facesC all s).map _=_;unfold facesC;rw[if_neg oM,List.map_map,List.map_map];refine List.map_congr_left fun k hk=>?_;have hk:k<s.length:=by simpa using hk
  have hf:=hg.face hs hk oM;simp only[Function.comp_def];congr 1;unfold sidesOf;rw[hg.find hf.1];show facesC all (s.eraseIdx k)=_;unfold facesC;rw[hf.2,if_neg oM,List.map_map];refine List.map_congr_left fun q hq=>?_;have hq:q<s.length - 1:=by simpa using hq
  obtain ⟨a,b,hab,hb,hc,hcase⟩:=code_ab hk hq;simp only[Function.comp_def,renS];congr 1;unfold phiC;rw[hc,(code_div (a:=a) (b:=b) oM).1,(code_div (a:=a) (b:=b) oM).2]
  rcases hcase with ⟨_,rfl,rfl⟩ | ⟨h,rfl,rfl⟩
  ·rfl
  ·rw[erase_comm s h]
 rw[aroundC_L,hlook,aroundL_ren,patS_ok _ oM h3];have hkey:∀ x∈keyL (patS s.length),∃ a b:Nat,a<b∧b<s.length∧x=((a * 16+b:Nat):Int):=by
  intro x hx;obtain ⟨p,hp,hx⟩:=List.mem_flatMap.1 hx;obtain ⟨k,hk,rfl⟩:=List.mem_map.1 hp;obtain ⟨r,hr,rfl⟩:=List.mem_map.1 hx;obtain ⟨q,hq,rfl⟩:=List.mem_map.1 hr;obtain ⟨a,b,hab,hb,hc,_⟩:=code_ab (n:=s.length) (k:=k) (q:=q) (by simpa using hk) (by simpa using hq);exact⟨a,b,hab,hb,hc⟩
 intro x hx y hy h;obtain ⟨a,b,hab,hb,rfl⟩:=hkey x hx;obtain ⟨c,d,hcd,hd,rfl⟩:=hkey y hy;unfold phiC at h;rw[(code_div (a:=a) (b:=b) oM).1,(code_div (a:=a) (b:=b) oM).2,(code_div (a:=c) (b:=d) oM).1,(code_div (a:=c) (b:=d) oM).2] at h;obtain ⟨rfl,rfl⟩:=erase2_inj hnd hab hb hcd hd (hg.inj (hE a b hab hb) (hE c d hcd hd) h);rfl
end
theorem chk1_fine {tl:List Cl}:∀ {l:List Cl} {n:Int},(∀ x∈l,n<x.id)→l.Pairwise (fun a b=>a.id<b.id)→(∀ x∈l,formC tl x=0)→chk1 tl l n=none
 | [],_,_,_,_=>rfl
 | x::r,n,h1,h2,h3=>by
  have hx:=h1 x (by simp);obtain ⟨h4,h5⟩:=List.pairwise_cons.1 h2;unfold chk1;rw[if_neg oM,if_neg (by rw[h3 x (by simp)]; simp)];exact chk1_fine h4 h5 fun y hy=>h3 y (by simp[hy])
theorem chk2_fine {tl:List Cl}:∀ {l:List Cl},(∀ x∈l,x.dim>1→aroundC tl x=0)→chk2 tl l=none
 | [],_=>rfl
 | x::r,h=>by
  unfold chk2;rw[if_neg fun ⟨h1,h2⟩=>h2 (h x (by simp) h1)];exact chk2_fine fun y hy=>h y (by simp[hy])
theorem check_ok {l:List Cl}(h0:l.length≤4000)(h1:∀ x∈canonC l,0<x.id)(h2:(canonC l).Pairwise fun a b=>a.id<b.id)(h3:∀ x∈canonC l,formC (canonC l) x=0)(h4:∀ x∈canonC l,x.dim>1→aroundC (canonC l) x=0):checkC l=(0,0):=by
 unfold checkC;rw[if_neg oM,tabC_strict h2,chk1_fine h1 h2 h3,chk2_fine h4];rfl
theorem simpC_right (ls:List (List Int)):checkC (simpC ls)=(0,0):=by
 unfold simpC;cases h:simpAll [] ls with
 | none=>rfl
 | some all =>
  obtain ⟨hg,hl⟩:=simpAll_good ls [] h Good.nil (by simp);dsimp only;have hc:canonC (canonC (simpCells all))=all.map (celC all):=by rw[canonC_idem,hg.cells]
  have hi:=hg.ids;rw[List.pairwise_map] at hi;refine check_ok (by rw[hg.cells]; simpa using hl) ?_ ?_ ?_ ?_ <;> rw[hc]
  ·intro x hx;obtain ⟨s,_,rfl⟩:=List.mem_map.1 hx;show 0<ixC all s;unfold ixC;omega
  ·exact hi
  ·intro x hx;obtain ⟨s,hs,rfl⟩:=List.mem_map.1 hx;exact hg.formOk hs
  ·intro x hx hd;obtain ⟨s,hs,rfl⟩:=List.mem_map.1 hx;refine hg.aroundOk hs ?_;have:(s.length:Int) - 1>1:=hd;omega
open Go.ChangeShapes Go.WideShapes Go.ChangeAt Go.RowKit
set_option maxRecDepth 100000
section
variable {H:Type}{enc:TypeId×Value→H}{W:World}{base:Nat}{spare:Nat→Bool}{hd:Bool}
theorem Tryz.bytes3:Tryz.prog.bytesOf 3=8:=by kernel_rfl
theorem lits_length (k:IntKind)(zs:List Int):(lits (H:=H) k zs).length=zs.length:=by simp[lits]
theorem ints_le {fuel:Nat}{v:Value}{x:DataW H×List MemPlace}(h:DataW.trod enc Tryz.prog W base spare hd fuel 22 [v]=some x)(hw:∀ n∈x.1.weights Tryz.prog 22,n≤reachBytes) :
  ∃ (l:List Int) (r:Sv),v = .slice r.p r.n r.c∧Ints (held W) v l∧l.length<17592186044416:=by
 obtain ⟨l,r,hv,hi⟩:=ints_of h;refine⟨l,r,hv,hi,?_⟩;subst hv;have hn:=(SlA.cap hi).1
 rcases open_ints uT22 uT3 cells3 h with ⟨hcs,_⟩ | ⟨a,len,cap,zs,hcs,_,hl,_,hz,rfl,_⟩
 ·simp at hcs;omega
 ·simp at hcs;have hlz:len≤zs.length:=by rw[hz]; split <;> omega
  have h1:=hw ((zs.take len).length * 8+(zs.drop len).length * 8) (by
   simp only[DataW.weights,uT22,bytes3,lits_length];rw[← Nat.add_mul];exact List.mem_cons_self)
  rw[List.length_take,List.length_drop] at h1;unfold reachBytes at h1;omega
theorem weightsAll_mem {P:Program}{e:TypeId}{n:Nat}{d:DataW H}:∀ {l:List (DataW H)},d∈l→n∈d.weights P e→n∈DataW.weightsAll P e l
 | [],h,_=>by simp at h
 | x::l,h,hn=>by
  unfold DataW.weightsAll
  rcases List.mem_cons.1 h with rfl | h
  ·exact List.mem_append.2 (.inl hn)
  ·exact List.mem_append.2 (.inr (weightsAll_mem h hn))
theorem lists_le {fuel:Nat}{v:Value}{x:DataW H×List MemPlace}(h:DataW.trod enc Tryz.prog W base spare hd fuel 108 [v]=some x)(hw:∀ n∈x.1.weights Tryz.prog 108,n≤reachBytes) :
  ∃ ls,Lists (held W) v ls∧∀ l∈ls,l.length<17592186044416:=by
 rcases Go.Deep.open_slice1 uT108 cells22 h with ⟨hcs,_⟩ | ⟨a,len,cap,m,n,V,D,Pl,hcs,_,hl,_,hmm,hx0,hx⟩
 ·simp at hcs;subst hcs;exact⟨[],⟨[],Sl.nil _ _,trivial⟩,by simp⟩
 ·obtain ⟨ls,hls⟩:=lists_of h;refine⟨ls,hls,fun l hlm=>?_⟩;simp at hcs;subst hcs;have hlm':len≤m:=by rw[hmm]; split <;> omega
  obtain ⟨rs,hrs,hall⟩:=hls;have hrl:=(SlA.cap hrs).1;have hal:=hall.length;obtain ⟨i,hi,rfl⟩:=List.getElem_of_mem hlm;have hir:i<rs.length:=oM;have hR:=hall.get (gE hi) (gE hir);obtain ⟨hc,ht⟩:=hx i oM;have hVi:V i = .slice rs[i].p rs[i].n rs[i].c:=by
   obtain ⟨p,c,he,⟨hlen,_⟩,hb⟩:=hrs;injection he with e1 e2 e3
   subst e1;have hne:rs.flatMap encSv.enc≠[]:=fun e0=>by
    have:=congrArg List.length e0;rw[encSv.length] at this;simp at this;rw[this] at hir;simp at hir
   obtain ⟨b,o,cs,T,fr,hp,hg,hcell⟩:=hb hne;injection hp with hp
   subst hp;have hg1:=encSv.get (gE hir) (j:=0) (v:=.slice rs[i].p rs[i].n rs[i].c) rfl;have h2:=hcell (i * 1+0) _ hg1;have hadd:(⟨b,o,none⟩:Addr).add i=⟨b,o+i,none⟩:=by unfold Addr.add; split <;> simp_all
   rw[hadd] at hc;have hheap:W.heap[b]?=some (.cells cs T fr):=hg;unfold World.cell? at hc;simp only[hheap] at hc;simp at hc h2;rw[hc] at h2;injection h2
  have hw2:∀ n∈(D i).weights Tryz.prog 22,n≤reachBytes:=fun q hq=>hw q (by
   rw[hx0];simp only[DataW.weights,uT108];exact List.mem_cons_of_mem _ (List.mem_append.2 (.inl (weightsAll_mem (List.mem_map.2 ⟨i,List.mem_range.2 oM,I⟩) hq))))
  obtain ⟨l2,r2,e2,hI2,hlt⟩:=ints_le ht hw2;rw[hVi] at e2 hI2;have h3:=(SlA.cap hI2).1;have h4:=(SlA.cap (show SlA encInt (held W) (.slice rs[i].p rs[i].n rs[i].c) ls[i] from hR)).1;omega
end
inductive Cn (E:Int→Int→Prop):Int→Int→Prop
 | refl (a:Int):Cn E a a
 | step {a b c:Int} (h:E a b∨E b a) (r:Cn E b c):Cn E a c
theorem Cn.trans {E:Int→Int→Prop}{a b c:Int}(h:Cn E a b)(k:Cn E b c):Cn E a c:=by
 induction h with
 | refl _=>exact k
 | step h _ ih=>exact .step h (ih k)
theorem Cn.one {E:Int→Int→Prop}{a b:Int}(h:E a b):Cn E a b:=.step (.inl h) (.refl b)
theorem Cn.symm {E:Int→Int→Prop}{a b:Int}(h:Cn E a b):Cn E b a:=by
 induction h with
 | refl _=>exact .refl _
 | step h _ ih=>exact ih.trans (.step h.symm (.refl _))
theorem Cn.mono {E E':Int→Int→Prop}(h:∀ a b,E a b→Cn E' a b){a b:Int}(hc:Cn E a b):Cn E' a b:=by
 induction hc with
 | refl _=>exact .refl _
 | step e _ ih =>
  rcases e with e | e
  ·exact (h _ _ e).trans ih
  ·exact (h _ _ e).symm.trans ih
theorem Cn.iso {E:Int→Int→Prop}{a b:Int}(h:∀ b,¬ E a b∧¬ E b a)(hc:Cn E a b):a=b:=by
 cases hc with
 | refl _=>rfl
 | step e _ =>
  rcases e with e | e
  ·exact absurd e (h _).1
  ·exact absurd e (h _).2
theorem Cn.add {E E':Int→Int→Prop}{x y:Int}(h:∀ a b,E' a b↔E a b∨(a=x∧b=y))(a b:Int):Cn E' a b↔Cn E a b∨(Cn E a x∧Cn E y b)∨(Cn E a y∧Cn E x b):=by
 have hxy:Cn E' x y:=.one ((h x y).2 (.inr ⟨rfl,rfl⟩));have hm:∀ {a b:Int},Cn E a b→Cn E' a b:=fun hc=>hc.mono fun a b e=>.one ((h a b).2 (.inl e));constructor
 ·intro hc;induction hc with
  | refl _=>exact .inl (.refl _)
  | step e _ ih =>
   have key:∀ {p q r:Int},Cn E p q→(Cn E q r∨(Cn E q x∧Cn E y r)∨(Cn E q y∧Cn E x r))→Cn E p r∨(Cn E p x∧Cn E y r)∨(Cn E p y∧Cn E x r):=by
    rintro p q r h1 (h2 | ⟨h2,h3⟩ | ⟨h2,h3⟩)
    ·exact .inl (h1.trans h2)
    ·exact .inr (.inl ⟨h1.trans h2,h3⟩)
    ·exact .inr (.inr ⟨h1.trans h2,h3⟩)
   rcases e with e | e
   ·rcases (h _ _).1 e with e | ⟨rfl,rfl⟩
    ·exact key (.one e) ih
    ·rcases ih with h2 | ⟨_,h3⟩ | ⟨_,h3⟩
     ·exact .inr (.inl ⟨.refl _,h2⟩)
     ·exact .inr (.inl ⟨.refl _,h3⟩)
     ·exact .inl h3
   ·rcases (h _ _).1 e with e | ⟨rfl,rfl⟩
    ·exact key (Cn.one e).symm ih
    ·rcases ih with h2 | ⟨_,h3⟩ | ⟨_,h3⟩
     ·exact .inr (.inr ⟨.refl _,h2⟩)
     ·exact .inl h3
     ·exact .inr (.inr ⟨.refl _,h3⟩)
 ·rintro (h1 | ⟨h1,h2⟩ | ⟨h1,h2⟩)
  ·exact hm h1
  ·exact (hm h1).trans (hxy.trans (hm h2))
  ·exact (hm h1).trans (hxy.symm.trans (hm h2))
def linked (ml:List (Int×List Int))(a b:Int):Prop:=∃ p∈ml,p.2.head?=some a∧b∈p.2
def RZ (e:En)(z:Int×Int):Prop:=e.id=z.1∧e.sum=z.2
def RM (e:En)(p:Int×List Int):Prop:=e.id=p.1∧e.many=p.2.length∧p.2.head?=some (e.fst:Int)
theorem wr_id {x:Int}(h : -9223372036854775808≤x∧x<9223372036854775808):wr x=x:=IntWalk.i64_in _ oM
theorem bump_z {i:Nat}{c p:Int}:∀ {es:List En} {zl:List (Int×Int)},All2 RZ es zl→(∀ e∈es,wr (e.sum+p)=e.sum+p)→wr (0+p)=p→All2 RZ (bump i c p es) (addZ zl c p)
 | [],[],_,_,hp=>⟨⟨rfl,hp⟩,trivial⟩
 | e::es,(a,z)::zl,h,hb,hp=>by
  obtain ⟨⟨h1,h2⟩,h3⟩:=h;have h1:e.id=a:=h1;have h2:e.sum=z:=h2;simp only[bump,addZ];by_cases hc:e.id=c
  ·rw[if_pos hc,if_pos (by rw[← h1,hc])];exact⟨⟨h1,by show wr (e.sum+p)=z+p; rw[hb e (by simp),h2]⟩,h3⟩
  ·rw[if_neg hc,if_neg (by rw[← h1]; exact fun e=>hc e.symm)];exact⟨⟨h1,h2⟩,bump_z h3 (fun x hx=>hb x (by simp[hx])) hp⟩
 | [],_::_,h,_,_=>h.elim
 | _::_,[],h,_,_=>h.elim
theorem bump_m {i:Nat}{c p:Int}:∀ {es:List En} {ml:List (Int×List Int)},All2 RM es ml→(∀ e∈es,wr (e.many+1)=e.many+1)→All2 RM (bump i c p es) (addL ml c i) ∧
  ∀ a b,linked (addL ml c i) a b↔linked ml a b∨(a=fstOf i c es∧b=i)
 | [],[],_,_=>by
  refine⟨⟨⟨rfl,by rfl,rfl⟩,trivial⟩,fun a b=>?_⟩;constructor
  ·rintro ⟨q,hq,h1,h2⟩;simp[addL] at hq;subst hq;simp at h1 h2;exact .inr ⟨h1.symm,h2⟩
  ·rintro (⟨q,hq,_⟩ | ⟨rfl,rfl⟩)
   ·simp at hq
   ·exact⟨(c,[(i:Int)]),by simp[addL],I,by simp⟩
 | e::es,(k,l)::ml,h,hb=>by
  obtain ⟨⟨h1,h2,h4⟩,h3⟩:=h;have h1:e.id=k:=h1;have h2:e.many=l.length:=h2;have h4:l.head?=some (e.fst:Int):=h4;simp only[bump,addL,fstOf];by_cases hc:e.id=c
  ·rw[if_pos hc,if_pos (by rw[← h1,hc]),if_pos hc];have hh:(l++[(i:Int)]).head?=some (e.fst:Int):=by
    cases l with
    | nil=>simp at h4
    | cons x r=>simpa using h4
   refine⟨⟨⟨h1,by show wr (e.many+1)=_; rw[hb e (by simp),h2]; simp,hh⟩,h3⟩,fun a b=>?_⟩;constructor
   ·rintro ⟨q,hq,h5,h6⟩
    rcases List.mem_cons.1 hq with rfl | hq
    ·dsimp only at h5 h6;rw[hh] at h5
     rcases List.mem_append.1 h6 with h6 | h6
     ·exact .inl ⟨(k,l),by simp,by rw[h4,h5],h6⟩
     ·simp at h6;injection h5 with h5
      exact .inr ⟨h5.symm,h6⟩
    ·exact .inl ⟨q,by simp[hq],h5,h6⟩
   ·rintro (⟨q,hq,h5,h6⟩ | ⟨rfl,rfl⟩)
    ·rcases List.mem_cons.1 hq with rfl | hq
     ·exact⟨(k,l++[(i:Int)]),by simp,by rw[hh,← h4,h5],by simp[h6]⟩
     ·exact⟨q,by simp[hq],h5,h6⟩
    ·exact⟨(k,l++[(i:Int)]),by simp,hh,by simp⟩
  ·rw[if_neg hc,if_neg (by rw[← h1]; exact fun e=>hc e.symm),if_neg hc];obtain ⟨i1,i2⟩:=bump_m (i:=i) (c:=c) (p:=p) h3 fun x hx=>hb x (by simp[hx]);refine⟨⟨⟨h1,h2,h4⟩,i1⟩,fun a b=>?_⟩;have e1:∀ L,linked ((k,l)::L) a b↔(l.head?=some a∧b∈l)∨linked L a b:=fun L=>by
    unfold linked;simp
   rw[e1,e1,i2,or_assoc]
 | [],_::_,h,_=>h.elim
 | _::_,[],h,_=>h.elim
structure Sd (n t k:Nat)(es:List En)(part:List Int)(zl:List (Int×Int))(ml:List (Int×List Int)):Prop where
 z:All2 RZ es zl
 m:All2 RM es ml
 bz:∀ e∈es,-(t:Int)≤e.sum∧e.sum≤t∧0≤e.many∧e.many≤t
 bf:∀ e∈es,e.fst<k
 bm:∀ p∈ml,∀ x∈p.2,0≤x∧x<k
 len:part.length=n
 bp:∀ a,a<k→0≤part.getD a 0∧part.getD a 0<k
 cn:∀ a b:Nat,a<k→b<k→(part.getD a 0=part.getD b 0↔Cn (linked ml) a b)
theorem linked_in {ml:List (Int×List Int)}{k:Nat}(h:∀ p∈ml,∀ x∈p.2,0≤x∧x<(k:Int)){a b:Int}(hl:linked ml a b):(0≤a∧a<k)∧(0≤b∧b<k):=by
 obtain ⟨p,hp,h1,h2⟩:=hl;exact⟨h p hp a (List.mem_of_head? h1),h p hp b h2⟩
theorem Sd.open {n t k:Nat}{es:List En}{part:List Int}{zl:List (Int×Int)}{ml:List (Int×List Int)}(h:Sd n t k es part zl ml)(hk:k<n):Sd n t (k+1) es (part.set k k) zl ml:=by
 have hl:=h.len;have g1:(part.set k (k:Int)).getD k 0=k:=by rw[List.getD_eq_getElem?_getD,List.getElem?_set]; simp[hl,hk]
 have g2:∀ a,a≠k→(part.set k (k:Int)).getD a 0=part.getD a 0:=fun a ha=>by
  rw[List.getD_eq_getElem?_getD,List.getD_eq_getElem?_getD,List.getElem?_set,if_neg fun e=>ha e.symm]
 have iso:∀ b,¬ linked ml k b∧¬ linked ml b k:=fun b=>⟨fun e=>by have:=linked_in h.bm e; omega,fun e=>by have:=linked_in h.bm e; omega⟩;refine⟨h.z,h.m,h.bz,fun e he=>by have:=h.bf e he; omega,fun p hp x hx=>by have:=h.bm p hp x hx; omega,by simp[hl],fun a ha=>?_,fun a b ha hb=>?_⟩
 ·by_cases e:a=k
  ·subst e; rw[g1]; omega
  ·rw[g2 a e]; have:=h.bp a oM; omega
 ·by_cases e:a=k <;> by_cases e2:b=k
  ·subst e; subst e2; exact⟨fun _=>.refl _,fun _=>rfl⟩
  ·subst e;rw[g1,g2 b e2];have:=h.bp b oM;exact⟨fun h=>by omega,fun hc=>by have:=hc.iso iso; omega⟩
  ·subst e2;rw[g1,g2 a e];have:=h.bp a oM;exact⟨fun h=>by omega,fun hc=>by have:=hc.symm.iso iso; omega⟩
  ·rw[g2 a e,g2 b e2];exact h.cn a b oM oM
theorem relabT_getD {m:Nat}{old now:Int}{p:List Int}{a:Nat}(h:a<p.length)(hm:a<m):(relabT m old now p).getD a 0=if p.getD a 0=now then old else p.getD a 0:=by
 rw[List.getD_eq_getElem?_getD,List.getD_eq_getElem?_getD];simp only[relabT,List.getElem?_mapIdx,gE h,Option.map_some,Option.getD_some,hm,true_and]
theorem fstOf_lt {i:Nat}{c:Int}{es:List En}(h:∀ e∈es,e.fst<i+1):fstOf i c es<i+1:=by
 induction es with
 | nil=>exact Nat.lt_succ_self i
 | cons e r ih =>
  unfold fstOf;split
  ·exact h e (by simp)
  ·exact ih fun x hx=>h x (by simp[hx])
theorem bump_all {P:En→Prop}{i:Nat}{c p:Int}(hn:P (En.up ⟨c,0,0,i⟩ p))(hu:∀ e,P e→P (e.up p))(ho:∀ e,P e→P e):∀ {es:List En},(∀ e∈es,P e)→∀ e∈bump i c p es,P e
 | [],_,e,he=>by simp[bump] at he; subst he; exact hn
 | x::r,h,e,he=>by
  unfold bump at he;split at he
  ·rcases List.mem_cons.1 he with rfl | he
   ·exact hu x (h x (by simp))
   ·exact h e (by simp[he])
  ·rcases List.mem_cons.1 he with rfl | he
   ·exact h e (by simp)
   ·exact bump_all hn hu ho (fun y hy=>h y (by simp[hy])) e he
theorem addL_all {P:Int→Prop}{c:Int}{i:Int}(hi:P i):∀ {ml:List (Int×List Int)},(∀ p∈ml,∀ x∈p.2,P x)→∀ p∈addL ml c i,∀ x∈p.2,P x
 | [],_,p,hp,x,hx=>by simp[addL] at hp; subst hp; simp at hx; subst hx; exact hi
 | (k,l)::r,h,p,hp,x,hx=>by
  unfold addL at hp;split at hp
  ·rcases List.mem_cons.1 hp with rfl | hp
   ·rcases List.mem_append.1 hx with hx | hx
    ·exact h (k,l) (by simp) x hx
    ·simp at hx; subst hx; exact hi
   ·exact h p (by simp[hp]) x hx
  ·rcases List.mem_cons.1 hp with rfl | hp
   ·exact h (k,l) (by simp) x hx
   ·exact addL_all hi (fun q hq=>h q (by simp[hq])) p hp x hx
theorem Sd.next {n t i:Nat}{es:List En}{part:List Int}{zl:List (Int×Int)}{ml:List (Int×List Int)}{x r:Side}(h:Sd n t (i+1) es part zl ml)(hi:i<n)(ht:t<1000000)(hx:x.sign=1∨x.sign = -1)(hr:r.sign=1∨r.sign = -1) :
  Sd n (t+1) (i+1) (stepR i x.sign (es,part) r).1 (stepR i x.sign (es,part) r).2 (stepZ x zl r) (stepL i ml r):=by
 have hp:=sign_mul hx hr;have hw:wr (x.sign * r.sign)=x.sign * r.sign:=wr_id oM;unfold stepR stepZ stepL;dsimp only;rw[hw];generalize x.sign * r.sign=p at *;have hl:=h.len;have hbm:=bump_m (i:=i) (c:=r.cell) (p:=p) h.m fun e he=>by have:=h.bz e he; exact wr_id oM
 have hf:=fstOf_lt (c:=r.cell) h.bf;refine⟨bump_z h.z (fun e he=>by have:=h.bz e he; exact wr_id oM) (by rw[Int.zero_add]; exact wr_id oM),hbm.1,?_,?_,?_,by rw[relabT_length]; exact hl,fun a ha=>?_,fun a b ha hb=>?_⟩
 ·have:∀ e∈bump i r.cell p es,(-(t:Int)≤e.sum∧e.sum≤t∧0≤e.many∧e.many≤t)∨(-((t+1:Nat):Int)≤e.sum∧e.sum≤((t+1:Nat):Int)∧0≤e.many∧e.many≤((t+1:Nat):Int)):=by
   have h0:=h.bz;clear h hbm hf hl;generalize hes:bump i r.cell p es=fs;intro e he;subst hes;induction es with
   | nil =>
    simp[bump] at he;subst he;right;simp only[En.up];rw[wr_id oM,wr_id oM];omega
   | cons y q ih =>
    unfold bump at he;split at he
    ·rcases List.mem_cons.1 he with rfl | he
     ·right;have:=h0 y (by simp);simp only[En.up];rw[wr_id oM,wr_id oM];omega
     ·exact .inl (h0 e (by simp[he]))
    ·rcases List.mem_cons.1 he with rfl | he
     ·exact .inl (h0 e (by simp))
     ·exact ih (fun z hz=>h0 z (by simp[hz])) he
  intro e he
  rcases this e he with h1 | h1 <;> omega
 ·exact bump_all (P:=fun e=>e.fst<i+1) (Nat.lt_succ_self i) (fun e he=>he) (fun e he=>he) h.bf
 ·exact addL_all (P:=fun x=>0≤x∧x<((i+1:Nat):Int)) oM h.bm
 ·rw[relabT_getD oM ha];split
  ·exact h.bp _ hf
  ·exact h.bp a ha
 ·rw[relabT_getD oM ha,relabT_getD oM hb,Cn.add (x:=(fstOf i r.cell es:Int)) (y:=(i:Int)) hbm.2 a b];rw[← h.cn a b ha hb,← h.cn a _ ha hf,← h.cn i b oM hb,← h.cn a i ha oM,← h.cn _ b hf hb];generalize part.getD a 0=pa;generalize part.getD b 0=pb;generalize part.getD i 0=pi;generalize part.getD (fstOf i r.cell es) 0=pf;by_cases h1:pa=pi <;> by_cases h2:pb=pi <;> simp[h1,h2] <;> omega
theorem Sd.inner {n i:Nat}{x:Side}(hi:i<n)(hx:x.sign=1∨x.sign = -1):∀ (l:List Side) {t:Nat} {es:List En} {part:List Int} {zl:List (Int×Int)} {ml:List (Int×List Int)},Sd n t (i+1) es part zl ml→t+l.length<1000000→(∀ r∈l,r.sign=1∨r.sign = -1) →
  Sd n (t+l.length) (i+1) (l.foldl (stepR i x.sign) (es,part)).1 (l.foldl (stepR i x.sign) (es,part)).2 (l.foldl (stepZ x) zl) (l.foldl (stepL i) ml)
 | [],_,_,_,_,_,h,_,_=>h
 | r::l,t,es,part,zl,ml,h,ht,hr=>by
  simp only[List.length_cons] at ht;have h1:=h.next (x:=x) (r:=r) hi oM hx (hr r (by simp));have:=Sd.inner hi hx l h1 oM (fun q hq=>hr q (by simp[hq]));simp only[List.foldl_cons,List.length_cons];rw[show t+(l.length+1)=t+1+l.length by omega];exact this
theorem Sd.outer {tl:List Cl}{n:Nat}:∀ (l:List Side) {t k:Nat} {es:List En} {part:List Int} {zl:List (Int×Int)} {ml:List (Int×List Int)},Sd n t k es part zl ml→k+l.length≤n→t+64 * l.length<1000000→(∀ x∈l,x.sign=1∨x.sign = -1)→(∀ x∈l,(sidesOf tl x).length≤64∧∀ r∈sidesOf tl x,r.sign=1∨r.sign = -1) →
  ∃ t',Sd n t' (k+l.length) ((l.zipIdx k).foldl (stepS tl) (es,part)).1 ((l.zipIdx k).foldl (stepS tl) (es,part)).2 (l.foldl (fun zl x=>(sidesOf tl x).foldl (stepZ x) zl) zl) ((l.zipIdx k).foldl (fun ml p=>(sidesOf tl p.1).foldl (stepL p.2) ml) ml)
 | [],t,_,_,_,_,_,h,_,_,_,_=>⟨t,h⟩
 | x::l,t,k,es,part,zl,ml,h,hk,ht,hs,hq=>by
  simp only[List.length_cons] at hk ht;have h0:=hq x (by simp);have h1:=(h.open oM).inner (x:=x) oM (hs x (by simp)) (sidesOf tl x) oM h0.2;obtain ⟨t',h2⟩:=Sd.outer l h1 oM oM (fun y hy=>hs y (by simp[hy])) (fun y hy=>hq y (by simp[hy]));refine⟨t',?_⟩;simp only[List.zipIdx_cons,List.foldl_cons,List.length_cons];rw[show k+(l.length+1)=k+1+l.length by omega];exact h2
theorem all2_anyR {α β:Type}{R:α→β→Prop}{p:α→Bool}{q:β→Bool}(h:∀ a b,R a b→p a=q b):∀ {l:List α} {m:List β},All2 R l m→l.any p=m.any q
 | [],[],_=>rfl
 | a::l,b::m,hr=>by simp only[List.any_cons,h a b hr.1,all2_anyR h hr.2]
 | [],_::_,hr=>hr.elim
 | _::_,[],hr=>hr.elim
theorem rch_cn {ml:List (Int×List Int)}(h2:∀ p∈ml,p.2.length=2)(a b:Int):Rch (adjJ (joinC ml)) a b↔Cn (linked ml) a b:=by
 have hstep:∀ x y,y∈getL (joinC ml) x→Cn (linked ml) x y:=fun x y hy=>by
  obtain ⟨p,hp,h⟩:=(mem_join ml x y).1 hy
  rcases h with h | h
  ·exact .one ⟨p,hp,by rw[h]; rfl,by rw[h]; simp⟩
  ·exact (Cn.one (E:=linked ml) ⟨p,hp,by rw[h]; rfl,by rw[h]; simp⟩).symm
 have hadj:∀ x,adjJ (joinC ml) x≠none:=fun x=>by simp[adjJ]
 constructor
 ·intro h;induction h with
  | refl _ _=>exact .refl _
  | step x y _ l hl hy _ ih =>
   simp only[adjJ,Option.some.injEq] at hl;subst hl;exact (hstep x y hy).trans ih
 ·intro h;induction h with
  | refl a=>exact .refl a (hadj a)
  | @step x y z e _ ih =>
   have key:∀ u v,linked ml u v→v=u∨v∈getL (joinC ml) u:=fun u v ⟨p,hp,h3,h4⟩=>by
    have:=h2 p hp
    match hq:p.2,this with
    | [c,d],_ =>
     rw[hq] at h3 h4;simp at h3 h4;subst h3
     rcases h4 with h4 | h4
     ·exact .inl h4
     ·exact .inr ((mem_join ml c v).2 ⟨p,hp,.inl (by rw[hq,h4])⟩)
   rcases e with e | e
   ·rcases key x y e with rfl | h5
    ·exact ih
    ·exact .step x y z _ I h5 ih
   ·rcases key y x e with rfl | h5
    ·exact ih
    ·refine .step x y z _ I ?_ ih;obtain ⟨p,hp,h6⟩:=(mem_join ml y x).1 h5;exact (mem_join ml x y).2 ⟨p,hp,h6.symm⟩
theorem nodup_nat {l:List Int}(hn:l.Nodup)(hb:∀ x∈l,0≤x):(l.map Int.toNat).Nodup:=by
 rw[List.Nodup,List.pairwise_map];refine List.Pairwise.imp_of_mem ?_ hn;intro a b ha hb' hne e;have:=hb a ha;have:=hb b hb';omega
theorem nodup_leI {l:List Int}{n:Nat}(hn:l.Nodup)(hb:∀ x∈l,0≤x∧x<(n:Int)):l.length≤n:=by
 have h1:=nodup_nat hn fun x hx=>(hb x hx).1;have:=length_le_of_nodup (l:=List.range n) h1 List.nodup_range fun x hx=>by
  obtain ⟨y,hy,rfl⟩:=List.mem_map.1 hx;have:=hb y hy;exact List.mem_range.2 oM
 simpa using this
theorem second_around {tl:List Cl}{c:Cl}(hok:AOk tl c)(h0:0<c.sides.length):secondC tl c=aroundC tl c:=by
 obtain ⟨h64,hs,hq⟩:=hok;have start:Sd c.sides.length 0 0 [] (List.replicate c.sides.length 0) [] []:=⟨trivial,trivial,by simp,by simp,by simp,by simp,by simp,fun a b ha=>by omega⟩;obtain ⟨t,hd⟩:=start.outer c.sides (tl:=tl) oM oM hs hq;have e1:((c.sides.zipIdx 0).foldl (stepS tl) ([],List.replicate c.sides.length 0))=secSt tl c.sides c.sides.length:=rfl;rw[e1] at hd;have hz:All2 RZ (secSt tl c.sides c.sides.length).1 (sumsC tl c.sides):=hd.z;have hm:All2 RM (secSt tl c.sides c.sides.length).1 (metC tl c.sides):=hd.m;unfold secondC aroundC;rw[all2_anyR (p:=fun e=>decide (e.sum≠0)) (q:=fun p:Int×Int=>decide (p.2≠0)) (fun a b h=>by rw[h.2]) hz];rw[all2_anyR (p:=fun e=>decide (e.many≠2)) (q:=fun p:Int×List Int=>decide ((p.2.length:Int)≠2)) (fun a b h=>by rw[h.2.1]) hm];split
 ·rfl
 ·split
  ·rfl
  ·rename_i hno;have h2:∀ p∈metC tl c.sides,p.2.length=2:=fun p hp=>by
    have:=List.any_eq_false.1 ((Bool.not_eq_true _).mp hno) p hp;simp at this;omega
   have hbm:∀ p∈metC tl c.sides,∀ x∈p.2,0≤x∧x<((0+c.sides.length:Nat):Int):=hd.bm;rw[Nat.zero_add] at hbm;have hcn:∀ a b:Nat,a<c.sides.length→b<c.sides.length→((secSt tl c.sides c.sides.length).2.getD a 0=(secSt tl c.sides c.sides.length).2.getD b 0↔Rch (adjJ (joinC (metC tl c.sides))) a b):=fun a b ha hb=>by
    rw[rch_cn h2];exact hd.cn a b oM oM
   have hln:=hd.len;have hmem:∀ x:Int,x∈seenC (joinC (metC tl c.sides))↔Rch (adjJ (joinC (metC tl c.sides))) 0 x:=fun x=>mem_dfs (cnt:=cntK (joinC (metC tl c.sides))) (fun v v' h=>cntK_mono h) (cntK_strict _) (Nat.lt_succ_of_le (List.length_filter_le _ _)) (by simp[adjJ]) x;have hnd:(seenC (joinC (metC tl c.sides))).Nodup:=dfs_nodup _ _ _ _ (by simp);have hin:∀ x∈seenC (joinC (metC tl c.sides)),0≤x∧x<(c.sides.length:Int):=fun x hx=>by
    have hr:=(rch_cn h2 0 x).1 ((hmem x).1 hx);have:∀ a b,Cn (linked (metC tl c.sides)) a b→(0≤a∧a<(c.sides.length:Int))→(0≤b∧b<(c.sides.length:Int)):=by
     intro a b h;induction h with
     | refl _=>exact fun h=>h
     | step e _ ih =>
      intro _
      rcases e with e | e
      ·exact ih (linked_in hbm e).2
      ·exact ih (linked_in hbm e).1
    exact this 0 x hr oM
   generalize (secSt tl c.sides c.sides.length).2=part at *;generalize seenC (joinC (metC tl c.sides))=seen at *;by_cases hall:∀ a,a<c.sides.length→part.getD a 0=part.getD 0 0
   ·have hf:part.any (fun x=>decide (x≠part.getD 0 0))=false:=by
     rw[List.any_eq_false];intro x hx;obtain ⟨i,hi,rfl⟩:=List.getElem_of_mem hx;have:=hall i oM;rw[List.getD_eq_getElem?_getD,gE hi] at this;simpa using this
    have hlen:seen.length=c.sides.length:=by
     refine Nat.le_antisymm (nodup_leI hnd hin) ?_;have h3:=length_le_of_nodup (m:=List.range c.sides.length) (l:=seen.map Int.toNat) List.nodup_range (nodup_nat hnd fun x hx=>(hin x hx).1) fun i hi=>by
      have hi:=List.mem_range.1 hi;exact List.mem_map.2 ⟨(i:Int),(hmem i).2 ((hcn 0 i h0 hi).1 (hall i hi).symm),by simp⟩
     simpa using h3
    rw[hf,hlen];simp
   ·have ht:part.any (fun x=>decide (x≠part.getD 0 0))=true:=by
     simp only[Classical.not_forall] at hall;obtain ⟨a,ha,hne⟩:=hall;rw[List.any_eq_true];refine⟨part.getD a 0,?_,by simpa using hne⟩;rw[List.getD_eq_getElem?_getD,gE oM];exact gM _
    have hlen:(seen.length:Int)≠c.sides.length:=by
     simp only[Classical.not_forall] at hall;obtain ⟨a,ha,hne⟩:=hall;have hna:(a:Int) ∉ seen:=fun h=>hne ((hcn 0 a h0 ha).2 ((hmem a).1 h)).symm;have:=nodup_leI (l:=(a:Int)::seen) (n:=c.sides.length) (List.nodup_cons.2 ⟨hna,hnd⟩) fun x hx=>by
      rcases List.mem_cons.1 hx with rfl | hx
      ·omega
      ·exact hin x hx
     simp at this;omega
    rw[ht,if_pos rfl,if_pos hlen]
theorem chk1_none_form {tl:List Cl}:∀ {l:List Cl} {n:Int},chk1 tl l n=none→l.Pairwise (fun a b=>a.id<b.id)∧(∀ x∈l,n<x.id)∧∀ x∈l,formC tl x=0
 | [],_,_=>⟨List.Pairwise.nil,by simp,by simp⟩
 | x::r,n,h=>by
  unfold chk1 at h;split at h
  ·cases h
  ·rename_i hid;split at h
   ·cases h
   ·rename_i hf;obtain ⟨h1,h2,h3⟩:=chk1_none_form h;refine⟨List.pairwise_cons.2 ⟨h2,h1⟩,fun y hy=>?_,fun y hy=>?_⟩
    ·rcases List.mem_cons.1 hy with rfl | hy
     ·omega
     ·have:=h2 y hy; omega
    ·rcases List.mem_cons.1 hy with rfl | hy
     ·exact Decidable.of_not_not hf
     ·exact h3 y hy
theorem refCheckC_eq (l:List Cl):refCheckC l=checkC l:=by
 unfold refCheckC checkC;split
 ·rfl
 ·cases h:chk1 (tabC l) (canonC l) 0 with
  | some p=>rfl
  | none =>
   obtain ⟨h1,_,h3⟩:=chk1_none_form h;have ht:=tabC_strict h1;have key:∀ m:List Cl,(∀ x∈m,x∈canonC l)→chkR2 (canonC l) m=chk2 (tabC l) m:=by
    intro m;induction m with
    | nil=>intro _; rfl
    | cons x r ih =>
     intro hm;have hx:=hm x (by simp);unfold chkR2 chk2;rw[ih fun y hy=>hm y (by simp[hy])];by_cases hd:x.dim>1
     ·have hok:=aok_of h3 hx;have hn:0<x.sides.length:=by
       have hf:=h3 x hx;unfold formC at hf;split at hf
       ·cases hf
       ·split at hf
        ·cases hf
        ·rename_i hc;simp[cntBad] at hc;have:=hc.2 hd;omega
      rw[ht] at hok ⊢;rw[second_around hok hn]
     ·simp[hd]
   rw[key _ fun x hx=>hx]
set_option maxRecDepth 10000
theorem check_ne {l:List Cl}(h:(checkC l).2=0):chk1 (tabC l) (canonC l) 0=none:=by
 unfold checkC at h;split at h
 ·simp at h
 ·cases h1:chk1 (tabC l) (canonC l) 0 with
  | none=>rfl
  | some p=>rw[h1] at h; exact absurd h (chk1_ne h1)
theorem prod_ref (a b:List Cl):refProdC a b=prodC a b:=by
 have hb:refProdBad a b=prodBad a b:=by
  unfold refProdBad prodBad;rw[refCheckC_eq,refCheckC_eq];by_cases h1:(checkC a).2=0
  ·by_cases h2:(checkC b).2=0
   ·rw[tabC_strict (chk1_none_form (check_ne h1)).1,tabC_strict (chk1_none_form (check_ne h2)).1,canonC_length,canonC_length]
   ·simp[h2]
  ·simp[h1]
 unfold refProdC prodC;rw[hb,refCheckC_eq]
def two (k q:Nat):Nat:=100+if q<k then q * 16+k else k * 16+(q+1)
def cd (A B:Nat):Int:=((A * 1000+B:Nat):Int)
def rg (n:Nat):List Nat:=if n≤1 then [] else (List.range n).reverse
def patL (n m k:Nat):List Side:=((rg (n - 1)).map fun q=>⟨cd (two k q) 0,signC q⟩)++(rg m).map fun j=>⟨cd (1+k) (1+j),signC ((n:Int) - 2) * signC j⟩
def patR (n m j:Nat):List Side:=((rg n).map fun k=>⟨cd (1+k) (1+j),signC k⟩)++(rg (m - 1)).map fun q=>⟨cd 0 (two j q),signC ((n:Int) - 1) * signC q⟩
def patP (n m:Nat):List (Int×List Side):=((rg n).map fun k:Nat=>(signC k,patL n m k))++(rg m).map fun j:Nat=>(signC ((n:Int) - 1) * signC j,patR n m j)
theorem patP_ok:∀ n,n<4→0<n→∀ m,m<4→0<m→3<n+m→aroundL (patP n m)=0:=by decide +kernel
def er (s:List Int)(A:Nat):List Int:=if A=0 then s else if A<100 then s.eraseIdx (A - 1) else (s.eraseIdx ((A - 100) % 16)).eraseIdx ((A - 100) / 16)
def Num (n A:Nat):Prop:=A=0∨(2≤n∧∃ k,k<n∧A=1+k)∨(3≤n∧∃ a b,a<b∧b<n∧A=100+(a * 16+b))
theorem er_one {s:List Int}{k:Nat}(h:k<90):er s (1+k)=s.eraseIdx k:=by
 unfold er;rw[if_neg oM,if_pos oM,show 1+k - 1=k by omega]
theorem er_two {s:List Int}{a b:Nat}(h:b<16):er s (100+(a * 16+b))=(s.eraseIdx b).eraseIdx a:=by
 unfold er;rw[if_neg oM,if_neg oM,show (100+(a * 16+b) - 100) % 16=b by omega,show (100+(a * 16+b) - 100) / 16=a by omega]
theorem er_two_kq {s:List Int}{n k q:Nat}(hn:n≤9)(hk:k<n)(hq:q<n - 1):er s (two k q)=(s.eraseIdx k).eraseIdx q:=by
 unfold two;by_cases h:q<k
 ·rw[if_pos h,er_two oM]
 ·rw[if_neg h,er_two oM];exact (erase_comm s oM).symm
theorem num_two {n k q:Nat}(h3:3≤n)(hk:k<n)(hq:q<n - 1):Num n (two k q):=by
 unfold two;by_cases h:q<k
 ·rw[if_pos h]; exact .inr (.inr ⟨h3,q,k,h,hk,rfl⟩)
 ·rw[if_neg h]; exact .inr (.inr ⟨h3,k,q+1,oM,oM,rfl⟩)
theorem er_len {s:List Int}(h9:s.length≤9){A:Nat}(h:Num s.length A):(er s A).length=if A=0 then s.length else if A<100 then s.length - 1 else s.length - 2:=by
 rcases h with rfl | ⟨_,k,hk,rfl⟩ | ⟨_,a,b,hab,hb,rfl⟩
 ·rfl
 ·rw[er_one oM,List.length_eraseIdx,if_pos hk,if_neg oM,if_pos oM]
 ·rw[er_two oM,List.length_eraseIdx,List.length_eraseIdx,if_pos hb,if_pos oM,if_neg oM,if_neg oM];omega
theorem er_inj {s:List Int}(hs:StrictI s)(h9:s.length≤9){A B:Nat}(hA:Num s.length A)(hB:Num s.length B)(h:er s A=er s B):A=B:=by
 have hl:=congrArg List.length h;rw[er_len h9 hA,er_len h9 hB] at hl;have hnd:s.Nodup:=hs.imp fun h=>by omega
 rcases hA with rfl | ⟨h2,k,hk,rfl⟩ | ⟨h3,a,b,hab,hb,rfl⟩ <;> rcases hB with rfl | ⟨h2',k',hk',rfl⟩ | ⟨h3',c,d,hcd,hd,rfl⟩
 ·rfl
 ·rw[if_pos rfl,if_neg oM,if_pos oM] at hl; omega
 ·rw[if_pos rfl,if_neg oM,if_neg oM] at hl; omega
 ·rw[if_neg oM,if_pos oM,if_pos rfl] at hl; omega
 ·rw[er_one oM,er_one oM] at h
  rcases Nat.lt_trichotomy k k' with h1 | h1 | h1
  ·have:=erase_lt hs h1 hk';rw[h,compareC_self] at this;exact absurd this dC
  ·omega
  ·have:=erase_lt hs h1 hk;rw[h,compareC_self] at this;exact absurd this dC
 ·rw[if_neg oM,if_pos oM,if_neg oM,if_neg oM] at hl; omega
 ·rw[if_neg oM,if_neg oM,if_pos rfl] at hl; omega
 ·rw[if_neg oM,if_neg oM,if_neg oM,if_pos oM] at hl; omega
 ·rw[er_two oM,er_two oM] at h;obtain ⟨rfl,rfl⟩:=erase2_inj hnd hab hb hcd hd h;rfl
theorem Good.er {all:List (List Int)}(hg:Good all){s:List Int}(hs:s∈all){A:Nat}(h:Num s.length A):er s A∈all:=by
 have h9:=(hg.form s hs).2.2
 rcases h with rfl | ⟨h2,k,hk,rfl⟩ | ⟨h3,a,b,hab,hb,rfl⟩
 ·exact hs
 ·rw[er_one oM]; exact (hg.face hs hk h2).1
 ·rw[er_two oM];have h1:=hg.face hs (k:=b) hb oM;exact (hg.face h1.1 (k:=a) (by rw[h1.2]; omega) (by rw[h1.2]; omega)).1
theorem facesC_rg (all:List (List Int))(s:List Int):facesC all s=(rg s.length).map fun k:Nat=>⟨ixC all (s.eraseIdx k),signC k⟩:=by
 unfold facesC rg;split <;> rfl
def pid (A B:List (List Int))(s t:List Int):Int:=((lbL A s * B.length+lbL B t:Nat):Int)+1
def pfaces (A B:List (List Int))(s t:List Int):List Side:=((rg s.length).map fun k:Nat=>⟨pid A B (s.eraseIdx k) t,signC k⟩)++(rg t.length).map fun j:Nat=>⟨pid A B s (t.eraseIdx j),signC ((s.length:Int) - 1) * signC j⟩
def pcel (A B:List (List Int))(s t:List Int):Cl:=⟨pid A B s t,(s.length:Int) - 1+((t.length:Int) - 1),pfaces A B s t⟩
theorem mem_rg {n k:Nat}(h:k∈rg n):k<n∧2≤n:=by
 unfold rg at h;split at h
 ·simp at h
 ·exact⟨by simpa using h,oM⟩
section
variable {A:List (List Int)}(hA:Good A)
include hA
theorem Good.canon:canonC (A.map (celC A))=A.map (celC A):=by
 rw[← hA.cells,canonC_idem]
theorem Good.tab:tabC (A.map (celC A))=A.map (celC A):=by
 have:=hA.canon;have hi:=hA.ids;rw[List.pairwise_map] at hi;rw[tabC_strict (by rw[this]; exact hi),this]
theorem Good.lbI {s:List Int}(hs:s∈A):lbI ((A.map (celC A)).map Cl.id) (ixC A s)=lbL A s:=by
 have h1:=hA.get_lb hs;obtain ⟨h2,h3⟩:=List.getElem?_eq_some_iff.1 h1;have h4:lbL A s<((A.map (celC A)).map Cl.id).length:=by simpa using h2
 have h5:((A.map (celC A)).map Cl.id)[lbL A s]=ixC A s:=by simp[h3,celC]
 rw[← h5];exact lbI_self h4 hA.ids
end
theorem pair_inj {N i k i' k':Nat}(hk:k<N)(hk':k'<N)(h:i * N+k=i' * N+k'):i=i'∧k=k':=by
 have e:∀ {i k:Nat},k<N→(i * N+k) / N=i:=fun {i k} hk=>by rw[Nat.add_comm,Nat.add_mul_div_right _ _ oM,Nat.div_eq_of_lt hk,Nat.zero_add]
 have h1:=e (i:=i) hk;rw[h,e hk'] at h1;subst h1;exact⟨I,oM⟩
theorem pair_lt {N i k i' k':Nat}(hk:k<N)(h:i<i'):i * N+k<i' * N+k':=by
 have:(i+1) * N≤i' * N:=Nat.mul_le_mul_right N h;rw[Nat.succ_mul] at this;omega
theorem form_of {tl:List Cl}{c:Cl}(h1:0≤c.dim∧c.dim≤8)(h2:cntBad c=false)(h3:∀ x∈c.sides,∃ d,findT tl x.cell=some d∧d.dim=c.dim - 1)(h4:c.sides.Pairwise fun a b=>a.cell<b.cell)(h5:∀ x∈c.sides,x.sign=1∨x.sign = -1)(h6:c.dim=1→sumS c.sides=0):formC tl c=0:=by
 have e1:dimBad c=false:=by unfold dimBad; simp; omega
 have e3:(List.range c.sides.length).any (badAt tl c)=false:=by
  rw[List.any_eq_false];intro i hi;have hi:=List.mem_range.1 hi;obtain ⟨d,hd1,hd2⟩:=h3 _ (gM hi);unfold badAt;rw[gE hi];show ¬ badSide _ _ i c.sides[i]=true;unfold badSide;rw[hd1];simp only[Option.isSome_some,Bool.not_true,Bool.false_or,Option.getD_some,hd2,ne_eq,not_true_eq_false,decide_false];by_cases hi0:i>0
  ·have hlt:=List.pairwise_iff_getElem.1 h4 (i - 1) i oM hi oM;rw[gE oM];simp;omega
  ·simp[hi0]
 have e4:c.sides.any signBad=false:=by
  rw[List.any_eq_false];intro x hx
  rcases h5 x hx with h | h <;> simp[signBad,h]
 have e5:(decide (c.dim=1)&&decide (sumS c.sides≠0))=false:=by
  by_cases hd:c.dim=1
  ·rw[h6 hd]; simp
  ·simp[hd]
 unfold formC;rw[e1,h2,e3,e4,e5];rfl
theorem rg_pair (n:Nat):(rg n).Pairwise fun a b=>b<a:=by
 unfold rg;split
 ·exact List.Pairwise.nil
 ·rw[List.pairwise_reverse];exact List.pairwise_lt_range
theorem rg_length (n:Nat):(rg n).length=if n≤1 then 0 else n:=by
 unfold rg;split <;> simp
section
variable {A B:List (List Int)}(hA:Good A)(hB:Good B)
include hA hB
omit hA in
theorem lb_lt {t:List Int}(ht:t∈B):lbL B t<B.length:=(List.getElem?_eq_some_iff.1 (hB.get_lb ht)).1
theorem pid_inj {s u t v:List Int}(hs:s∈A)(hu:u∈A)(ht:t∈B)(hv:v∈B)(h:pid A B s t=pid A B u v):s=u∧t=v:=by
 obtain ⟨h1,h2⟩:=pair_inj (lb_lt hB ht) (lb_lt hB hv) (show lbL A s * B.length+lbL B t=lbL A u * B.length+lbL B v by unfold pid at h; omega);exact⟨hA.inj hs hu (by unfold ixC; omega),hB.inj ht hv (by unfold ixC; omega)⟩
theorem pid_ltA {s u t v:List Int}(hs:s∈A)(hu:u∈A)(ht:t∈B)(h:compareC s u<0):pid A B s t<pid A B u v:=by
 have h1:=hA.lt hs hu h;have h2:=pair_lt (k':=lbL B v) (lb_lt hB ht) (show lbL A s<lbL A u by unfold ixC at h1; omega);unfold pid;omega
omit hA in
theorem pid_ltB {s t v:List Int}(ht:t∈B)(hv:v∈B)(h:compareC t v<0):pid A B s t<pid A B s v:=by
 have h1:=hB.lt ht hv h;unfold pid;unfold ixC at h1;omega
theorem prodAll_good:prodAll (A.map (celC A)) (B.map (celC B))=A.flatMap fun s=>B.map (pcel A B s):=by
 unfold prodAll;rw[hA.canon,hB.canon,hA.tab,hB.tab,List.flatMap_map];rw[List.flatMap_def,List.flatMap_def];congr 1;refine List.map_congr_left fun s hs=>?_;rw[List.map_map];refine List.map_congr_left fun t ht=>?_;have hid:∀ {u v:List Int},u∈A→v∈B→prodId (A.map (celC A)) (B.map (celC B)) (ixC A u) (ixC B v)=pid A B u v:=fun {u v} hu hv=>by
  unfold prodId pid;rw[hA.lbI hu,hB.lbI hv,List.length_map];omega
 show prodCell _ _ (celC A s) (celC B t)=pcel A B s t;unfold prodCell pcel pfaces;congr 1
 ·exact hid hs ht
 ·show (facesC A s).map _++(facesC B t).map _=_;rw[facesC_rg,facesC_rg,List.map_map,List.map_map];congr 1
  ·refine List.map_congr_left fun k hk=>?_;have:=mem_rg hk;have hf:=hA.face hs this.1 this.2;show (⟨prodId _ _ (ixC A (s.eraseIdx k)) (ixC B t),signC k⟩:Side)=_;rw[hid hf.1 ht]
  ·refine List.map_congr_left fun k hk=>?_;have:=mem_rg hk;have hf:=hB.face ht this.1 this.2;show (⟨prodId _ _ (ixC A s) (ixC B (t.eraseIdx k)),signC ((s.length:Int) - 1) * signC k⟩:Side)=_;rw[hid hs hf.1]
theorem pids:(A.flatMap fun s=>B.map (pcel A B s)).Pairwise fun a b=>a.id<b.id:=by
 rw[List.pairwise_flatMap];refine⟨fun s hs=>?_,List.Pairwise.imp_of_mem ?_ hA.strict⟩
 ·rw[List.pairwise_map];refine List.Pairwise.imp_of_mem ?_ hB.strict;intro t v ht hv h;exact pid_ltB hB ht hv h
 ·intro s u hs hu h x hx y hy;obtain ⟨t,ht,rfl⟩:=List.mem_map.1 hx;obtain ⟨v,hv,rfl⟩:=List.mem_map.1 hy;exact pid_ltA hA hB hs hu ht h
theorem pfind {s t:List Int}(hs:s∈A)(ht:t∈B):findT (A.flatMap fun s=>B.map (pcel A B s)) (pid A B s t)=some (pcel A B s t):=by
 refine find_mem (x:=pcel A B s t) ?_ (List.mem_flatMap.2 ⟨s,hs,List.mem_map.2 ⟨t,ht,I⟩⟩);rw[List.Nodup,List.pairwise_map];exact (pids hA hB).imp fun h=>by omega
theorem psorted {s t:List Int}(hs:s∈A)(ht:t∈B):(pfaces A B s t).Pairwise fun a b=>a.cell<b.cell:=by
 unfold pfaces;rw[List.pairwise_append];refine⟨?_,?_,?_⟩
 ·rw[List.pairwise_map];refine List.Pairwise.imp_of_mem ?_ (rg_pair s.length);intro i j hi hj hij;have h1:=mem_rg hi;have h2:=mem_rg hj;exact pid_ltA hA hB (hA.face hs h1.1 h1.2).1 (hA.face hs h2.1 h2.2).1 ht (erase_lt (hA.form s hs).2.1 hij h1.1)
 ·rw[List.pairwise_map];refine List.Pairwise.imp_of_mem ?_ (rg_pair t.length);intro i j hi hj hij;have h1:=mem_rg hi;have h2:=mem_rg hj;exact pid_ltB hB (hB.face ht h1.1 h1.2).1 (hB.face ht h2.1 h2.2).1 (erase_lt (hB.form t ht).2.1 hij h1.1)
 ·intro x hx y hy;obtain ⟨k,hk,rfl⟩:=List.mem_map.1 hx;obtain ⟨j,hj,rfl⟩:=List.mem_map.1 hy;have h1:=mem_rg hk;have hf:=hA.face hs h1.1 h1.2;refine pid_ltA hA hB hf.1 hs ht ?_;have:=compareC_len (a:=s.eraseIdx k) (b:=s) (by rw[hf.2]; omega);rw[hf.2] at this;simpa using this.trans (decide_eq_true oM)
end
theorem sign_prod (a b:Int):signC a * signC b=1∨signC a * signC b = -1:=sign_mul (signC_cases a) (signC_cases b)
def phiP (A B:List (List Int))(s t:List Int)(c:Int):Int:=pid A B (er s (c / 1000).toNat) (er t (c % 1000).toNat)
theorem phiP_cd {A B:List (List Int)}{s t:List Int}{a b:Nat}(h:b<1000):phiP A B s t (cd a b)=pid A B (er s a) (er t b):=by
 unfold phiP cd;rw[show (((a * 1000+b:Nat):Int) / 1000).toNat=a by omega,show (((a * 1000+b:Nat):Int) % 1000).toNat=b by omega]
theorem num_lt {n A:Nat}(h9:n≤9)(h:Num n A):A<1000:=by
 rcases h with rfl | ⟨_,k,hk,rfl⟩ | ⟨_,a,b,hab,hb,rfl⟩ <;> omega
theorem num_one {n k:Nat}(h2:2≤n)(hk:k<n):Num n (1+k):=.inr (.inl ⟨h2,k,hk,rfl⟩)
theorem pat_key {n m:Nat}{x:Int}(hx:x∈keyL (patP n m)):∃ a b,Num n a∧Num m b∧x=cd a b:=by
 obtain ⟨p,hp,hx⟩:=List.mem_flatMap.1 hx;obtain ⟨r,hr,rfl⟩:=List.mem_map.1 hx
 rcases List.mem_append.1 hp with hp | hp
 ·obtain ⟨k,hk,rfl⟩:=List.mem_map.1 hp;have h1:=mem_rg hk
  rcases List.mem_append.1 hr with hr | hr
  ·obtain ⟨q,hq,rfl⟩:=List.mem_map.1 hr;have h2:=mem_rg hq;exact⟨_,0,num_two oM h1.1 h2.1,.inl I,I⟩
  ·obtain ⟨j,hj,rfl⟩:=List.mem_map.1 hr;have h2:=mem_rg hj;exact⟨_,_,num_one h1.2 h1.1,num_one h2.2 h2.1,I⟩
 ·obtain ⟨j,hj,rfl⟩:=List.mem_map.1 hp;have h1:=mem_rg hj
  rcases List.mem_append.1 hr with hr | hr
  ·obtain ⟨k,hk,rfl⟩:=List.mem_map.1 hr;have h2:=mem_rg hk;exact⟨_,_,num_one h2.2 h2.1,num_one h1.2 h1.1,I⟩
  ·obtain ⟨q,hq,rfl⟩:=List.mem_map.1 hr;have h2:=mem_rg hq;exact⟨0,_,.inl I,num_two oM h1.1 h2.1,I⟩
section
variable {A B:List (List Int)}(hA:Good A)(hB:Good B)
include hA hB
theorem plook {s t:List Int}(hs:s∈A)(ht:t∈B):lookL (A.flatMap fun s=>B.map (pcel A B s)) (pcel A B s t)=renL (phiP A B s t) (patP s.length t.length):=by
 have h9:=(hA.form s hs).2.2;have k9:=(hB.form t ht).2.2;unfold lookL renL patP;show (pfaces A B s t).map _=_;unfold pfaces;rw[List.map_append,List.map_append,List.map_map,List.map_map,List.map_map,List.map_map];congr 1
 ·refine List.map_congr_left fun k hk=>?_;have h1:=mem_rg hk;have hf:=hA.face hs h1.1 h1.2;simp only[Function.comp_def];congr 1;unfold sidesOf;rw[pfind hA hB hf.1 ht];show pfaces A B (s.eraseIdx k) t=_;unfold pfaces patL;rw[List.map_append,List.map_map,List.map_map,hf.2];congr 1
  ·refine List.map_congr_left fun q hq=>?_;have h2:=mem_rg hq;simp only[Function.comp_def,renS];rw[phiP_cd oM,er_two_kq h9 h1.1 h2.1];rfl
  ·refine List.map_congr_left fun j hj=>?_;have h2:=mem_rg hj;simp only[Function.comp_def,renS];rw[phiP_cd oM,er_one oM,er_one oM];congr 2;congr 1;omega
 ·refine List.map_congr_left fun j hj=>?_;have h1:=mem_rg hj;have hf:=hB.face ht h1.1 h1.2;simp only[Function.comp_def];congr 1;unfold sidesOf;rw[pfind hA hB hs hf.1];show pfaces A B s (t.eraseIdx j)=_;unfold pfaces patR;rw[List.map_append,List.map_map,List.map_map,hf.2];congr 1
  ·refine List.map_congr_left fun k hk=>?_;have h2:=mem_rg hk;simp only[Function.comp_def,renS];rw[phiP_cd oM,er_one oM,er_one oM]
  ·refine List.map_congr_left fun q hq=>?_;have h2:=mem_rg hq;simp only[Function.comp_def,renS];rw[phiP_cd (num_lt k9 (num_two oM h1.1 h2.1)),er_two_kq k9 h1.1 h2.1];rfl
theorem paround {s t:List Int}(hs:s∈A)(ht:t∈B)(h1:s.length≤3)(h2:t.length≤3)(h3:3<s.length+t.length):aroundC (A.flatMap fun s=>B.map (pcel A B s)) (pcel A B s t)=0:=by
 obtain ⟨n1,st1,h9⟩:=hA.form s hs;obtain ⟨n2,st2,k9⟩:=hB.form t ht;rw[aroundC_L,plook hA hB hs ht,aroundL_ren,patP_ok _ oM (List.length_pos_iff.2 n1) _ oM (List.length_pos_iff.2 n2) h3];intro x hx y hy h;obtain ⟨a,b,ha,hb,rfl⟩:=pat_key hx;obtain ⟨c,d,hc,hd,rfl⟩:=pat_key hy;rw[phiP_cd (num_lt k9 hb),phiP_cd (num_lt k9 hd)] at h;obtain ⟨e1,e2⟩:=pid_inj hA hB (hA.er hs ha) (hA.er hs hc) (hB.er ht hb) (hB.er ht hd) h;rw[er_inj st1 h9 ha hc e1,er_inj st2 k9 hb hd e2]
theorem pform {s t:List Int}(hs:s∈A)(ht:t∈B)(h1:s.length≤3)(h2:t.length≤3):formC (A.flatMap fun s=>B.map (pcel A B s)) (pcel A B s t)=0:=by
 have n1:=List.length_pos_iff.2 (hA.form s hs).1;have n2:=List.length_pos_iff.2 (hB.form t ht).1;have hdim:(pcel A B s t).dim=(s.length:Int) - 1+((t.length:Int) - 1):=rfl;have hlen:(pcel A B s t).sides.length=(if s.length≤1 then 0 else s.length)+(if t.length≤1 then 0 else t.length):=by
  show (pfaces A B s t).length=_;unfold pfaces;rw[List.length_append,List.length_map,List.length_map,rg_length,rg_length]
 refine form_of (by rw[hdim]; omega) ?_ (fun x hx=>?_) (psorted hA hB hs ht) (fun x hx=>?_) fun hd=>?_
 ·unfold cntBad;rw[hdim,hlen]
  rcases (by omega:s.length=1∨s.length=2∨s.length=3) with e | e | e <;> rcases (by omega:t.length=1∨t.length=2∨t.length=3) with e' | e' | e' <;> rw[e,e'] <;> decide
 ·rcases List.mem_append.1 hx with hx | hx
  ·obtain ⟨k,hk,rfl⟩:=List.mem_map.1 hx;have h3:=mem_rg hk;have hf:=hA.face hs h3.1 h3.2;refine⟨_,pfind hA hB hf.1 ht,?_⟩;show ((s.eraseIdx k).length:Int) - 1+((t.length:Int) - 1)=(s.length:Int) - 1+((t.length:Int) - 1) - 1;rw[hf.2];omega
  ·obtain ⟨k,hk,rfl⟩:=List.mem_map.1 hx;have h3:=mem_rg hk;have hf:=hB.face ht h3.1 h3.2;refine⟨_,pfind hA hB hs hf.1,?_⟩;show (s.length:Int) - 1+(((t.eraseIdx k).length:Int) - 1)=(s.length:Int) - 1+((t.length:Int) - 1) - 1;rw[hf.2];omega
 ·rcases List.mem_append.1 hx with hx | hx
  ·obtain ⟨k,_,rfl⟩:=List.mem_map.1 hx;exact signC_cases k
  ·obtain ⟨k,_,rfl⟩:=List.mem_map.1 hx;exact sign_prod _ _
 ·rw[hdim] at hd;show sumS (pfaces A B s t)=0;unfold pfaces sumS
  rcases (by omega:(s.length=2∧t.length=1)∨(s.length=1∧t.length=2)) with ⟨e,e'⟩ | ⟨e,e'⟩
  ·rw[e,e'];simp[rg,List.range_succ,signC]
  ·rw[e,e'];simp[rg,List.range_succ,signC]
theorem pcanon:canonC (A.flatMap fun s=>B.map (pcel A B s))=A.flatMap fun s=>B.map (pcel A B s):=by
 unfold canonC;have h1:sortBy Cl.id (A.flatMap fun s=>B.map (pcel A B s))=A.flatMap fun s=>B.map (pcel A B s):=(eq_sortBy ((pids hA hB).imp fun h=>by omega) (Stab.refl _)).symm;rw[h1];have h2:∀ c∈A.flatMap fun s=>B.map (pcel A B s),normC c=c:=fun c hc=>by
  obtain ⟨s,hs,hc⟩:=List.mem_flatMap.1 hc;obtain ⟨t,ht,rfl⟩:=List.mem_map.1 hc;unfold normC;have:sortBy Side.cell (pcel A B s t).sides=(pcel A B s t).sides:=(eq_sortBy ((psorted hA hB hs ht).imp fun h=>by omega) (Stab.refl _)).symm;rw[this]
 have h3:=List.map_congr_left h2;rw[h3];simp
theorem pright (h1:∀ s∈A,s.length≤3)(h2:∀ t∈B,t.length≤3)(hl:A.length * B.length≤4000):checkC (A.flatMap fun s=>B.map (pcel A B s))=(0,0):=by
 refine check_ok (by rw[flatMap_len]; exact hl) ?_ ?_ ?_ ?_ <;> rw[pcanon hA hB]
 ·intro x hx;obtain ⟨s,hs,hx⟩:=List.mem_flatMap.1 hx;obtain ⟨t,ht,rfl⟩:=List.mem_map.1 hx;show 0<pid A B s t;unfold pid;omega
 ·exact pids hA hB
 ·intro x hx;obtain ⟨s,hs,hx⟩:=List.mem_flatMap.1 hx;obtain ⟨t,ht,rfl⟩:=List.mem_map.1 hx;exact pform hA hB hs ht (h1 s hs) (h2 t ht)
 ·intro x hx hd;obtain ⟨s,hs,hx⟩:=List.mem_flatMap.1 hx;obtain ⟨t,ht,rfl⟩:=List.mem_map.1 hx;have hd:(s.length:Int) - 1+((t.length:Int) - 1)>1:=hd;exact paround hA hB hs ht (h1 s hs) (h2 t ht) oM
end
structure Few (a:List Cl)(A:List (List Int)):Prop where
 good:Good A
 cells:a=A.map (celC A)
 small:∀ s∈A,s.length≤3
 few:A.length≤14
theorem Few.canon {a:List Cl}{A:List (List Int)}(h:Few a A):canonC a=a:=by rw[h.cells,h.good.canon]
theorem Few.tab {a:List Cl}{A:List (List Int)}(h:Few a A):tabC a=a:=by rw[h.cells,h.good.tab]
theorem Few.check {a:List Cl}{A:List (List Int)}(h:Few a A):checkC a=(0,0):=by
 have hc:=h.canon;have hi:=h.good.ids;rw[List.pairwise_map] at hi;have h0:a.length≤4000:=by rw[h.cells,List.length_map]; have:=h.few; omega
 refine check_ok h0 ?_ ?_ ?_ ?_ <;> rw[hc,h.cells]
 ·intro x hx;obtain ⟨s,_,rfl⟩:=List.mem_map.1 hx;show 0<ixC A s;unfold ixC;omega
 ·exact hi
 ·intro x hx;obtain ⟨s,hs,rfl⟩:=List.mem_map.1 hx;exact h.good.formOk hs
 ·intro x hx hd;obtain ⟨s,hs,rfl⟩:=List.mem_map.1 hx;refine h.good.aroundOk hs ?_;have:(s.length:Int) - 1>1:=hd;omega
theorem Few.prod {a b:List Cl}{A B:List (List Int)}(ha:Few a A)(hb:Few b B):prodC a b=A.flatMap fun s=>B.map (pcel A B s):=by
 have hl:A.length * B.length≤14 * 14:=Nat.mul_le_mul ha.few hb.few;have hbad:prodBad a b=false:=by
  unfold prodBad;rw[ha.check,hb.check,ha.cells,hb.cells,List.length_map,List.length_map,← Int.natCast_mul];simp;omega
 have hall:prodAll a b=A.flatMap fun s=>B.map (pcel A B s):=by rw[ha.cells,hb.cells,prodAll_good ha.good hb.good]
 unfold prodC;rw[hbad,hall,pright ha.good hb.good ha.small hb.small oM,pcanon ha.good hb.good];rfl
theorem Few.prodRight {a b:List Cl}{A B:List (List Int)}(ha:Few a A)(hb:Few b B):checkC (prodC a b)=(0,0):=by
 have hl:A.length * B.length≤14 * 14:=Nat.mul_le_mul ha.few hb.few;rw[ha.prod hb,pright ha.good hb.good ha.small hb.small oM]
theorem Few.prodLen {a b:List Cl}{A B:List (List Int)}(ha:Few a A)(hb:Few b B):(prodC a b).length=a.length * b.length:=by
 rw[ha.prod hb,flatMap_len,ha.cells,hb.cells,List.length_map,List.length_map]
theorem sum_flat {α β:Type}(l:List α)(m:List β)(f:α→Int)(g:β→Int)(k:α→β→Int)(h:∀ a b,a∈l→b∈m→k a b=f a * g b):((l.flatMap fun a=>m.map (k a)).sum)=(l.map f).sum * (m.map g).sum:=by
 induction l with
 | nil=>simp
 | cons a r ih =>
  have h1:(m.map (k a)).sum=f a * (m.map g).sum:=by
   have h2:∀ b∈m,k a b=f a * g b:=fun b hb=>h a b (by simp) hb;clear ih h;induction m with
   | nil=>simp
   | cons b q ih2 =>
    simp only[List.map_cons,List.sum_cons];rw[ih2 fun c hc=>h2 c (by simp[hc]),h2 b (by simp),Int.mul_add]
  simp only[List.flatMap_cons,List.sum_append,List.map_cons,List.sum_cons];rw[ih fun x b hx hb=>h x b (by simp[hx]) hb,h1,Int.add_mul]
def sgD (d:Int):Int:=if d.tmod 2=0 then 1 else -1
theorem sgD_add {a b:Int}(ha:0≤a)(hb:0≤b):sgD (a+b)=sgD a * sgD b:=by
 unfold sgD;rw[Int.tmod_eq_emod_of_nonneg oM,Int.tmod_eq_emod_of_nonneg ha,Int.tmod_eq_emod_of_nonneg hb];by_cases h1:a % 2=0 <;> by_cases h2:b % 2=0
 ·rw[if_pos h1,if_pos h2,if_pos oM]; rfl
 ·rw[if_pos h1,if_neg h2,if_neg oM]; rfl
 ·rw[if_neg h1,if_pos h2,if_neg oM]; rfl
 ·rw[if_neg h1,if_neg h2,if_pos oM]; rfl
theorem Few.euler {a b:List Cl}{A B:List (List Int)}(ha:Few a A)(hb:Few b B):eulC (prodC a b)=eulC a * eulC b:=by
 have hp:=pcanon ha.good hb.good;have ht:tabC (prodC a b)=A.flatMap fun s=>B.map (pcel A B s):=by
  rw[ha.prod hb,tabC_strict (by rw[hp]; exact pids ha.good hb.good),hp]
 unfold eulC;rw[ht,ha.tab,hb.tab]
 conv=>rhs; rw[ha.cells,hb.cells]
 rw[List.map_map,List.map_map,List.map_flatMap];simp only[List.map_map];refine sum_flat A B _ _ (fun s t=>sgD ((s.length:Int) - 1+((t.length:Int) - 1))) fun s t hs ht=>?_;have n1:=List.length_pos_iff.2 (ha.good.form s hs).1;have n2:=List.length_pos_iff.2 (hb.good.form t ht).1;exact sgD_add oM oM
end Go.Proofs.YteahknngoogpaaaGreatDoor
