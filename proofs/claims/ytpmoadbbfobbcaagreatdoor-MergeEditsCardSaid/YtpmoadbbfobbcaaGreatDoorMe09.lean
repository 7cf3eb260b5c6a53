/- 9 -/
import Derived.Test.YtpmoadbbfobbcaaGreatDoorMe08
import Derived.SizedLaws
set_option linter.unusedSimpArgs false
set_option linter.unusedVariables false
namespace Go.Sy
open Go
variable {T:TypeId}{w:World}{v:Value}{i:Nat}
section
variable {P:Program}{N:Nat}{E:World}{f:Fr}{g:PH}{s s1:Own}{dst:Option Tmp}{ty:TypeId}{pos:String}{af:Array Edge}{gd:Option<|Nat×Bool}{α:Type}{k:Nat}{e:Enc α k}
def que (e:Enc α k)(T:TypeId)(v:Value)(l:List α):Ent :=
 ⟨jV v,fun oo=>(∃ p,v = .slice p 0 0∧l=[]) ∨
  ∃ b o cap cur,v = .slice (some ⟨b,o,none⟩) l.length (cap+1)∧oo=some (.cells cur T (0,0))∧l.length≤cap+1∧cap+1≤maxLen∧cur.size=o+(cap+1) * k∧(cur.toList.drop o).take (l.length * k)=l.flatMap e.enc⟩
theorem xJ {l:List α}(h:At E g s w)(a:s[i]?=some (que e T v l)):(∃ p,v = .slice p 0 0∧l=[]) ∨
  ∃ b o cap cur,v = .slice (some ⟨b,o,none⟩) l.length (cap+1)∧w.heap[b]?=some (.cells cur T (0,0))∧l.length≤cap+1∧cap+1≤maxLen∧cur.size=o+(cap+1) * k∧(cur.toList.drop o).take (l.length * k)=l.flatMap e.enc:=by
 rcases h.own _ (zg3 a) with c | ⟨b,o,cap,cur,rfl,d,f⟩
 ·exact .inl c
 ·refine .inr ⟨b,o,cap,cur,I,?_,f⟩;simpa [que,jV] using d
theorem mJ {b o cap:Nat}{l:List α}{cur:Array Value}(hb:w.heap[b]?=some (.cells cur T (0,0)))(hn:l.length≤cap+1)(hc:cap+1≤maxLen)(a:cur.size=o+(cap+1) * k)(c:(cur.toList.drop o).take (l.length * k)=l.flatMap e.enc) :
  (que e T (.slice (some ⟨b,o,none⟩) l.length<|cap+1) l).holds ((que e T (.slice (some ⟨b,o,none⟩) l.length<|cap+1) l).blk.bind fun b=>w.heap[b]?) :=
 .inr ⟨b,o,cap,cur,rfl,by simpa [que,jV] using hb,hn,hc,a,c⟩
theorem EK {l:List α}(h:At E g s w)(a:s[i]?=some (que e T v l)):∃ p c,v = .slice p l.length c∧(0<l.length→based v=true):=by
 rcases xJ h a with ⟨p,rfl,rfl⟩ | ⟨b,o,cap,cur,rfl,_⟩
 ·exact⟨_,_,I,fun h=>absurd h dO⟩
 ·exact⟨_,_,I,fun _=>I⟩
theorem At.toQue {l:List α}(h:At E g s w)(d:s[i]?=some (rowA e T v l)):At E g (s.set i<|que e T v l) w:=by
 obtain ⟨m,a⟩:=ia h d;refine h.turn d I ⟨I,dm _⟩ I (dm _) (fun _ _ _=>I) ?_ fun b hb=>⟨(h.fresh _ (zg3 d) b hb).2,.inl hb⟩
 rcases a with ⟨q,rfl,n⟩ | ⟨b,cap,cur,rfl,hg,f,j,k,c⟩
 ·exact .inl ⟨q,I,zf5 n⟩
 ·exact mJ hg f j (by rw[k];omega) (by simpa using c)
theorem At.front {c n:Nat}{p:Option Addr}{a:α}{l:List α}(h:At E g s w)(m:s[i]?=some (que e T (.slice p n c)<|a::l)):At E g (s.set i<|que e T (sliced p 1 n c k) l) w:=by
 rcases xJ h m with ⟨q,y,z⟩ | ⟨b,o,cap,cur,y,hg,j,A,r,f⟩
 ·cases z
 ·injection y with e1 e2 e3
  subst e1;subst e2;subst e3;have t:=h.fresh _ (zg3 m) b rfl;cases cap with
  | zero =>
   have u:l=[]:=by simpa using j
   subst u;refine h.turn m I ⟨I,dm _⟩ I (dm _) (fun _ _ _=>I) (.inl ⟨_,I,I⟩) fun B d=>?_;simp[que,sliced,jV] at d
  | succ cap =>
   have v:sliced (some ⟨b,o,none⟩) 1 (a::l).length (cap+1+1) k = .slice (some ⟨b,o+k,none⟩) l.length (cap+1):=by
    simp[sliced,Addr.add_lit]
   rw[v];refine h.turn m I ⟨I,dm _⟩ I (dm _) (fun _ _ _=>I) ?_ (fun B d=>?_)
   ·refine mJ hg (by simpa using j) oM (by rw[r,Nat.succ_mul<|cap+1];omega) ?_;have x:=ze3 (List.drop k) f;rw[zh6,List.drop_left'<|e.len a,List.drop_take,List.drop_drop] at x;have C:(a::l).length * k - k=l.length * k:=by rw[ze9,Nat.succ_mul];omega
    rw[C] at x;exact x
   ·simp only[que,jV,zg8] at d;subst d;exact⟨t.2,.inl I⟩
theorem Rd.que {l:List α}(i:Nat)(c:s[i]?=some (que e T v l)):Rd g s v<|l.flatMap e.enc:=by
 intro E w d j x a
 rcases xJ d c with ⟨p,rfl,rfl⟩ | ⟨b,o,cap,cur,rfl,hb,_,_,_,f⟩
 ·simp at a
 ·refine⟨⟨b,o,none⟩,l.length,cap+1,I,I,?_⟩;rw[← f,zi2] at a;split at a
  ·rw[zi3] at a;simp[World.cell?,hb];simpa using a
  ·cases a
theorem oC (w:World)(t ty e:TypeId)(i:TypeInfo)(p:P.underlying t=some (.slice e))(q:P.info? e=some i)
  (g o b d:Nat) (cur:Array Value) (hg:w.heap[g]?=some (.cells cur e (0,0)))
  (a:Addr) (m c:Nat) (news:List Value) (hl:news.length=m * i.size) (f:∀ j u,news[j]?=some u→w.cell? (a.add j)=some u) (r:∀ u∈news,u.oneCell'=true)
  (k:b+m≤d) (l:o+b * i.size+news.length≤cur.size) :
  (Builtin.append_ #[t,t] ty #[.slice (some ⟨g,o,none⟩) b d,.slice (some a) m c]).run P w =
   .ok (.slice (some ⟨g,o,none⟩) (b+m) d) (w.setRow g (cur.toList.take (o+b * i.size)++news++cur.toList.drop (o+b * i.size+news.length)).toArray):=by
 have s:=run_firstCells_some (P:=P) w i.size m a m c news hl f;have n:=run_storeCells_at P g (o+b * i.size) e news 0 cur w hg (by simpa using l) r;simp only[Nat.add_zero] at n;simp[Builtin.append_,run_underlying p,sizeOf,typeInfo,q,Builtin.lenOf,k,s,Addr.add_lit,n]
theorem At.newQue {w':World}{cap:Nat}{l:List α}{a:α}{zs:List Value}(h:At E g s w)(o:s[i]?=some (que e T v l))(j:w'=w.drew.alloc (.cells ((l.flatMap e.enc).toArray++(e.enc a).toArray++zs.toArray) T))
  (hc:l.length+1≤cap) (m:cap≤maxLen) (hz:zs.length=(cap - (l.length+1)) * k) :
  At E g (s.set i<|que e T (.slice (some ⟨w.heap.size,0,none⟩) (l.length+1) cap)<|l++[a]) w':=by
 subst j;obtain ⟨cap,rfl⟩:∃ c,cap=c+1:=⟨cap - 1,oM⟩;have d:(w.drew.alloc<|.cells ((l.flatMap e.enc).toArray++(e.enc a).toArray++zs.toArray) T).heap[w.heap.size]?=some (.cells ((l.flatMap e.enc).toArray++(e.enc a).toArray++zs.toArray) T (0,0)):=heap_alloc_new w.drew _;have f:l.length+1=(l++[a]).length:=by simp
 rw[f];refine h.turn o I ⟨I,(by exact Nat.le_add_right _ _)⟩ I dO (fun k n _=>by (first | exact heap_alloc_old w.drew _ k n | exact heap_alloc_old w.drew _ n)) (mJ d (by simpa using hc) m ?_ ?_) (fun b hb=>?_)
 ·simp only[Array.size_append,List.size_toArray,e.length,e.len,hz];have:(cap+1) * k=(l.length+1) * k+(cap+1 - (l.length+1)) * k:=by rw[← Nat.add_mul];congr 1;omega
  rw[this,Nat.add_mul];omega
 ·have:(l++[a]).length * k=(l.flatMap e.enc++e.enc a).length:=by simp[e.length,e.len,Nat.add_mul]
  rw[this];simp only[Array.toList_append,List.drop_zero];rw[List.take_left,H4];simp
 ·simp only[que,jV,zg8] at hb;subst hb;exact⟨by simp,.inr<|dm _⟩
theorem SO.queA {bytes b:Nat}{x y:Operand}{t:TypeId}{z:Value}{l:List α}{cs:Array Value}(i:Nat)(a:α)(L:STy P t T k bytes z)(hx:ev f x=some v)(hy:ev f y=some (.slice (some ⟨b,0,none⟩) 1 1))
  (hs:s=pt b (.cells cs T (0,0))::s1) (M:s1[i]?=some (que e T v l)) (hc:cs.toList=e.enc a) (hb:(l.length+1) * bytes≤140737488355328) (D:l.length+1≤4611686018427387904) :
  SO P N E ⟨dst,.call ⟨.builtin .append,#[x,y],#[t,t]⟩,ty,pos,af,gd⟩ f g s fun v' g' s'=>g=g'∧s'=s1.set i (que e T v'<|l++[a]) :=
 IH fun a0 w ha Q=>by
  have hr:Rd g s (.slice (some ⟨b,0,none⟩) 1 1) cs.toList:=Rd.pt 0 (by rw[hs];rfl);have O:At E g s1 w:=Q.sublist (by rw[hs];exact .cons _<|.refl _);obtain ⟨W,A,G,m,H⟩:=L.info;rw[hc] at hr;have d:∀ j q,(e.enc a)[j]?=some q→w.cell? ((⟨b,0,none⟩:Addr).add j)=some q:=fun j q hq=>by
   obtain ⟨a',_,_,he,_,hc⟩:=hr E w Q j q hq;cases he;have p:(⟨b,0,none⟩:Addr).add j=⟨b,0+j,none⟩:=by unfold Addr.add;split <;> simp_all
   rw[p];exact hc
  have r:(e.enc a).length=1 * k:=by rw[e.len];omega
  have J:∀ c,(Builtin.zeroCells z.cells c).toList.length=c * k:=fun c=>by simp[size_zeroCells,L.zs]
  have key:∃ v' w',(Builtin.append_ #[t,t] ty #[v,.slice (some ⟨b,0,none⟩) 1 1]).run P w = .ok v' w'∧At E g (s1.set i<|que e T v'<|l++[a]) w':=by
   rcases xJ O M with ⟨q,rfl,rfl⟩ | ⟨F,o,cap,cur,rfl,hg,a3,B,X,u⟩
   ·have C:=grownCap_ge w (0+1) 0 T;have B:=grownCap_le_maxLen w (0+1) 0 T (by unfold maxLen;omega);cases q with
    | none =>
     have K:=run_append_nil (P:=P) w t ty T W z L.und A G ⟨b,0,none⟩ 1 1 (e.enc a) (by rw[m];exact r) d oM oM (by rw[H];simp at hb;omega);have R:=O.newQue (e:=e) (l:=[]) (a:=a) (zs:=(Builtin.zeroCells z.cells<|grownCap w (0+1) 0 T - (0+1)).toList) M rfl C B (by rw[J];rfl);refine⟨_,_,K,?_⟩;simpa using R
    | some q =>
     have K:=run_append_grow (P:=P) w t ty T W z L.und A G q 0 0 [] dO dO ⟨b,0,none⟩ 1 1 (e.enc a) (by rw[m];exact r) d oM oM (by rw[H];exact growslice_fits oM<|by simpa using hb);have R:=O.newQue (e:=e) (l:=[]) (a:=a) (zs:=(Builtin.zeroCells z.cells<|grownCap w (0+1) 0 T - (0+1)).toList) M rfl C B (by rw[J];rfl);refine⟨_,_,K,?_⟩;simpa using R
   ·by_cases n:l.length+1≤cap+1
    ·have S:o+l.length * k+(e.enc a).length≤cur.size:=by
      rw[r,X,Nat.add_assoc,← Nat.add_mul];exact Nat.add_le_add_left (Nat.mul_le_mul_right _ n) _
     have K:=oC (P:=P) w t ty T W L.und A F o l.length (cap+1) cur hg ⟨b,0,none⟩ 1 1 (e.enc a) (by rw[m];exact r) d (e.one a) n (by rw[m];exact S);refine⟨_,_,K,?_⟩;have Y:=O.fresh _ (zg3 M) F rfl;have D:l.length+1=(l++[a]).length:=by simp
     rw[D];refine O.turn M I ⟨I,(by exact dm _)⟩ I dO (fun k' _ Z=>setRow_other w F k' _<|fun e1=>Z<|by simp[que,jV,e1]) (mJ (setRow_heap w F cur _ T _ hg) (by simpa using n) B ?_ ?_) (fun b' U=>?_)
     ·rw[m];simp only[List.size_toArray,ze6,ze5,zf1,Array.length_toList];omega
     ·rw[m];have a4:cur.toList.length=cur.size:=by simp
      have h1:cur.toList.take (o+l.length * k)=cur.toList.take o++l.flatMap e.enc:=by
       rw[← u,List.take_add]
      have h2:(cur.toList.take o).length=o:=by rw[ze5];omega
      simp only[h1,zg9];rw[List.drop_left' h2,← zg9];have h3:(l++[a]).length * k=(l.flatMap e.enc++e.enc a).length:=by simp[e.length,e.len,Nat.add_mul]
      rw[h3,List.take_left,H4];simp
     ·simp only[que,jV,zg8] at U;subst U;exact⟨by simpa using Y.2,.inl I⟩
    ·have holds:∀ j q,(l.flatMap e.enc)[j]?=some q→w.cell? ((⟨F,o,none⟩:Addr).add j)=some q:=fun j q hq=>by
      have p:(⟨F,o,none⟩:Addr).add j=⟨F,o+j,none⟩:=by unfold Addr.add;split <;> simp_all
      rw[← u,zi2] at hq;split at hq
      ·rw[zi3] at hq;rw[p];simp[World.cell?,hg];simpa using hq
      ·cases hq
     have C:=grownCap_ge w (l.length+1) (cap+1) T;have V:=grownCap_le_maxLen w (l.length+1) (cap+1) T (by unfold maxLen;omega);have K:=run_append_grow (P:=P) w t ty T W z L.und A G ⟨F,o,none⟩ l.length (cap+1) (l.flatMap e.enc) (by rw[m];exact e.length l) holds ⟨b,0,none⟩ 1 1 (e.enc a) (by rw[m];exact r) d oM oM (by rw[H];exact growslice_fits oM hb);have R:=O.newQue (a:=a) (zs:=(Builtin.zeroCells z.cells<|grownCap w (l.length+1) (cap+1) T - (l.length+1)).toList) M rfl C V (by rw[J]);refine⟨_,_,K,?_⟩;simpa using R
  obtain ⟨v',w',a1,a2⟩:=key;exact⟨v',w',g,_,wK (ha.ev hx) (ha.ev hy) a1,a2,I,I⟩
end
end Go.Sy
namespace Go.Proofs.YtpmoadbbfobbcaaGreatDoor
open _root_.Go.Proofs.Tryz _root_.Go.Proofs.YtpmoadbbfobbcaaGreatDoor.Tryz
open Go Go.Sy Go.Pl Go.Proofs
def jF (A:List Cl)(k:Int):Option<|List Int:=(ah A k).map fun c=>c.sides.map ak.cell
theorem sd (A:List Cl):∀ (n:Nat) (id:Int) (vis:List Int),eF A n id vis=dfs (jF A) n id vis
 | 0,_,_=>rfl
 | n+1,id,vis=>by
  rw[qB,kA];unfold jF;cases ah A id with
  | none=>rfl
  | some c =>
   simp only[Option.map_some,List.foldl_map];congr 2;funext v x;exact sd A n x.cell v
variable {A tl:List Cl}{i k n:Nat}{all:List<|List Int}{a b c x p:Int}{m l t:List Int}{ml:List<|Int×List Int}
theorem D2 {k:Int}(h:jF A k=some l):∃ c,ah A k=some c∧c.sides.map ak.cell=l:=by
 unfold jF at h;cases a:ah A k with
 | none=>rw[a] at h;cases h
 | some c=>rw[a] at h;injection h with h;exact⟨c,I,h⟩
theorem y6 (A:List Cl):∀ v k l,jF A k=some l→l≠[]→v.contains k=false→qT A (v++[k])<qT A v:=by
 intro v k l hl _ a;obtain ⟨c,b,_⟩:=D2 hl;obtain ⟨hm,rfl⟩:=aC b;exact CJ hm a
def xE (A:List Cl)(v:List Int):Prop:=∀ x∈v,∀ l,jF A x=some l→∀ y∈l,jF A y≠none→y∈v
theorem we (A:List Cl):∀ (ids v:List Int),xE A v→xE A (ids.foldl (fun v id=>eF A (A.length+1) id v) v)∧(∀ x∈v,x∈ids.foldl (fun v id=>eF A (A.length+1) id v) v) ∧
  (∀ id∈ids,jF A id≠none→id∈ids.foldl (fun v id=>eF A (A.length+1) id v) v)∧∀ x∈ids.foldl (fun v id=>eF A (A.length+1) id v) v,x∈v∨∃ id∈ids,Rch (jF A) id x
 | [],v,h=>⟨h,fun _ h=>h,by simp,fun _ h=>.inl h⟩
 | id::ids,v,h=>by
  have hc:=kN (jF A) (qT A) (fun v v' h=>pJ h) (y6 A) (A.length+1) id v<|zk9<|CK _ _;have b:=tm (jF A) (A.length+1) id v;have hd:=pI (jF A) (A.length+1) id v;rw[← sd] at hc b hd;have c:xE A<|eF A (A.length+1) id v:=by
   intro x a l hl y f hn;by_cases g:x∈v
   ·exact b y<|h x g l hl y f hn
   ·exact hc.2 x a g l hl y f hn
  obtain ⟨j,i,k,m⟩:=we A ids _ c;simp only[zi9];refine⟨j,fun x a=>i x<|b x a,fun q hq hn=>?_,fun x a=>?_⟩
  ·rcases zf2.1 hq with rfl | hq
   ·exact i _<|hc.1 hn
   ·exact k q hq hn
  ·rcases m x a with d | ⟨q,hq,d⟩
   ·rcases hd x d with e | e
    ·exact .inl e
    ·exact .inr ⟨id,by simp,e⟩
   ·exact .inr ⟨q,by simp[hq],d⟩
theorem jY (A:List Cl)(ids:List Int)(x:Int):x∈gw A ids↔∃ id∈ids,Rch (jF A) id x:=by
 obtain ⟨e,_,f,g⟩:=we A ids [] (fun x i=>absurd i<|by simp);refine⟨fun h=>(g x h).resolve_left dO,fun ⟨id,d,hr⟩=>?_⟩;have key:∀ a b,Rch (jF A) a b→a∈gw A ids→b∈gw A ids:=by
  intro a b hr;induction hr with
  | refl a _=>exact fun h=>h
  | step a b c l hl hb r ih=>exact fun h=>ih<|e a h l hl b hb r.node
 exact key id x hr<|f id d hr.node
def ko (A:List Cl)(m:List Int):Nat:=((A.filter fun c=>!m.contains c.id).map fun c=>c.sides.length).sum
theorem jk (d:Cl)(A:List Cl)(m:List Int):ko (d::A) m=(if m.contains d.id then 0 else d.sides.length)+ko A m:=by
 unfold ko;rw[zi8];cases m.contains d.id <;> simp
theorem Bz (A:List Cl)(m:List Int)(x:Int):ko A (m++[x])≤ko A m:=by
 induction A with
 | nil=>exact dm _
 | cons d t ih =>
  rw[jk,jk];have:m.contains d.id=true→(m++[x]).contains d.id=true:=fun h=>by simp at h ⊢;exact .inl h
  cases a:m.contains d.id <;> cases b:(m++[x]).contains d.id <;> simp_all <;> omega
theorem vY {c:Cl}(hc:c∈A)(hn:m.contains c.id=false):ko A (m++[c.id])+c.sides.length≤ko A m:=by
 induction A with
 | nil=>simp at hc
 | cons d t ih =>
  have hm:=Bz t m c.id;rw[jk,jk]
  rcases zf2.1 hc with rfl | a
  ·have:(m++[c.id]).contains c.id=true:=by simp
   rw[this,hn];simp;omega
  ·have b:=ih a;have:m.contains d.id=true→(m++[c.id]).contains d.id=true:=fun h=>by simp at h ⊢;exact .inl h
   cases e:m.contains d.id <;> cases f:(m++[c.id]).contains d.id <;> simp_all <;> omega
structure xl (A:List Cl)(ids left m:List Int):Prop where
 sound:∀ x∈m,∃ id∈ids,Rch (jF A) id x
 todo:∀ x∈left,jF A x≠none→∃ id∈ids,Rch (jF A) id x
 start:∀ x∈ids,jF A x≠none→x∈left∨x∈m
 sides:∀ x∈m,∀ l,jF A x=some l→∀ y∈l,jF A y≠none→y∈left∨y∈m
 few:left.length+ko A m≤ids.length+ko A []
theorem xl.begin (A:List Cl)(ids:List Int):xl A ids ids []:=⟨by simp,fun x a h=>⟨x,a,.refl x h⟩,fun x a _=>.inl a,by simp,dm _⟩
theorem Rch.snoc {d:Int→Option (List Int)}(h:Rch d a b)(hl:d b=some l)(hc:c∈l)(hn:d c≠none):Rch d a c:=by
 induction h with
 | refl a _=>exact .step a c c l hl hc<|.refl c hn
 | step a b' c' l' f e _ ih=>exact .step a b' c l' f e<|ih hl
theorem xl.skip {ids left:List Int}(h:xl A ids (x::left) m)(b:jF A x=none∨x∈m):xl A ids left m:=by
 refine⟨h.sound,fun y c=>h.todo y<|by simp[c],fun y c hn=>?_,fun y c l hl z hz hn=>?_,by have:=h.few;simp at this;omega⟩
 ·rcases h.start y c hn with a | a
  ·rcases zf2.1 a with rfl | a
   ·rcases b with b | b
    ·exact absurd b hn
    ·exact .inr b
   ·exact .inl a
  ·exact .inr a
 ·rcases h.sides y c l hl z hz hn with a | a
  ·rcases zf2.1 a with rfl | a
   ·rcases b with b | b
    ·exact absurd b hn
    ·exact .inr b
   ·exact .inl a
  ·exact .inr a
theorem xl.mark {ids left:List Int}{c:Cl}(h:xl A ids (x::left) m)(i:ah A x=some c)(j:m.contains x=false):xl A ids (left++c.sides.map ak.cell)<|m++[x]:=by
 have e:jF A x=some (c.sides.map ak.cell):=by unfold jF;rw[i];rfl
 have hr:∃ id∈ids,Rch (jF A) id x:=h.todo x dO (by rw[e];simp);obtain ⟨f,d⟩:=aC i;refine⟨fun y a=>?_,fun y a hn=>?_,fun y a hn=>?_,fun y a l hl z hz hn=>?_,?_⟩
 ·rcases zf4.1 a with a | a
  ·exact h.sound y a
  ·simp at a;subst a;exact hr
 ·rcases zf4.1 a with a | a
  ·exact h.todo y (by simp[a]) hn
  ·obtain ⟨id,g,hr⟩:=hr;exact⟨id,g,hr.snoc e a hn⟩
 ·rcases h.start y a hn with b | b
  ·rcases zf2.1 b with rfl | b
   ·exact .inr dO
   ·exact .inl (by simp[b])
  ·exact .inr (by simp[b])
 ·rcases zf4.1 a with a | a
  ·rcases h.sides y a l hl z hz hn with b | b
   ·rcases zf2.1 b with rfl | b
    ·exact .inr dO
    ·exact .inl (by simp[b])
   ·exact .inr (by simp[b])
  ·simp at a;subst a;rw[e] at hl;injection hl with hl
   subst hl;exact .inl<|zf4.2<|.inr hz
 ·have b:=h.few;have k:=vY f (by rw[d];exact j);rw[d] at k;simp at b ⊢;omega
theorem xl.done {ids:List Int}(h:xl A ids [] m)(x:Int):m.contains x=(gw A ids).contains x:=by
 have key:∀ a b,Rch (jF A) a b→a∈m→b∈m:=by
  intro a b hr;induction hr with
  | refl a _=>exact fun h=>h
  | step a b c l hl hb r ih=>exact fun e=>ih ((h.sides a e l hl b hb r.node).resolve_left<|by simp)
 have:x∈m↔x∈gw A ids:=by
  rw[jY];exact⟨h.sound x,fun ⟨id,d,hr⟩=>key id x hr<|(h.start id d hr.node).resolve_left<|by simp⟩
 rw[Bool.eq_iff_iff];simpa using this
def inB (B:List Cl)(x:Cl):Bool:=match ah B x.id with
 | some y=>decide (x=y)
 | none=>false
def oY (A B:List Cl)(id:Int):Bool:=match ah B id with
 | some y=>decide ((ah A id).getD aJ=y)
 | none=>false
def la (A B:List Cl)(c:Cl):Bool:=(gw A [c.id]).all<|oY A B
def fV (A B:List Cl):List Cl:=A.filter<|la A B
theorem Rch.last {c:Int→Option (List Int)}(h:Rch c a b):c b≠none:=by
 induction h with
 | refl _ h=>exact h
 | step _ _ _ _ _ _ _ ih=>exact ih
theorem tY {ids:List Int}(h:x∈gw A ids):∃ c,ah A x=some c:=by
 obtain ⟨id,_,hr⟩:=(jY A ids x).1 h;have:=hr.last;unfold jF at this;cases a:ah A x with
 | none=>rw[a] at this;simp at this
 | some c=>exact⟨c,rfl⟩
theorem Ds {B:List Cl}(hA:(A.map Cl.id).Nodup)(c:Cl):(A.all fun x=>!(gw A [c.id]).contains x.id||inB B x)=la A B c:=by
 rw[Bool.eq_iff_iff,la,zk1,zk1];have e:∀ x∈A,oY A B x.id=inB B x:=fun x e=>by unfold oY inB;rw[DN hA e];rfl
 constructor
 ·intro h id a;obtain ⟨d,hd⟩:=tY a;obtain ⟨b,rfl⟩:=aC hd;have:=h d b;rw[e d b];simpa [a] using this
 ·intro h x f;cases hc:(gw A [c.id]).contains x.id with
  | false=>rfl
  | true =>
   have:=h x.id (by simpa using hc);rw[e x f] at this;simpa using this
set_option maxRecDepth 100000
set_option maxHeartbeats 1000000
theorem EV (E:World)(g0:PH)(P Q:Nat)(tv uv:Value)(A B:List Cl)(hT:Tab g0 tv A)(hU:Tab g0 uv B)(hA:aM A)(c5:(A.map Cl.id).Nodup)(h1:g0 P=some (bY #[tv] 77))(h2:g0 Q=some (bY #[uv] 77)) :
  ve E (.func (.func 35) #[] #[pp P 0,pp Q 0]) (la A B) A g0:=by
 intro g s c r d c3 hc;replace hT:=hT.mono d;replace hU:=hU.mono d;replace h1:=d _ _ h1;replace h2:=d _ _ h2;obtain ⟨rp,f,rfl,c6⟩:=cG hc;refine cQ.mk (cap:=[pp P 0,pp Q 0]) call35 ?_;have a2:=hT;obtain ⟨ba,ma,c7,ra,rfl,a3,a4,c9,H⟩:=hT;obtain ⟨bb,mb,d0,rb,rfl,R,S,d1,J⟩:=hU;have a5:=fun id (h:id∈gw A [c.id])=>tY h;have K:la A B c=(gw A [c.id]).all (oY A B):=rfl;generalize hC:gw A [c.id]=C at *;refine zb2 (args:=[rcv ⟨c.id,c.dim,⟨rp,c.sides.length,f⟩⟩,pp P 0,pp Q 0]) func35 I ntmps35 (bE I)<|rZ (bW (bO I) fun b3=>?_);refine aT I<|sQ<|rZ<|lK (qL isAgg77 I<|ao.known h1 I)<|lU (bj ap I zT3 I)<|lK (qL (v:=vi c.id) iT3 I<|cO 0 I I)<|lW (bS sty43 I I I (ab ⟨I,trivial⟩) dC) ?_;rintro _ _ _ ⟨a9,rfl,rfl,rfl⟩;refine zb5 fun g1 q T=>?_;have b0:dA g1 (.slice (some ⟨a9,0,none⟩) 1 1) [c.id]:=kb T rfl rfl;refine lW (bt call36 I<|xe E g1 _ _ _ A [c.id] (a2.mono q) hA b0 dO) ?_;rintro _ g2 _ ⟨m,rfl,U,rfl⟩;rw[hC];refine SL.freezeMap fun g3 V b1=>?_;obtain ⟨es,clk,o,j⟩:=b1;refine lW (I4 underlying80 I o) ?_;rintro _ _ _ ⟨it,rfl,rfl,rfl⟩;refine tZ<|bK ?_;have a:=q.trans<|U.trans V;refine oP (ι:=List MapEntry×List (Int×Value)) (fun _=>[(1,pp P 0),(2,pp Q 0),(13,pp it 0)]) (fun _=>g3)
  (fun i=>iter it m es clk i.1::pt b3 (bY #[vi c.id,vi c.dim,.slice rp c.sides.length f] 61)::s)
  (fun i=>mC (iU C) es i.1 i.2∧∀ p∈i.2,oY A B p.1=true) (fun i=>C.length - i.2.length)
  ([],[]) sB rfl rfl ⟨mC.nil _ _,by simp⟩ ?_
 rintro ⟨vis,vl⟩ ⟨L,b⟩;dsimp only at L b ⊢;have W:=L.len j;simp only[iU,ze7] at W;refine rZ<|lW (I3 0 I I o j L) ?_;rintro _ _ _ ⟨rfl,M⟩
 rcases M with ⟨rfl,rfl,N⟩ | ⟨e,pr,he,b2,X,Y,t,rfl,rfl⟩
 ·have Z:la A B c=true:=by
   rw[K,zk1];intro id k;have:(id,vb true)∈iU C:=zf3.2 ⟨id,k,rfl⟩;exact b _<|N.symm.subset this
  exact yX I<|tZ<|sQ<|za1 I<|xI<|tX<|tX<|bX<|tN<|rZ<|aT I<|rE<|dR (s':=s) (.cons _<|.cons _<|.refl _)<|Iu a<|za8 (.inl I) results35 I ⟨by rw[Z],I,I⟩
 ·obtain ⟨id,k,rfl⟩:=zf3.1 b2;have a0:=t.len j;simp only[iU,ze7,ze6,ze8] at a0;obtain ⟨x,hx⟩:=a5 id k;obtain ⟨b4,c4⟩:=aC hx;have b5:=hA.2 x b4;obtain ⟨y,b7,d2,b8⟩:=dQ H iw id;have u:an g ((ah A id).getD aJ) y:=b8;rw[hx] at u;obtain ⟨yi,yd,yp,yn,yc⟩:=y;obtain ⟨z,a1,b9,c0⟩:=dQ J iw id;obtain ⟨zi,zd,zp,zn,zc⟩:=z;have D:(eU (rb.map au) id).isSome=(ah B id).isSome:=b9;have F:an g ((ah B id).getD aJ) ⟨zi,zd,zp,zn,zc⟩:=c0;cases l:ah B id with
  | none =>
   have n:la A B c=false:=by
    rw[K,List.all_eq_false];exact⟨id,k,by unfold oY;rw[l];simp⟩
   refine yX I<|tZ<|sQ<|za2 I<|kP<|tN<|bK<|rZ<|lK (IL 0 I I o j he X Y)<|yX I<|aT I<|rZ<|lK (qL isAgg77 I<|ao.known (a _ _ h2) I)<|lU (nC I)<|lU (bj uo I rm I)<|lK (qL ru I<|ao.known (a _ _ R) I)<|lM I<|lK (SQ.eq (v':=.tuple #[rcv ⟨zi,zd,zp,zn,zc⟩,vb false]) (qn mty56 I I<|bo.known<|S.mono a)<|by rw[a1,D,l];rfl) ?_;refine lM I (yX I<|yX I<|bW (aL zl6) fun b6=>?_);refine oZ (sK 0 ar I I I I I sB)<|aT I<|sQ<|dW [] [(0,2),(1,2),(2,2),(3,1),(4,2),(5,2),(6,1),(7,2),(8,1),(9,1),(10,0),(11,2),(12,2)] ze4 kR<|yM I<|pU I (oF I)<|yM I<|yI I<|yG I<|yG I<|yI I<|yG I<|yI I<|yI I<|fO I (gZ I I I dC) dC ⟨by exact zb9 _,(by exact .refl _)⟩ ?_;refine yG I<|pU I (wT I I)<|du<|tN<|za2 I<|rZ<|aT I<|rE<|bR<|tR<|bR<|tR ?_;refine dR (s':=s) (.cons _<|.cons _<|.cons _<|.refl _)<|Iu a ?_;exact za8 (.inl I) results35 I ⟨by rw[n],I,I⟩
  | some w =>
   rw[l] at F;have c1:an g w ⟨zi,zd,zp,zn,zc⟩:=F;have G:oY A B id=decide (x=w):=by unfold oY;rw[l,hx];rfl
   refine yX I<|tZ<|sQ<|za2 I<|kP<|tN<|bK<|rZ<|lK (IL 0 I I o j he X Y)<|yX I<|aT I<|rZ<|lK (qL isAgg77 I<|ao.known (a _ _ h2) I)<|lU (nC I)<|lU (bj uo I rm I)<|lK (qL ru I<|ao.known (a _ _ R) I)<|lM I<|lK (SQ.eq (v':=.tuple #[rcv ⟨zi,zd,zp,zn,zc⟩,vb true]) (qn mty56 I I<|bo.known<|S.mono a)<|by rw[a1,D,l];rfl) ?_;refine lM I (yX I<|yX I<|bW (aL zl6) fun b6=>?_);refine oZ (sK 0 ar I I I I I sB)<|aT I<|sQ<|dW [] [(0,2),(1,2),(2,2),(3,1),(4,2),(5,2),(6,1),(7,2),(8,1),(9,1),(10,0),(11,2),(12,2)] ze4 kR<|yM I<|pU I (oF I)<|yM I<|By I (gT I I I dC) (qL isAgg77 I<|ao.known (a _ _ h1) I) dC<|zb3 I (gT I I I dC) (nC I) dC<|zb3 I (gT I I I dC) (bj uo I rm I) dC<|By I (gT I I I dC) (qL ru I<|ao.known (a _ _ a3) I) dC<|yJ I<|By I (gT I I I dC) (SQ.eq (v':=rcv ⟨yi,yd,yp,yn,yc⟩) (H6 mty56 I I<|bo.known<|a4.mono a)<|by rw[b7]) dC ?_;refine By I (gT I I I dC) (qV 0 dT ar I I I) dC<|Jo I (gT I I I dC) (bt call37 I<|vv E g3 _ x w ⟨yi,yd,yp,yn,yc⟩ ⟨zi,zd,zp,zn,zc⟩ (u.mono a) (c1.mono a) b5) dC (.inr iR) ?_;rintro _ _ _ ⟨rfl,rfl,rfl⟩;refine zb3 I (gT I I I dC) (IN I) dC<|pU I (wF I I)<|du<|tN (iP I (fun O=>?_) fun O=>?_)
   ·have n:la A B c=false:=by
     rw[K,List.all_eq_false];exact⟨id,k,by rw[G];simpa using O⟩
    exact rZ<|aT I<|rE<|bR<|tR<|bR<|tR<|dR (s':=s) (.cons _<|.cons _<|.cons _<|.refl _)<|Iu a<|za8 (.inl I) results35 I ⟨by rw[n],I,I⟩
   ·have c2:x=w:=zh1 O;refine kP<|bN<|dR (s':=iter it m es clk (vis++[e])::pt b3 (bY #[vi c.id,vi c.dim,.slice rp c.sides.length f] 61)::s) (.cons _<|.refl _) ?_;exact ct (vis++[e],vl++[(id,vb true)]) sB I I ⟨t,fun p hp=>by
     rcases zf4.1 hp with hp | hp
     ·exact b p hp
     ·simp at hp;subst hp;rw[G];simpa using c2⟩ lN
variable (E:World)(g:PH)(s:Own)
theorem EU (v u:Value)(a b:List Cl)(J:ai g v a)(K:ai g u b)(L:aM a)(hb:aM b) :
  Ctr Tryz.prog E 8 #[.agg #[v],.agg #[u]] g s fun r g' s'=>s=s'∧Le g g'∧∃ x,r = .agg #[x]∧gr (mns g' g) x (fV (am a)<|am b):=by
 obtain ⟨S,c1,rfl⟩:=J.form;obtain ⟨T,c2,rfl⟩:=K.form;have B:=bG L;have C:=iq a;refine zb2 (args:=[.agg #[.slice S a.length c1],.agg #[.slice T b.length c2]]) func8 I ntmps8 (bE I)<|rZ (bW (bO I) fun U=>?_);refine bW (bO I) fun V=>bW (aL zl9) fun W=>tZ<|lu (ι:=Nat×Nat×Value×Value×PH) (fun i=>[(2,pp U 0),(3,pp V 0),(4,pp W 0),(5,pp i.1 0),(6,pp i.2.1 0)]) (fun i=>i.2.2.2.2)
  (fun i=>pt i.2.1 (bY #[i.2.2.2.1] 77)::pt i.1 (bY #[i.2.2.1] 77)::pt W (bY #[.slice none 0 0] 29)::pt V (bY #[.slice T b.length c2] 29)::pt U (bY #[.slice S a.length c1] 29)::s)
  (fun i=>Le g i.2.2.2.2∧Ej (eJ<|mns i.2.2.2.2 g) i.2.2.2.2 i.2.2.1 (am a)∧Tab i.2.2.2.2 i.2.2.2.1 (am b)) ?_ ?_
 ·refine C1 [] ze4 kR ?_;refine Ie (i:=0) I kR (qV 2 aj ae I I I) dC<|Ie (i:=2) I kR (qV 1 aj ae I I I) dC ?_
  repeat' (first
   | ((with_reducible refine SB.k 7 ?_);first | (refine SB.on (i:=7) rfl (sK 0 sizeOf77 rfl rfl rfl rfl rfl sB) (.inr<|by rintro _ _ _ ⟨rfl,rfl⟩;exact⟨by exact kc io io,(by exact .cons _<|.cons _<|.refl _)⟩) ?_;rintro _ _ _ ⟨rfl,rfl⟩) | (refine SB.on (i:=7) rfl (sK 1 sizeOf77 rfl rfl rfl rfl rfl sB) (.inr<|by rintro _ _ _ ⟨rfl,rfl⟩;exact⟨by exact kc io io,(by exact .cons _<|.cons _<|.refl _)⟩) ?_;rintro _ _ _ ⟨rfl,rfl⟩))
   | ((with_reducible refine SB.k 6 ?_);first | (refine SB.on (i:=6) rfl (sK 1 sizeOf77 rfl rfl rfl rfl rfl sB) (.inr<|by rintro _ _ _ ⟨rfl,rfl⟩;exact⟨by exact kc io io,(by exact .cons _<|.cons _<|.refl _)⟩) ?_;rintro _ _ _ ⟨rfl,rfl⟩) | (refine SB.on (i:=6) rfl (sK 0 sizeOf77 rfl rfl rfl rfl rfl sB) (.inr<|by rintro _ _ _ ⟨rfl,rfl⟩;exact⟨by exact kc io io,(by exact .cons _<|.cons _<|.refl _)⟩) ?_;rintro _ _ _ ⟨rfl,rfl⟩))
   | ((with_reducible refine SB.k 5 ?_);first | (refine SB.o (i:=5) rfl (aL zl5) dC (.inr<|by rintro _ _ _ ⟨l,rfl,rfl,rfl⟩;exact⟨by assumption,(by exact .cons _<|.refl _)⟩) ?_;rintro _ _ _ ⟨l,rfl,rfl,rfl⟩) | (refine SB.o (i:=5) rfl (aL zl5) dC (.inr<|by rintro _ _ _ ⟨l,rfl,rfl,rfl⟩;exact⟨by exact zb9 _,(by exact .cons _<|.refl _)⟩) ?_;rintro _ _ _ ⟨l,rfl,rfl,rfl⟩) | (refine SB.o (i:=5) rfl (aL zl5) dC (.inr<|by rintro _ _ _ ⟨l,rfl,rfl,rfl⟩;exact⟨by assumption,(by exact .cons _<|.cons _<|.refl _)⟩) ?_;rintro _ _ _ ⟨l,rfl,rfl,rfl⟩) | (refine SB.o (i:=5) rfl (aL zl5) dC (.inr<|by rintro _ _ _ ⟨l,rfl,rfl,rfl⟩;exact⟨by exact zb9 _,(by exact .cons _<|.cons _<|.refl _)⟩) ?_;rintro _ _ _ ⟨l,rfl,rfl,rfl⟩) | (refine SB.o (i:=5) rfl (aL zl5) dC (.inr<|by rintro _ _ _ ⟨l,rfl,rfl,rfl⟩;exact⟨by exact kc io io,(by exact .cons _<|.refl _)⟩) ?_;rintro _ _ _ ⟨l,rfl,rfl,rfl⟩) | (refine SB.o (i:=5) rfl (aL zl5) dC (.inr<|by rintro _ _ _ ⟨l,rfl,rfl,rfl⟩;exact⟨by exact kc io io,(by exact .cons _<|.cons _<|.refl _)⟩) ?_;rintro _ _ _ ⟨l,rfl,rfl,rfl⟩))
   | ((with_reducible refine SB.k 4 ?_);first | (refine SB.o (i:=4) rfl (aL zl5) dC (.inr<|by rintro _ _ _ ⟨m,rfl,rfl,rfl⟩;exact⟨by assumption,(by exact .cons _<|.refl _)⟩) ?_;rintro _ _ _ ⟨m,rfl,rfl,rfl⟩) | (refine SB.o (i:=4) rfl (aL zl5) dC (.inr<|by rintro _ _ _ ⟨m,rfl,rfl,rfl⟩;exact⟨by exact zb9 _,(by exact .cons _<|.refl _)⟩) ?_;rintro _ _ _ ⟨m,rfl,rfl,rfl⟩) | (refine SB.o (i:=4) rfl (aL zl5) dC (.inr<|by rintro _ _ _ ⟨m,rfl,rfl,rfl⟩;exact⟨by assumption,(by exact .cons _<|.cons _<|.refl _)⟩) ?_;rintro _ _ _ ⟨m,rfl,rfl,rfl⟩) | (refine SB.o (i:=4) rfl (aL zl5) dC (.inr<|by rintro _ _ _ ⟨m,rfl,rfl,rfl⟩;exact⟨by exact zb9 _,(by exact .cons _<|.cons _<|.refl _)⟩) ?_;rintro _ _ _ ⟨m,rfl,rfl,rfl⟩) | (refine SB.o (i:=4) rfl (aL zl5) dC (.inr<|by rintro _ _ _ ⟨m,rfl,rfl,rfl⟩;exact⟨by exact kc io io,(by exact .cons _<|.refl _)⟩) ?_;rintro _ _ _ ⟨m,rfl,rfl,rfl⟩) | (refine SB.o (i:=4) rfl (aL zl5) dC (.inr<|by rintro _ _ _ ⟨m,rfl,rfl,rfl⟩;exact⟨by exact kc io io,(by exact .cons _<|.cons _<|.refl _)⟩) ?_;rintro _ _ _ ⟨m,rfl,rfl,rfl⟩))
   | ((with_reducible refine SB.k 3 ?_);first | (refine SB.o (i:=3) rfl (bt call33 rfl<|oN E g1 _ _ b (K.mono e) hb) dC (.inr<|by rintro A g2 _ ⟨rfl,c,j⟩;exact⟨by exact kc io io,(by exact .refl _)⟩) ?_;rintro A g2 _ ⟨rfl,c,j⟩;obtain ⟨M,rfl⟩:=j.ptr) | (refine SB.o (i:=3) rfl (bt call33 rfl<|oN E g1 _ _ b (K.mono e) hb) dC (.inr<|by rintro A g2 _ ⟨rfl,c,j⟩;exact⟨by exact kc io io,(by exact .cons _<|.refl _)⟩) ?_;rintro A g2 _ ⟨rfl,c,j⟩;obtain ⟨M,rfl⟩:=j.ptr) | (refine SB.o (i:=3) rfl (bt call33 rfl<|oN E g1 _ _ b (K.mono e) hb) dC (.inr<|by rintro A g2 _ ⟨rfl,c,j⟩;exact⟨by exact kc io io,(by exact .cons _<|.cons _<|.refl _)⟩) ?_;rintro A g2 _ ⟨rfl,c,j⟩;obtain ⟨M,rfl⟩:=j.ptr))
   | ((with_reducible refine SB.k 1 ?_);first | (refine SB.o (i:=1) rfl (bt call33 rfl<|xK E g _ _ a J L) dC (.inr<|by rintro t g1 _ ⟨rfl,e,f⟩;exact⟨by assumption,(by exact .refl _)⟩) ?_;rintro t g1 _ ⟨rfl,e,f⟩;have z:Tab g1 t<|am a:=f.mono (zb9 _) fun _ _=>eJ.cr<|fN _ _;obtain ⟨N,rfl⟩:=z.ptr) | (refine SB.o (i:=1) rfl (bt call33 rfl<|xK E g _ _ a J L) dC (.inr<|by rintro t g1 _ ⟨rfl,e,f⟩;exact⟨by assumption,(by exact .cons _<|.refl _)⟩) ?_;rintro t g1 _ ⟨rfl,e,f⟩;have z:Tab g1 t<|am a:=f.mono (zb9 _) fun _ _=>eJ.cr<|fN _ _;obtain ⟨N,rfl⟩:=z.ptr) | (refine SB.o (i:=1) rfl (bt call33 rfl<|xK E g _ _ a J L) dC (.inr<|by rintro t g1 _ ⟨rfl,e,f⟩;exact⟨by assumption,(by exact .cons _<|.cons _<|.refl _)⟩) ?_;rintro t g1 _ ⟨rfl,e,f⟩;have z:Tab g1 t<|am a:=f.mono (zb9 _) fun _ _=>eJ.cr<|fN _ _;obtain ⟨N,rfl⟩:=z.ptr))
   | ((with_reducible refine Ij 5 ?_);first | refine zd8 1 5 kD ?_ ?_ | refine zd8 1 4 kD ?_ ?_ | refine IG 3 4 5 kD ?_ ?_ ?_)
   | ((with_reducible refine Ij 4 ?_);first | refine zd7 1 kD ?_ | refine zd8 4 5 kD ?_ ?_ | refine zd8 3 5 kD ?_ ?_ | refine zd8 3 4 kD ?_ ?_)
   | ((with_reducible refine Ij 3 ?_);first | refine zd7 5 kD ?_ | refine zd7 4 kD ?_ | refine zd7 3 kD ?_)
   | ((with_reducible refine Ij 2 ?_);refine zd7 6 kD ?_)
   | ((with_reducible refine Ij 1 ?_);refine zd7 7 kD ?_)
   | ((with_reducible refine Ij 0 ?_);refine H5 kD ?_;first | exact za9 (m,l,pp N 0,pp M 0,g2) sB rfl rfl ⟨e.trans c,f.mono c fun _ _=>eJ.mono<|iL c,j⟩ | (refine ST.perm (zk2 _ _ _) ?_;exact za9 (m,l,pp N 0,pp M 0,g2) sB I I ⟨e.trans c,f.mono c fun _ _=>eJ.mono<|iL c,j⟩))
   | (refine Ij 6 ?_;refine IG 1 4 5 kD ?_ ?_ ?_))
 rintro ⟨m,l,t,A,g2⟩ ⟨D,f,j⟩;dsimp only at D f j ⊢;have z:Tab g2 t<|am a:=f.mono (zb9 _) fun _ _=>eJ.cr<|fN _ _;refine I2 fun g3 p O=>?_;refine I2 fun g4 n F=>?_;have w:=D.trans<|p.trans n;have P:=z.mono<|p.trans n;have G:=j.mono<|p.trans n;refine rZ<|lK (qL isAgg77 I<|ao.known F I)<|lU (Ih I)<|lW (bt call34 I<|zS (eJ<|mns g2 g) E g4 _ _ _ (am a) (la (am a)<|am b) (fun _ _ h=>eJ.cr ((fN _ _).trans<|p.trans n) h) (f.mono (p.trans n) fun _ _ h=>h) C B<|EV E g4 m l _ _ _ _ P G B C F<|n _ _ O) ?_;rintro _ g5 _ ⟨rfl,y,x,Q,rfl,H,R⟩;have X:gr (mns g5 g) x _:=⟨Q,H.mono<|kx w,R.mono fun _ _=>eJ.mono<|iL<|(p.trans n).trans y⟩;obtain ⟨q,d,rfl⟩:=H.form;exact oZ (sK 0 ae I I I I I sB)<|tZ<|rE<|kn 0 s (.inl I) results8 I aj ae I I uR ⟨I,w.trans y,_,I,X⟩
theorem vE (v u:Value)(a b:List Cl)(c:ai g v a)(d:ai g u b)(e:aM a)(hb:aM b) :
  Ctr Tryz.prog E 8 #[.agg #[v],.agg #[u]] g s (fun r g' s'=>s=s'∧Le g g'∧∃ x,r = .agg #[x]∧ai g' x (fV (am a)<|am b)) :=
 (EU E g s v u a b c d e hb).mono fun _ _ _ ⟨f,i,x,j,k⟩=>⟨f,i,x,j,k.cells<|fN _ _⟩
theorem Tryz.sty139:STy Tryz.prog 139 4 1 1<|vb false:=⟨underlying139,⟨t4,by kernel_rfl,by kernel_rfl,by kernel_rfl,by kernel_rfl⟩,rfl,by decide⟩
def bw:Enc Bool 1:=⟨fun n=>[vb n],fun _=>rfl,fun _ u hu=>by simp at hu;subst hu;rfl,by decide⟩
def dz (A:List Cl)(m:List Int):List Bool:=A.map fun c=>m.contains c.id
theorem vS (A:List Cl):dz A []=List.replicate A.length false:=by
 unfold dz;induction A with
 | nil=>rfl
 | cons d t ih=>simp[List.replicate_succ] at ih ⊢;exact ih
theorem pG {c:Cl}(h:A[k]?=some c):(dz A m)[k]?=some (m.contains c.id):=by simp[dz,h]
theorem vR {c:Cl}(hn:(A.map Cl.id).Nodup)(h:A[k]?=some c):(dz A m).set k true=dz A (m++[c.id]):=by
 obtain ⟨i,hc⟩:=zf6.1 h;apply List.ext_getElem?;intro q;rw[List.getElem?_set];unfold dz;simp only[zi1,ze7];split
 ·rename_i e;subst e;simp[i,hc]
 ·rename_i a;cases hq:A[q]? with
  | none=>rfl
  | some d =>
   obtain ⟨j,l⟩:=zf6.1 hq;have hd:¬ d.id=c.id:=fun e=>by
    have n:(A.map Cl.id)[q]?=some c.id:=by simp[hq,e]
    have o:(A.map Cl.id)[k]?=some c.id:=by simp[h]
    obtain ⟨i1,f⟩:=zf6.1 n;obtain ⟨i2,g⟩:=zf6.1 o
    rcases Nat.lt_or_gt_of_ne a with b | b
    ·exact zd1.1 hn k q i2 i1 b<|g.trans f.symm
    ·exact zd1.1 hn q k i1 i2 b<|f.trans g.symm
   simp[hd]
theorem wQ (v iv:Value)(A:List Cl)(ids:List Int)(T:ai g v A)(hi:dA g iv ids)(hA:aM A)(W:(A.map Cl.id).Pairwise (· ≤ ·))(hn:(A.map Cl.id).Nodup)(hb:ids.length+ko A []<1099511627776) :
  Ctr Tryz.prog E 95 #[v,iv] g s fun r g' s'=>s=s'∧Le g g'∧SlA bw g' r (dz A<|gw A ids):=by
 obtain ⟨rs,d,f⟩:=T;have T:ai g v A:=⟨rs,d,f⟩;have X:=f.length;have c0:=hA.1;obtain ⟨Y,Z,rfl⟩:=d.form;obtain ⟨ip,ic,rfl⟩:=za4 hi;refine zb2 (args:=[.slice Y rs.length Z,.slice ip ids.length ic]) func95 I ntmps95 (bE I)<|rZ<|aT I<|sW I<|lU (eN aB I)<|lW (mK bw false sty139 I I I oM oM) ?_;rintro _ _ _ ⟨p,rfl,rfl,rfl⟩;refine aT I<|rZ<|lW (bS sty43 I I I (ab trivial) dC) ?_;rintro _ _ _ ⟨a0,rfl,rfl,rfl⟩;refine JD (.cons _<|.refl _)<|Is 3 1 (some ⟨a0,0,none⟩)<|lM I<|lW (aQ (e:=encInt) (l:=[]) (m:=ids) 0 sty43 I I I hi (by simp;omega)<|by simp;omega) ?_;rintro v14 _ _ ⟨rfl,rfl⟩;refine aT I<|sQ<|bK<|SC.to (g':=g) (s':=que encInt 3 v14 ids::rowA bw 4 (.slice (some ⟨p,0,none⟩) rs.length rs.length) (dz A [])::s) (fun w C=>by rw[vS,X];exact C.toQue (i:=0) I) ?_;refine oP (ι:=Value×List Int×List Int) (fun i=>[(0,.slice Y rs.length Z),(5,.slice (some ⟨p,0,none⟩) rs.length rs.length),(6,i.1)]) (fun _=>g)
  (fun i=>que encInt 3 i.1 i.2.1::rowA bw 4 (.slice (some ⟨p,0,none⟩) rs.length rs.length) (dz A i.2.2)::s) (fun i=>xl A ids i.2.1 i.2.2) (fun i=>i.2.1.length+ko A i.2.2)
  (v14,ids,[]) sB rfl rfl (xl.begin A ids) ?_
 rintro ⟨lv,left,m⟩ hW;dsimp only at hW ⊢;refine IT fun ⟨w0,G⟩=>?_;obtain ⟨U,V,rfl,a1⟩:=EK (i:=0) G rfl;clear G w0;refine sQ<|sW I<|lU (eN aA I)<|lU (gR I I)<|tZ<|iP I (fun H=>?_) (fun H=>?_)
 ·obtain ⟨x,rest,rfl⟩:∃ x rest,left=x::rest:=by
   cases left with
   | nil=>simp at H
   | cons x r=>exact⟨x,r,rfl⟩
  have J:=a1 dO;have K:=hW.few
  rcases na W x with ⟨n,D⟩ | ⟨c,k,n,D,q⟩
  ·refine kP<|tN<|bK<|sW I<|lM I<|lU (iA aA zT3 I I J dC<|by simp only[slen,ze9];omega) ?_;refine lK (eB (e:=encInt) (l:=x::rest) (a:=x) iT3 I (Rd.que 0 I) I I)<|lW (bt call93 I<|fp E g _ _ A x T oM W) ?_;rintro _ _ _ ⟨rfl,rfl,rfl⟩;rw[D];refine aT I<|sW I<|lU (Ik (l:=1) aA zT3 I I dC<|by simp only[ze9];omega) ?_;refine aT I<|sQ<|sQ<|SC.to (g':=g) (s':=que encInt 3 (sliced U 1 (x::rest).length V 1) rest::rowA bw 4 (.slice (some ⟨p,0,none⟩) rs.length rs.length) (dz A m)::s) (fun w C=>C.front (i:=0) I) ?_;exact rG<|lM I<|lU (SU.eq (v':=vb true) (lS I I) I)<|lM I<|yA I<|yA I<|yA I<|yA I<|yP I<|tZ<|za2 I<|xI<|tX<|bX<|ct (_,rest,m) sB I I (hW.skip<|.inl<|by unfold jF;rw[n];rfl) (by simp only[ze9];omega)
  ·have c1:k<A.length:=(zf6.1 q).1;have L:k<rs.length:=oM;have b:=(aC n).2;have a2:=(aC n).1;have a3:(dz A m)[((k:Nat):Int).toNat]?=some (m.contains x):=by rw[← b];exact pG q
   have a4:=f.get q<|bd L;have F:rs[((k:Nat):Int).toNat]?=some rs[k]:=bd L;have t:=d.based oM;obtain ⟨yp,B,a5,M⟩:=cG a4;rw[a5] at F;refine kP<|tN<|bK<|sW I<|lM I<|lU (iA aA zT3 I I J dC<|by simp only[slen,ze9];omega) ?_;refine lK (eB (e:=encInt) (l:=x::rest) (a:=x) iT3 I (Rd.que 0 I) I I)<|lW (bt call93 I<|fp E g _ _ A x T oM W) ?_;rintro _ _ _ ⟨rfl,rfl,rfl⟩;rw[D];refine aT I<|sW I<|lU (Ik (l:=1) aA zT3 I I dC<|by simp only[ze9];omega) ?_;refine aT I<|sQ<|sQ<|SC.to (g':=g) (s':=que encInt 3 (sliced U 1 (x::rest).length V 1) rest::rowA bw 4 (.slice (some ⟨p,0,none⟩) rs.length rs.length) (dz A m)::s) (fun w C=>C.front (i:=0) I) ?_;refine rG<|lM I<|lU (SU.eq (v':=vb false) (lS I I)<|ze3 vb<|zf8 oM)<|lM I<|yC I<|yC I<|lY I I I (iA qZ zT4 I I I oM sL)<|lR (gT I I I dC) (eB (e:=bw) isAgg4 I (zb7 1 I) a3 I) dC<|yF I<|tZ<|iQ I (fun y=>?_) (fun y=>?_)
   ·exact xI<|tX<|bX<|ct (_,rest,m) sB I I (hW.skip<|.inr<|by simpa using y) (by simp only[ze9];omega)
   ·have a9:=hW.mark n y;have b0:=vY a2 (by rw[b];exact y);rw[b] at b0;have b1:(dz A m).length=A.length:=by simp[dz]
    have N:(dz A m).set k true=dz A (m++[x]):=by rw[vR hn q,b]
    simp only[ze9] at K;refine kP<|tN<|sW I<|lM I<|lU (iA qZ zT4 I I I oM sL)<|oZ (IM (e:=bw) (a:=true) 1 zT4 I I I (by rw[b1];omega) I) ?_;refine tZ<|rZ<|aT I<|bK ?_;refine SC.to (g':=g) (s':=que encInt 3 (sliced U 1 (x::rest).length V 1) rest::rowA bw 4 (.slice (some ⟨p,0,none⟩) rs.length rs.length) (dz A<|m++[x])::s) (fun w C=>by rw[← N];exact C) ?_;refine oP (ι:=Value×Nat) (fun i=>[(0,.slice Y rs.length Z),(5,.slice (some ⟨p,0,none⟩) rs.length rs.length),(6,i.1),(7,vi k),(8,vi i.2)]) (fun _=>g)
     (fun i=>que encInt 3 i.1 (rest++(c.sides.take i.2).map ak.cell)::rowA bw 4 (.slice (some ⟨p,0,none⟩) rs.length rs.length) (dz A<|m++[x])::s) (fun i=>i.2≤c.sides.length) (fun i=>c.sides.length - i.2)
     (sliced U 1 (x::rest).length V 1,0) sB rfl (by simp only[List.take_zero,List.map_nil,zc7]) (zf7 _) ?_
    rintro ⟨b2,j⟩ hj;dsimp only at hj ⊢;refine sQ<|sW I<|lM I<|lM I<|lU (iA aB ar I I t oM sL)<|lU (fC ap I aI I t)<|lK (aZ (e:=encCell) (o:=2) (u:=.slice yp c.sides.length B) bg I d.rd F I)<|lU (eN aW I)<|yL I<|tZ<|iP I (fun b3=>?_) (fun b3=>?_)
    ·have O:j<c.sides.length:=oM;have P:=M.based oM;have b4:c.sides[((j:Nat):Int).toNat]?=some c.sides[j]:=bd O;have b6:c.sides.take (j+1)=c.sides.take j++[c.sides[j]]:=tS O;have Q:(rest++(c.sides.take j).map ak.cell).length=rest.length+j:=by simp;omega
     generalize c.sides[j]=z at *;refine kP<|tN<|sQ<|bK<|rG<|lM I<|lM I<|lM I<|lU (iA aB ar I I t oM sL)<|lU (fC ap I aI I t)<|lK (aZ (e:=encCell) (o:=2) (u:=.slice yp c.sides.length B) bg I d.rd F I)<|lM I<|lU (iA aW aV I I P oM sL)<|lU (fC dh I zT3 I P)<|lK (aZ (e:=encSide) (o:=0) (u:=vi z.cell) iT3 I M.rd b4 I)<|lW (bS sty43 I I I (ab sB) dC) ?_;rintro _ _ _ ⟨c2,rfl,rfl,rfl⟩;refine lW (SO.queA (e:=encInt) 0 z.cell sty43 I I I I I (by rw[Q];omega)<|by rw[Q];omega) ?_;rintro v57 _ _ ⟨rfl,rfl⟩;exact lA I<|cp<|bN<|tN<|rG<|lM I<|yD I<|lA I<|cp<|ct (v57,j+1) sB I (by dsimp only;rw[b6,zg6,← zg9];rfl) lN lN
    ·have b7:c.sides.take j=c.sides:=tL oM;rw[b7];exact xI<|tX<|tX<|bX<|bN<|ct (b2,rest++c.sides.map ak.cell,m++[x]) sB I I a9 (by simp only[ze6,ze7,ze9];omega)
 ·have b8:left=[]:=zf5 oM;subst b8;refine xI (tX<|tX<|bX<|tN<|sW I<|aT I<|rE<|dR (s':=rowA bw 4 (.slice (some ⟨p,0,none⟩) rs.length rs.length) (dz A m)::s) (.cons _<|.refl _)<|fT fun g2 R S=>?_);have b9:dz A m=dz A (gw A ids):=zc9 fun c _=>hW.done c.id;exact za8 (.inl I) results95 I ⟨I,R,by rw[← b9];exact S⟩
theorem Fa {α β:Type}{L:List α}{f:α→β}{d:β}{x:α}(h:L[i]?=some x):((L.take i).map f++List.replicate (L.length - i) d).set i (f x)=(L.take<|i+1).map f++List.replicate (L.length - (i+1)) d:=by
 obtain ⟨a,b⟩:=zf6.1 h;have c:L.length - i=(L.length - (i+1))+1:=oM;have e:((L.take i).map f).length=i:=by simp;omega
 rw[c,List.replicate_succ,List.set_append_right _ _ oM,e,Nat.sub_self,List.set_cons_zero,tS a,b];simp
theorem wO (v u:Value)(a b:List Cl)(hv:ai g v a)(hu:ai g u b)(ha:aM a)(hb:aM b)(a3:1+ko (am a) []<1099511627776) :
  Ctr Tryz.prog E 40 #[.agg #[v],.agg #[u]] g s fun r g' s'=>s=s'∧Le g g'∧∃ x,r = .agg #[x]∧ai g' x (fV (am a)<|am b):=by
 obtain ⟨p1,c1,rfl⟩:=hv.form;obtain ⟨p2,c2,rfl⟩:=hu.form;have a4:=bG ha;have f7:=bG hb;have c7:=iq a;have f8:=eL a;have a5:=eL b;refine zb2 (args:=[.agg #[.slice p1 a.length c1],.agg #[.slice p2 b.length c2]]) func40 I ntmps40 (bE I)<|rZ (bW (bO I) fun b2=>?_);refine bW (bO I) fun b3=>bW (aL zl9) fun L=>tZ<|rZ<|lK (qV 2 aj ae I I I)<|lW (bt call41 I<|bA E g _ _ a hv ha) ?_;rintro x16 g1 _ ⟨rfl,V,W⟩;refine aT I<|rZ<|lK (qV 1 aj ae I I I)<|lW (bt call41 I<|bA E g1 _ _ b (hu.mono V) hb) ?_;rintro x18 g2 _ ⟨rfl,X,a9⟩;have Q:=W.mono X;clear W;generalize am a=A at *;generalize am b=B at *;have c9:=Q;have d0:=a9;obtain ⟨m,p,n⟩:=c9;obtain ⟨rb,b0,M⟩:=d0;obtain ⟨qa,da,rfl⟩:=p.form;obtain ⟨qb,db,rfl⟩:=b0.form;have eal:=n.length;have ebl:=M.length;have j2:=a4.1;have l0:=f7.1;refine aT I<|sW I<|lU (eN aB I)<|lW (mK bw false sty139 I I I oM oM) ?_;rintro _ _ _ ⟨R,rfl,rfl,rfl⟩;refine aT I<|lu (ι:=Unit) (fun _=>[(4,pp L 0),(5,.slice qa m.length da),(7,.slice (some ⟨R,0,none⟩) m.length m.length)]) (fun _=>g2)
  (fun _=>rowA bw 4 (.slice (some ⟨R,0,none⟩) m.length m.length) (A.map<|inB B)::pt L (bY #[.slice none 0 0] 29)::s) (fun _=>True) ?_ ?_
 ·refine rZ<|aT I<|bK ?_;refine SC.to (g':=g2) (s':=rowA bw 4 (.slice (some ⟨R,0,none⟩) m.length m.length) ((A.take 0).map (inB B)++List.replicate (A.length - 0) false)::pt L (bY #[.slice none 0 0] 29)::s) (fun w hw=>by
   have h0:(A.take 0).map (inB B)++List.replicate (A.length - 0) false=List.replicate m.length false:=by rw[eal];simp
   rw[h0];exact hw.sublist<|.cons_cons _<|.cons_cons _<|.cons _<|.cons _<|.refl _) ?_
  refine oP (ι:=Nat) (fun i=>[(4,pp L 0),(5,.slice qa m.length da),(6,.slice qb rb.length db),(7,.slice (some ⟨R,0,none⟩) m.length m.length),(8,vi i)]) (fun _=>g2)
   (fun i=>rowA bw 4 (.slice (some ⟨R,0,none⟩) m.length m.length) ((A.take i).map (inB B)++List.replicate (A.length - i) false)::pt L (bY #[.slice none 0 0] 29)::s) (fun i=>i≤A.length) (fun i=>A.length - i) 0
   sB rfl rfl (zf7 _) ?_
  intro i hi;try dsimp only at hi ⊢
  refine sQ<|sW I<|lM I<|lU (eN aB I)<|yL I<|tZ<|iP I (fun b1=>?_) (fun b1=>?_)
  ·have H:i<A.length:=oM;have N:i<m.length:=oM;have S:A[i]?=some A[i]:=bd H;have z:=p.based oM;have D:=n.get S<|bd N;have C:m[((i:Nat):Int).toNat]?=some m[i]:=bd N;have d1:=gM H;have T:=Fa (f:=inB B) (d:=false) S;have d2:((A.take i).map (inB B)++List.replicate (A.length - i) false).length=A.length:=by simp;omega
   generalize A[i]=x at *;have g7:=a4.2 x d1;obtain ⟨xp,O,b5,g8⟩:=cG D;rw[b5] at C D
   rcases na a5 x.id with ⟨b6,b8⟩ | ⟨y,k,b6,b8,Y⟩
   ·have b9:inB B x=false:=by unfold inB;rw[b6]
    rw[b9] at T;refine kP<|tN<|sQ<|bK<|sW I<|lM I<|lM I<|lU (iA aB ar I I z oM sL)<|lU (fC ap I zT3 I z)<|lK (aZ (e:=encCell) (o:=0) (u:=vi x.id) iT3 I p.rd C I)<|lW (bt call93 I<|fp E g2 _ _ B x.id a9 oM a5) ?_;rintro _ _ _ ⟨rfl,rfl,rfl⟩;rw[b8];refine aT I<|dW [16] [(0,2),(1,2),(2,2),(3,2),(4,2),(5,2),(6,2),(7,2),(8,1),(9,2),(10,2),(11,2),(12,1),(13,0),(14,2),(15,2),(16,0)] ze4 kR<|yM I<|yM I<|yM I<|pU I (SU.eq (v':=vb false) (gQ I I) I)<|yM I<|yG I<|yG I<|yG I<|yI I<|yG I<|yG I<|yG I<|yI I<|fO I (gZ I I I dC) dC ⟨by exact zb9 _,(by exact .refl _)⟩ ?_;refine pU I (wF I I)<|pU I (iA qZ zT4 I I I oM sL)<|H8 I (IM (e:=bw) (a:=false) 0 zT4 I I I (by rw[d2];omega) I) (.inl dC) ?_;rintro _ _ _ ⟨rfl,rfl⟩;refine du<|bN<|tN<|rG<|lM I<|yD I<|lA I<|cp ?_;exact ct (i+1) sB I (by rw[← T];rfl) lN lN
   ·have l1:k<B.length:=(zf6.1 Y).1;have d3:k<rb.length:=oM;have c0:=M.get Y<|bd d3;have d4:rb[((k:Nat):Int).toNat]?=some rb[k]:=bd d3;have g9:=b0.based oM;have b9:inB B x=decide (x=y):=by unfold inB;rw[b6]
    rw[b9] at T;obtain ⟨yp,i3,h1,l2⟩:=cG c0;rw[h1] at d4 c0;refine kP<|tN<|sQ<|bK<|sW I<|lM I<|lM I<|lU (iA aB ar I I z oM sL)<|lU (fC ap I zT3 I z)<|lK (aZ (e:=encCell) (o:=0) (u:=vi x.id) iT3 I p.rd C I)<|lW (bt call93 I<|fp E g2 _ _ B x.id a9 oM a5) ?_;rintro _ _ _ ⟨rfl,rfl,rfl⟩;rw[b8];refine aT I<|dW [16] [(0,2),(1,2),(2,2),(3,2),(4,2),(5,2),(6,2),(7,2),(8,1),(9,2),(10,2),(11,2),(12,1),(13,0),(14,2),(15,2),(16,0)] ze4 kR<|yM I<|yM I<|yM I<|pU I (SU.eq (v':=vb true) (gQ I I)<|ze3 vb<|zf9 oM)<|yM I<|yJ I<|yJ I<|zb3 I (gT I I I dC) (iA aB ar I I z oM sL) dC<|By I (gT I I I dC) (iN dT ar I p.rd C) dC<|yJ I<|yJ I<|zb3 I (gT I I I dC) (iA aB ar I I g9 oM sL) dC<|By I (gT I I I dC) (iN dT ar I b0.rd d4) dC<|Jo I (gT I I I dC) (bt call94 I<|uJ E g2 _ x y _ _ D c0 g7) dC (.inr iR) ?_;rintro _ _ _ ⟨rfl,rfl,rfl⟩;refine pU I (wT I I)<|pU I (iA qZ zT4 I I I oM sL)<|H8 I (IM (e:=bw) (a:=decide<|x=y) 0 zT4 I I I (by rw[d2];omega) I) (.inl dC) ?_;rintro _ _ _ ⟨rfl,rfl⟩;exact du<|bN<|tN<|rG<|lM I<|yD I<|lA I<|cp<|ct (i+1) sB I (by rw[← T];rfl) lN lN
  ·have c3:A.take i=A:=tL oM;have h2:A.length - i=0:=oM;exact xI<|tX<|tX<|bX<|za9 () sB I (by rw[c3,h2];simp) trivial
 rintro _ -;refine fS fun g3 G c4=>?_;replace c4:SlA bw g3 (.slice (some ⟨R,0,none⟩) m.length m.length)<|A.map<|inB B:=c4;have c5:=V.trans<|X.trans G;replace Q:=Q.mono G;replace p:=p.mono G;replace n:=n.mono fun _ _=>an.mono G;refine rZ (bW (aL zl9) fun J=>?_);refine tZ<|sQ<|rZ<|aT I<|bK<|zb6 61 3<|oP (ι:=Value×List Rc×Nat) (fun i=>[(4,pp L 0),(5,.slice qa m.length da),(7,.slice (some ⟨R,0,none⟩) m.length m.length),(10,pp J 0),(11,vi i.2.2)]) (fun _=>g3)
  (fun i=>rowA encCell 61 i.1 i.2.1::pt J (bY #[i.1] 29)::pt L (bY #[.slice none 0 0] 29)::s)
  (fun i=>i.2.2≤A.length∧ay (an g3) ((A.take i.2.2).filter<|la A B) i.2.1) (fun i=>A.length - i.2.2)
  (.slice none 0 0,[],0) sB rfl rfl ⟨zf7 _,trivial⟩ ?_
 rintro ⟨ov,acc,i⟩ ⟨hi,t⟩;dsimp only at hi t ⊢;have j0:=t.length;have d5:=zc6 (la A B)<|A.take i;rw[ze5] at d5;refine sQ<|sW I<|lM I<|lU (eN aB I)<|yL I<|tZ<|iP I (fun b1=>?_) (fun b1=>?_)
 ·have H:i<A.length:=oM;have N:i<m.length:=oM;have S:A[i]?=some A[i]:=bd H;have z:=p.based oM;have D:=n.get S<|bd N;have C:m[((i:Nat):Int).toNat]?=some m[i]:=bd N;have d1:=gM H;have d7:A.take (i+1)=A.take i++[A[i]]:=tS H;generalize A[i]=x at *;obtain ⟨xp,O,b5,g8⟩:=cG D;rw[b5] at C D;have h3:=Ds (B:=B) c7 x;refine kP<|tN<|sQ<|bK<|sW I<|lM I<|lM I<|lU (iA aB ar I I z oM sL)<|lU (fC ap I zT3 I z)<|lK (aZ (e:=encCell) (o:=0) (u:=vi x.id) iT3 I p.rd C I)<|lW (bS sty43 I I I (ab ⟨I,trivial⟩) dC) ?_;rintro _ _ _ ⟨h4,rfl,rfl,rfl⟩;refine zb5 fun g4 Z d8=>?_;have h5:dA g4 (.slice (some ⟨h4,0,none⟩) 1 1) [x.id]:=kb d8 rfl rfl;refine lW (bt call95 I<|wQ E g4 _ _ _ A [x.id] (Q.mono Z) h5 a4 f8 c7 (by simpa using a3)) ?_;rintro v64 g5 _ ⟨rfl,e0,U⟩;obtain ⟨h6,d64,rfl⟩:=za4 U;refine aT I<|rZ<|aT I ?_;have j1:(dz A<|gw A [x.id]).length=A.length:=by simp[dz]
  have P:=Z.trans e0;refine lu (ι:=Unit) (fun _=>[(4,pp L 0),(5,.slice qa m.length da),(7,.slice (some ⟨R,0,none⟩) m.length m.length),(10,pp J 0),(11,vi i),(13,vb<|la A B x)]) (fun _=>g3)
   (fun _=>rowA encCell 61 ov acc::pt J (bY #[ov] 29)::pt L (bY #[.slice none 0 0] 29)::s) (fun _=>True) ?_ ?_
  ·refine rZ<|aT I<|bK<|oP (ι:=Bool×Nat) (fun q=>[(4,pp L 0),(5,.slice qa m.length da),(7,.slice (some ⟨R,0,none⟩) m.length m.length),(10,pp J 0),(11,vi i),(12,.slice h6 (dz A<|gw A [x.id]).length d64),(13,vb q.1),(14,vi q.2)]) (fun _=>g5)
    (fun _=>rowA encCell 61 ov acc::pt J (bY #[ov] 29)::pt L (bY #[.slice none 0 0] 29)::s)
    (fun q=>q.2≤A.length∧q.1=(A.take q.2).all fun y=>!(gw A [x.id]).contains y.id||inB B y) (fun q=>A.length - q.2) (true,0)
    sB rfl rfl ⟨zf7 _,by simp⟩ ?_
   rintro ⟨a0,j⟩ ⟨hj,c⟩;dsimp only at hj c ⊢;refine sQ<|sW I<|lM I<|lU (eN aB I)<|yL I<|tZ<|iP I (fun e1=>?_) (fun e1=>?_)
   ·have c6:j<A.length:=oM;have h7:A[j]?=some A[j]:=bd c6;have e2:(dz A<|gw A [x.id])[((j:Nat):Int).toNat]?=some ((gw A [x.id]).contains A[j].id):=pG h7;have h8:(A.map<|inB B)[((j:Nat):Int).toNat]?=some (inB B A[j]):=by simp[c6]
    have h9:A.take (j+1)=A.take j++[A[j]]:=tS c6;have a1:=za6 U oM;generalize A[j]=y at *;generalize i0:(gw A [x.id]).contains y.id=mk at *;generalize i1:inB B y=ib at *;have F:(A.take<|j+1).all (fun y=>!(gw A [x.id]).contains y.id||inB B y)=(a0&&(!mk||ib)):=by
     rw[h9,List.all_append,← c];simp only[List.all_cons,List.all_nil,i0,i1,Bool.and_true]
    cases a0 with
    | false =>
     exact kP<|tN<|sQ<|bK<|rG<|lM I<|lM I<|yA I<|yA I<|yA I<|yA I<|yA I<|yA I<|yB I<|yB I<|yB I<|yB I<|yA I<|yF I<|lA I<|cp<|bN<|tN<|rG<|lM I<|yD I<|lA I<|cp<|ct (false,j+1) sB I I ⟨lN,by rw[F];rfl⟩ lN
    | true =>
     cases mk with
     | false =>
      exact kP<|tN<|sQ<|bK<|rG<|lM I<|lM I<|yC I<|yC I<|lY I I I (iA qZ zT4 I I a1 oM sL)<|lR (gT I I I dC) (eB (e:=bw) isAgg4 I (za7 U) e2 I) dC<|lY I I I (oF I)<|yC I<|yA I<|yA I<|yA I<|yA I<|lY I I I (wT I I)<|yP I<|lA I<|cp<|bN<|tN<|rG<|lM I<|yD I<|lA I<|cp<|ct (true,j+1) sB I I ⟨lN,by rw[F];rfl⟩ lN
     | true =>
      exact kP<|tN<|sQ<|bK<|rG<|lM I<|lM I<|yC I<|yC I<|lY I I I (iA qZ zT4 I I a1 oM sL)<|lR (gT I I I dC) (eB (e:=bw) isAgg4 I (za7 U) e2 I) dC<|lY I I I (oF I)<|yC I<|yC I<|yC I<|lY I I I (iA qZ zT4 I I I oM sL)<|lR (gT I I I dC) (eB (e:=bw) isAgg4 I (za7<|c4.mono P) h8 I) dC<|lY I I I (wF I I)<|yP I<|lA I<|cp<|bN<|tN<|rG<|lM I<|yD I<|lA I<|cp<|ct (ib,j+1) sB I I ⟨lN,by rw[F];rfl⟩ lN
   ·have i2:A.take j=A:=tL oM;rw[i2,h3] at c;subst c;exact xI<|tX<|tX<|bX<|Iu P<|za9 () sB I I trivial
  rintro _ -;try dsimp only
  refine sW I<|tZ<|iQ I (fun c=>?_) (fun c=>?_)
  ·refine dW [7,8,9] [(0,2),(1,1),(2,2),(3,2),(4,2),(5,1),(6,0),(7,0),(8,0),(9,0)] ze4 kR<|pU I (bj dw I cg I)<|gB I (qL (v:=ov) ei I<|cO 1 I I)<|yM I<|yM I<|pU I (iA aB ar I I z oM sL)<|gB I (iN dT ar I p.rd C)<|mf I (bS sty27 I I I (ab sB) dC) dC (.inr iR) ?_;rintro _ _ _ ⟨l3,rfl,rfl,rfl⟩;refine mf I (aP (e:=encCell) (l:=acc) 0 ⟨x.id,x.dim,⟨xp,x.sides.length,O⟩⟩ sty27 I I I I I oM oM) dC (.inl dC) ?_;rintro v93 _ _ ⟨rfl,rfl⟩;refine zd3 fun ⟨w0,e4⟩=>?_;obtain ⟨q9,d9,rfl⟩:=ag (i:=0) e4 rfl;clear e4 w0;refine oU I (bj dw I cg I) dC (.inl dC)<|H8 I (sK 1 cg I I I I I sB) (.inl dC) ?_;rintro _ _ _ ⟨rfl,rfl⟩;refine du<|bN<|tN<|rG<|lM I<|yD I<|lA I<|cp<|ct (_,acc++[⟨x.id,x.dim,⟨xp,x.sides.length,O⟩⟩],i+1) sB I I ⟨lN,?_⟩ lN;dsimp only;rw[d7,zh7];simp only[zi8,c,if_true,List.filter_nil];exact t.append ⟨D,trivial⟩
  ·refine kP<|bN<|tN<|rG<|lM I<|yD I<|lA I<|cp<|ct (ov,acc,i+1) sB I I ⟨lN,?_⟩ lN;dsimp only;rw[d7,zh7];simp only[zi8,c,List.filter_nil];simpa using t
 ·have c3:A.take i=A:=tL oM;rw[c3] at t;refine xI (tX<|tX<|bX<|tN<|sQ<|fS fun g6 a2 e9=>?_);obtain ⟨q6,d6,rfl⟩:=e9.form;exact rG<|lK (qV 0 aj ae I I I)<|oZ (sK 1 ae I I I I I sB)<|tZ<|rE<|kn 1 s (.inl I) results40 I aj ae I I uR ⟨I,c5.trans a2,_,I,acc,e9,t.mono fun _ _=>an.mono a2⟩
def BR (L:List<|Int×List ak):List<|Int×Int:=L.foldl (fun zl p=>p.2.foldl (fun zl r=>fQ zl r.cell<|p.1 * r.sign) zl) []
def FQ (L:List<|Int×List ak):List<|Int×List Int:=L.zipIdx.foldl (fun ml p=>p.1.2.foldl (fz p.2) ml) []
def nb (L:List<|Int×List ak):Int :=
 if (BR L).any (fun p=>decide<|p.2≠0) then 24
 else if (FQ L).any (fun p=>decide<|(p.2.length:Int)≠2) then 25
 else if ((jN<|dU<|FQ L).length:Int)≠L.length then 25 else 0
def o0 (tl:List Cl)(c:Cl):List<|Int×List ak:=c.sides.map fun x=>(x.sign,az tl x)
theorem pY (tl:List Cl)(c:Cl):bM tl c=nb (o0 tl c):=by
 have a:fU tl c.sides=BR (o0 tl c):=by
  unfold fU BR o0;rw[List.foldl_map];rfl
 have b:fu tl c.sides=FQ (o0 tl c):=by
  unfold fu FQ o0;rw[List.zipIdx_map,List.foldl_map];rfl
 have d:(o0 tl c).length=c.sides.length:=by simp[o0]
 unfold bM nb;rw[a,b,d]
def Ef (φ:Int→Int)(r:ak):ak:=⟨φ r.cell,r.sign⟩
def zu (φ:Int→Int)(L:List<|Int×List ak):List<|Int×List ak:=L.map fun p=>(p.1,p.2.map<|Ef φ)
def BW (L:List<|Int×List ak):List Int:=L.flatMap fun p=>p.2.map ak.cell
def mw {α:Type}(φ:Int→Int)(zl:List<|Int×α):List<|Int×α:=zl.map fun p=>(φ p.1,p.2)
section
variable {φ:Int→Int}{K:Int→Prop}(hφ:∀ a b,K a→K b→φ a=φ b→a=b)
include hφ
theorem Fs {b:List<|Int×Int}{k:Int}(x:Int)(hz:∀ p∈b,K p.1)(c:K k):fQ (mw φ b) (φ k) x=mw φ (fQ b k x):=by
 induction b with
 | nil=>rfl
 | cons p r ih =>
  obtain ⟨a,z⟩:=p;have d:=hz (a,z) dO;simp only[mw,zg5,fQ] at ih ⊢;by_cases h:k=a
  ·subst h;simp
  ·rw[zg1 h,zg1 fun e=>h<|hφ k a c d e];simp only[zg5];rw[ih fun p hp=>hz p<|by simp[hp]]
theorem Fu {b:List<|Int×List Int}{k:Int}(x:Int)(hz:∀ p∈b,K p.1)(c:K k):ii (mw φ b) (φ k) x=mw φ (ii b k x):=by
 induction b with
 | nil=>rfl
 | cons p r ih =>
  obtain ⟨a,z⟩:=p;have d:=hz (a,z) dO;simp only[mw,zg5,ii] at ih ⊢;by_cases h:k=a
  ·subst h;simp
  ·rw[zg1 h,zg1 fun e=>h<|hφ k a c d e];simp only[zg5];rw[ih fun p hp=>hz p<|by simp[hp]]
omit hφ in
theorem Ft {b:List<|Int×Int}{k:Int}(hz:∀ p∈b,K p.1)(d:K k):∀ p∈fQ b k x,K p.1:=by
 induction b with
 | nil=>intro p hp;simp[fQ] at hp;subst hp;exact d
 | cons q r ih =>
  obtain ⟨a,z⟩:=q;have c:=hz (a,z) dO;intro p hp;simp only[fQ] at hp;split at hp
  ·rcases zf2.1 hp with rfl | hp
   ·exact c
   ·exact hz p (by simp[hp])
  ·rcases zf2.1 hp with rfl | hp
   ·exact c
   ·exact ih (fun p hp=>hz p<|by simp[hp]) p hp
omit hφ in
theorem Fv {b:List<|Int×List Int}{k:Int}(hz:∀ p∈b,K p.1)(d:K k):∀ p∈ii b k x,K p.1:=by
 induction b with
 | nil=>intro p hp;simp[ii] at hp;subst hp;exact d
 | cons q r ih =>
  obtain ⟨a,z⟩:=q;have c:=hz (a,z) dO;intro p hp;simp only[ii] at hp;split at hp
  ·rcases zf2.1 hp with rfl | hp
   ·exact c
   ·exact hz p (by simp[hp])
  ·rcases zf2.1 hp with rfl | hp
   ·exact c
   ·exact ih (fun p hp=>hz p<|by simp[hp]) p hp
theorem vm (t:Int):∀ (l:List ak) (a:List<|Int×Int),(∀ r∈l,K r.cell)→(∀ p∈a,K p.1) →
  (l.map<|Ef φ).foldl (fun a r=>fQ a r.cell<|t * r.sign) (mw φ a)=mw φ (l.foldl (fun a r=>fQ a r.cell<|t * r.sign) a)∧∀ p∈l.foldl (fun a r=>fQ a r.cell<|t * r.sign) a,K p.1
 | [],a,_,hz=>⟨rfl,hz⟩
 | r::l,a,hl,hz=>by
  have hr:=hl r dO;have:=vm t l (fQ a r.cell<|t * r.sign) (fun q hq=>hl q<|by simp[hq])<|Ft hz hr;simp only[zg5,zi9];rw[show (Ef φ r).cell=φ r.cell from rfl,show (Ef φ r).sign=r.sign from rfl,Fs hφ _ hz hr];exact this
theorem zW (t:Int):∀ (l:List ak) (a:List<|Int×List Int),(∀ r∈l,K r.cell)→(∀ p∈a,K p.1) →
  (l.map<|Ef φ).foldl (fz t) (mw φ a)=mw φ (l.foldl (fz t) a)∧∀ p∈l.foldl (fz t) a,K p.1
 | [],a,_,hz=>⟨rfl,hz⟩
 | r::l,a,hl,hz=>by
  have hr:=hl r dO;have:=zW t l (ii a r.cell t) (fun q hq=>hl q<|by simp[hq])<|Fv hz hr;simp only[zg5,zi9];rw[show fz t (mw φ a) (Ef φ r)=mw φ (ii a r.cell t) from Fu hφ _ hz hr];exact this
theorem zA:∀ (L:List<|Int×List ak) (a:List<|Int×Int),(∀ k∈BW L,K k)→(∀ p∈a,K p.1) →
  (zu φ L).foldl (fun a p=>p.2.foldl (fun a r=>fQ a r.cell<|p.1 * r.sign) a) (mw φ a)=mw φ (L.foldl (fun a p=>p.2.foldl (fun a r=>fQ a r.cell<|p.1 * r.sign) a) a)
 | [],_,_,_=>rfl
 | p::L,a,hl,hz=>by
  obtain ⟨b,c⟩:=vm hφ p.1 p.2 a (fun r hr=>hl _<|List.mem_flatMap.2 ⟨p,by simp,zf3.2 ⟨r,hr,rfl⟩⟩) hz;simp only[zu,zg5,zi9] at b ⊢;rw[b];exact zA L _ (fun k d=>hl k<|by simp only[BW,zh6,zf4];exact .inr d) c
theorem Ct:∀ (L:List<|Int×List ak) (i:Nat) (a:List<|Int×List Int),(∀ k∈BW L,K k)→(∀ p∈a,K p.1) →
  ((zu φ L).zipIdx i).foldl (fun ml p=>p.1.2.foldl (fz p.2) ml) (mw φ a)=mw φ ((L.zipIdx i).foldl (fun ml p=>p.1.2.foldl (fz p.2) ml) a)
 | [],_,_,_,_=>rfl
 | p::L,i,a,hl,hz=>by
  obtain ⟨b,c⟩:=zW hφ i p.2 a (fun r hr=>hl _<|List.mem_flatMap.2 ⟨p,by simp,zf3.2 ⟨r,hr,rfl⟩⟩) hz;simp only[zu,zg5,List.zipIdx_cons,zi9] at b ⊢;rw[b];exact Ct L (i+1) _ (fun k d=>hl k<|by simp only[BW,zh6,zf4];exact .inr d) c
end
theorem CP {α:Type}(φ:Int→Int)(a:List<|Int×α)(q:α→Bool):(mw φ a).any (fun p=>q p.2)=a.any (fun p=>q p.2):=by
 simp only[mw,List.any_map];rfl
theorem E1 (φ:Int→Int)(ml:List<|Int×List Int):dU (mw φ ml)=dU ml:=by
 simp only[dU,mw,List.foldl_map];rfl
theorem zg {φ:Int→Int}{L:List<|Int×List ak}(hφ:∀ a∈BW L,∀ b∈BW L,φ a=φ b→a=b):nb (zu φ L)=nb L:=by
 have d:BR (zu φ L)=mw φ (BR L):=zA (K:=fun k=>k∈BW L) (fun a b c hb=>hφ a c b hb) L [] (fun _ h=>h) dO;have e:FQ (zu φ L)=mw φ (FQ L):=Ct (K:=fun k=>k∈BW L) (fun a b c hb=>hφ a c b hb) L 0 [] (fun _ h=>h) dO;unfold nb;rw[d,e,CP φ _ fun z=>decide<|z≠0,CP φ _ fun l:List Int=>decide<|(l.length:Int)≠2,E1];have f:(zu φ L).length=L.length:=by simp[zu]
 rw[f]
def code (k q:Nat):Int:=if q<k then ((q * 16+k:Nat):Int) else ((k * 16+(q+1):Nat):Int)
def Hd (n:Nat):List<|Int×List ak:=(List.range n).reverse.map fun k:Nat=>(dK k,(List.range<|n - 1).reverse.map fun q:Nat=>⟨code k q,dK q⟩)
theorem Gz:∀ n,n<10→2<n→nb (Hd n)=0:=by decide +kernel
theorem jj (b:Nat)(a:Int)(l:List Int):fj b (a::l)=(if b % 2=1 then [a] else [])++fj (b / 2) l:=by
 unfold fj;have hz:∀ (l:List Int) (i:Nat),((l.zipIdx<|i+1).filter fun p=>b / 2 ^ p.2 % 2 == 1).map (·.1)=((l.zipIdx i).filter fun p=>b / 2 / 2 ^ p.2 % 2 == 1).map (·.1):=by
  intro l;induction l with
  | nil=>intro i;rfl
  | cons x r ih =>
   intro i;have hp:b / 2 ^ (i+1)=b / 2 / 2 ^ i:=by rw[Nat.pow_succ,Nat.mul_comm,Nat.div_div_eq_div_mul]
   simp only[List.zipIdx_cons,zi8,hp];have:=ih<|i+1;split
   ·simp only[zg5,this]
   ·exact this
 simp only[List.zipIdx_cons,zi8,Nat.pow_zero,Nat.div_one];by_cases h:b % 2=1
 ·simp only[h,if_true,beq_self_eq_true,zg5];rw[hz l 0];rfl
 ·have c:(b % 2 == 1)=false:=by simpa using h
  simp only[h,c,if_false,Bool.false_eq_true];rw[hz l 0];rfl
theorem Dh (l:List Int):∀ b,(fj b l).Sublist l:=by
 induction l with
 | nil=>intro b;exact .slnil
 | cons a r ih =>
  intro b;rw[jj];split
  ·exact (ih _).cons_cons a
  ·exact (ih _).cons a
theorem EM (l:List Int):∀ b,b≠0→b<2 ^ l.length→fj b l≠[]:=by
 induction l with
 | nil=>intro b c h;simp at h;exact absurd h c
 | cons a r ih =>
  intro b c h;rw[jj];split
  ·simp
  ·rename_i d;rw[ze9,Nat.pow_succ] at h;simpa using ih (b / 2) oM oM
theorem yt {x:List Int}(h:x.Sublist l):∃ b,b<2 ^ l.length∧fj b l=x:=by
 induction h with
 | slnil=>exact⟨0,by simp,rfl⟩
 | cons a _ ih =>
  obtain ⟨b,hb,e⟩:=ih;refine⟨2 * b,by rw[ze9,Nat.pow_succ];omega,?_⟩;rw[jj,zg1 oM,show 2 * b / 2=b by omega,e];rfl
 | cons_cons a _ ih =>
  obtain ⟨b,hb,e⟩:=ih;refine⟨2 * b+1,by rw[ze9,Nat.pow_succ];omega,?_⟩;rw[jj,zg2 oM,show (2 * b+1) / 2=b by omega,e];rfl
theorem kI (t x:List Int):x∈bU t↔x.Sublist t∧x≠[]:=by
 unfold bU;constructor
 ·intro h;obtain ⟨i,d,rfl⟩:=zf3.1 h;have:=List.mem_range.1 d;exact⟨Dh _ _,EM _ _ oM oM⟩
 ·rintro ⟨h,c⟩;obtain ⟨b,hb,rfl⟩:=yt h;have f:b≠0:=fun e=>by
   subst e;apply c;have:∀ l:List Int,fj 0 l=[]:=by
    intro l;induction l with
    | nil=>rfl
    | cons a r ih=>rw[jj];simpa using ih
   exact this t
  exact zf3.2 ⟨b - 1,List.mem_range.2 oM,by rw[show b - 1+1=b by omega]⟩
structure i4 (all:List<|List Int):Prop where
 strict:fq all
 form:∀ s∈all,s≠[]∧ey s∧s.length≤9
 faces:∀ s∈all,2≤s.length→∀ k,k<s.length→s.eraseIdx k∈all
theorem i4.nil:i4 []:=⟨List.Pairwise.nil,by simp,by simp⟩
theorem i4.add (h:i4 all)(f:ey t)(hl:t.length≤9):i4<|e7 all t:=by
 refine⟨ln all t,fun s c=>?_,fun s c b k d=>?_⟩
 ·rcases (jG all t s).1 c with a | a
  ·exact h.form s a
  ·obtain ⟨b,g⟩:=(kI t s).1 a;exact⟨g,f.sublist b,zk8 b.length_le hl⟩
 ·refine (jG all t _).2 ?_
  rcases (jG all t s).1 c with a | a
  ·exact .inl<|h.faces s a b k d
  ·refine .inr<|(kI t _).2 ⟨(List.eraseIdx_sublist s k).trans ((kI t s).1 a).1,fun e=>?_⟩;have:=ze3 List.length e;rw[List.length_eraseIdx] at this;simp[d] at this;omega
theorem iW:∀ (ls acc:List<|List Int) {all:List<|List Int},a8 acc ls=some all→i4 acc→acc.length≤4000→i4 all∧all.length≤4000
 | [],acc,all,h,hg,hl=>by cases h;exact⟨hg,hl⟩
 | s::r,acc,all,h,hg,hl=>by
  unfold a8 at h;split at h
  ·exact iW r acc h hg hl
  ·rename_i hb;split at h
   ·cases h
   ·rename_i b;refine iW r _ h (hg.add (lF s) ?_) oM;cases hc:dM s with
    | nil=>simp
    | cons a q =>
     rw[hc] at hb;simp[jO] at hb;simp;omega
section
variable (hg:i4 all)
include hg
theorem i4.get_lb (b:t∈all):all[lbL all t]?=some t:=by
 obtain ⟨c,a⟩:=pm t hg.strict.srt;have d:fq<|all.take (lbL all t)++all.drop (lbL all t):=by rw[zj3];exact hg.strict
 have hd:=(List.pairwise_append.1 d).2.1;have hm:t∈all.drop (lbL all t):=by
  have:t∈all.take (lbL all t)++all.drop (lbL all t):=by rw[zj3];exact b
  rcases zf4.1 this with h | h
  ·have:=c t h;rw[cZ] at this;exact absurd this dC
  ·exact h
 have e:all[lbL all t]?=(all.drop<|lbL all t)[0]?:=by simp
 rw[e];cases hc:all.drop (lbL all t) with
 | nil=>rw[hc] at hm;simp at hm
 | cons y r =>
  rw[hc] at hm hd a
  rcases zf2.1 hm with rfl | hm
  ·rfl
  ·exact absurd ((zk4.1 hd).1 t hm) (a y<|by simp)
theorem i4.lb_get (b:k<all.length):lbL all all[k]=k:=by
 have e:=hg.get_lb<|gM b;obtain ⟨c,d⟩:=zf6.1 e;have a:¬ aw all[k] all[k]<0:=by rw[cZ];decide
 rcases Nat.lt_trichotomy (lbL all all[k]) k with h | h | h
 ·have:=zd1.1 hg.strict _ _ c b h;rw[d] at this;exact absurd this a
 ·exact h
 ·have:=zd1.1 hg.strict _ _ b c h;rw[d] at this;exact absurd this a
end
def ixC (all:List<|List Int)(t:List Int):Int:=((lbL all t:Nat):Int)+1
theorem i4.inj (hg:i4 all){u:List Int}(b:t∈all)(c:u∈all)(h:ixC all t=ixC all u):t=u:=by
 have a:=hg.get_lb b;have d:=hg.get_lb c;have:lbL all t=lbL all u:=by unfold ixC at h;omega
 rw[this,d] at a;injection a with a
 exact a.symm
theorem i4.lt (hg:i4 all){u:List Int}(b:t∈all)(c:u∈all)(h:aw t u<0):ixC all t<ixC all u:=by
 obtain ⟨i1,d⟩:=zf6.1<|hg.get_lb b;obtain ⟨i2,e⟩:=zf6.1<|hg.get_lb c;unfold ixC
 rcases Nat.lt_trichotomy (lbL all t) (lbL all u) with a | a | a
 ·omega
 ·have:t=u:=hg.inj b c (by unfold ixC;omega);subst this;rw[cZ] at h;exact absurd h dC
 ·have:=zd1.1 hg.strict _ _ i2 i1 a;rw[d,e] at this;exact absurd h<|ja this
def gn (all:List<|List Int)(s:List Int):List ak:=if s.length≤1 then [] else (List.range s.length).reverse.map fun k:Nat=>⟨ixC all<|s.eraseIdx k,dK k⟩
def ju (all:List<|List Int)(s:List Int):Cl:=⟨ixC all s,(s.length:Int) - 1,gn all s⟩
theorem Ah {s:List Int}(g:ey s):∀ {i j:Nat},i<j→j<s.length→aw (s.eraseIdx j) (s.eraseIdx i)<0:=by
 induction s with
 | nil=>intro i j _ h;simp at h
 | cons a r ih =>
  intro i j k c;obtain ⟨l,m⟩:=zk4.1 g;cases j with
  | zero=>omega
  | succ j =>
   simp only[ze9] at c;cases i with
   | zero =>
    cases r with
    | nil=>simp at c
    | cons b q =>
     have d:=l b dO;have hl:((a::b::q).eraseIdx<|j+1).length=((a::b::q).eraseIdx 0).length:=by
      simp[List.length_eraseIdx] at c ⊢;omega
     rw[im hl];simp only[List.eraseIdx_cons_succ,List.eraseIdx_cons_zero,iH];have:iI a b = -1:=by unfold iI;rw[zg2 d]
     simp[this]
   | succ i =>
    have f:=ih m (i:=i) (j:=j) oM oM;have hl:(r.eraseIdx j).length=(r.eraseIdx i).length:=by
     rw[List.length_eraseIdx,List.length_eraseIdx,zg2 oM,zg2 oM]
    have e:((a::r).eraseIdx<|j+1).length=((a::r).eraseIdx<|i+1).length:=by simp[hl]
    rw[im hl] at f;rw[im e];simp only[List.eraseIdx_cons_succ,iH];have:iI a a=0:=by unfold iI;rw[zg1 oM,zg1 oM]
    simpa [this] using f
theorem tW (h:(A.map Cl.id).Nodup){x:Cl}(a:x∈A):ah A x.id=some x:=by
 induction A with
 | nil=>simp at a
 | cons c t ih =>
  simp only[zg5,zk3] at h;unfold ah
  rcases zf2.1 a with rfl | a
  ·simp
  ·have b:¬ c.id=x.id:=fun e=>h.1 (by rw[e];exact zf3.2 ⟨x,a,I⟩);rw[zi7];simp only[b,decide_false];exact ih h.2 a
theorem Ba (c:Cl):cH (cH c)=cH c:=by
 unfold cH;rw[← bl (c8 c.sides) (aN.refl _)]
theorem ge (l:List Cl):aa (aa l)=aa l:=by
 have a:sortBy Cl.id (aa l)=aa l:=(bl (jm l)<|aN.refl _).symm;show (sortBy Cl.id<|aa l).map cH=aa l;rw[a];unfold aa;rw[zi6];exact zc9 fun c _=>Ba c
theorem Ez {α:Type}{key:α→Int}{l:List α}(h:l.Pairwise fun a b=>key b<key a):sortBy key l=l.reverse:=by
 refine (bl ?_ ⟨by simp,fun c=>?_⟩).symm
 ·unfold Srt;rw[List.pairwise_reverse];exact h.imp fun h=>by omega
 ·rw[List.filter_reverse];have:∀ m:List α,m.Pairwise (fun a b=>key b<key a)→(∀ a∈m,(key a == c)=true)→m.reverse=m:=by
   intro m hm hc
   match m,hm,hc with
   | [],_,_=>rfl
   | [_],_,_=>rfl
   | a::b::r,hm,hc =>
    have g:=(zk4.1 hm).1 b dO;have d:=hc a dO;have e:=hc b dO;simp at d e;omega
  exact this _ (h.sublist List.filter_sublist) fun a f=>(zh5.1 f).2
section
variable (hg:i4 all)
include hg
theorem i4.face {s:List Int}(b:s∈all)(a:k<s.length)(c:2≤s.length):s.eraseIdx k∈all∧(s.eraseIdx k).length=s.length - 1 :=
 ⟨hg.faces s b c k a,by rw[List.length_eraseIdx,zg2 a]⟩
theorem i4.sides {s:List Int}(a:s∈all):sortBy ak.cell (a7 all s s.length)=gn all s:=by
 have c:=(hg.form s a).1;have d:=(hg.form s a).2.1;by_cases o:s.length≤1
 ·have p:s.length=1:=by have:=List.length_pos_iff.2 c;omega
  unfold gn;rw[zg2 o,p];have:gh all s 0=[]:=by
   unfold gh;have q:(s.eraseIdx 0).length=0:=by rw[List.length_eraseIdx,zg2 oM];omega
   rw[zg1 oM]
  simp[a7,wb,this,sortBy]
 ·have f:2≤s.length:=oM;have e:a7 all s s.length=(List.range s.length).map fun k:Nat=>(⟨ixC all<|s.eraseIdx k,dK k⟩:ak):=by
   unfold a7;rw[List.flatMap_def];have:(List.range s.length).map (gh all s)=(List.range s.length).map fun k:Nat=>[(⟨ixC all<|s.eraseIdx k,dK k⟩:ak)]:=zc9 fun k g=>by
    have g:=List.mem_range.1 g;unfold gh;rw[(hg.face a g f).2,zg2 oM];rfl
   rw[this];generalize List.range s.length=R;induction R with
   | nil=>rfl
   | cons x r ih=>simp only[zg5,List.flatten_cons,ih];rfl
  unfold gn;rw[zg1 o,e,List.map_reverse];refine Ez ?_;rw[zk5];refine List.Pairwise.imp_of_mem ?_<|List.pairwise_lt_range (n:=s.length);intro i j l b m;have l:=List.mem_range.1 l;have b:=List.mem_range.1 b;exact hg.lt (hg.face a b f).1 (hg.face a l f).1<|Ah d m b
theorem i4.cells:aa (bi all)=all.map (ju all):=by
 rw[s4];apply List.ext_getElem?;intro k;simp only[zi1];by_cases a:k<all.length
 ·rw[jJ a,bd a];simp only[Option.map_some,zg8];unfold cH og ju;simp only[hg.sides<|gM a,ixC,hg.lb_get a]
 ·rw[List.getElem?_eq_none (by rw[bT];omega),List.getElem?_eq_none oM];rfl
theorem i4.ids:((all.map<|ju all).map Cl.id).Pairwise (· < ·):=by
 rw[zi6,zk5];refine List.Pairwise.imp_of_mem ?_ hg.strict;intro a b c hb h;exact hg.lt c hb h
theorem i4.find {s:List Int}(a:s∈all):ah (all.map<|ju all) (ixC all s)=some (ju all s) :=
 tW (x:=ju all s) (hg.ids.imp fun h=>by omega)<|zf3.2 ⟨s,a,rfl⟩
end
theorem C7 (k:Nat):dK k=1∨dK k = -1:=by unfold dK;omega
theorem sN {s:List Int}(h:2≤s.length)(a:i<s.length):(gn all s)[i]?=some ⟨ixC all<|s.eraseIdx<|s.length - 1 - i,dK ((s.length - 1 - i:Nat):Int)⟩:=by
 unfold gn;rw[zg1 oM,zi1,List.getElem?_reverse (by simpa using a)];simp only[zi5];rw[List.getElem?_range oM];rfl
theorem uT {s:List Int}:(gn all s).length=if s.length≤1 then 0 else s.length:=by
 unfold gn;split <;> simp
section
variable (hg:i4 all)
include hg
theorem i4.formOk {s:List Int}(f:s∈all):dj (all.map<|ju all) (ju all s)=0:=by
 obtain ⟨g,j,w⟩:=hg.form s f;have hp:=List.length_pos_iff.2 g;have b:(ju all s).sides.length=if s.length≤1 then 0 else s.length:=uT
 have a:(ju all s).dim=(s.length:Int) - 1:=rfl;have r:gp (ju all s)=false:=by unfold gp;rw[a];simp;omega
 have c:aY (ju all s)=false:=by
  unfold aY;rw[a,b];split
  ·simp;omega
  ·simp;omega
 have t:(List.range (ju all s).sides.length).any (jz (all.map<|ju all)<|ju all s)=false:=by
  rw[zk6];intro i e;have e:=List.mem_range.1 e;rw[b] at e;split at e
  ·omega
  ·rename_i hl;have c:2≤s.length:=oM;have l:=sN (all:=all) c e;have m:=hg.face f (k:=s.length - 1 - i) oM c;unfold jz;rw[show (ju all s).sides[i]?=_ from l];show ¬ cJ _ _ i ⟨ixC all<|s.eraseIdx<|s.length - 1 - i,_⟩=true;unfold cJ;dsimp only;rw[hg.find m.1];have hd:(ju all<|s.eraseIdx<|s.length - 1 - i).dim=(ju all s).dim - 1:=by
    show ((s.eraseIdx<|s.length - 1 - i).length:Int) - 1=(s.length:Int) - 1 - 1;rw[m.2];omega
   simp only[Option.isSome_some,Bool.not_true,Bool.false_or,Option.getD_some,hd,ne_eq,not_true_eq_false,decide_false];by_cases n:i>0
   ·have o:=sN (all:=all) c (i:=i - 1) oM;rw[show (ju all s).sides[i - 1]?=_ from o];have p:=hg.face f (k:=s.length - 1 - (i - 1)) oM c;have:=hg.lt p.1 m.1<|Ah j oM oM;simp;omega
   ·simp[n]
 have u:(ju all s).sides.any cj=false:=by
  rw[zk6];intro x d;show ¬ cj x=true;have d:x∈gn all s:=d;unfold gn at d;split at d
  ·simp at d
  ·obtain ⟨k,_,rfl⟩:=zf3.1 d
   rcases C7 k with h | h <;> simp[cj,h]
 have v:(decide ((ju all s).dim=1)&&decide (nG (ju all s).sides≠0))=false:=by
  by_cases hd:(ju all s).dim=1
  ·rw[a] at hd;have q:s.length=2:=oM;have:nG (ju all s).sides=0:=by
    show nG (gn all s)=0;unfold gn;rw[zg1 oM,q];simp[wb,nG,dK]
   rw[this];simp
  ·simp[hd]
 unfold dj;rw[r,c,t,u,v];rfl
end
theorem Bu (s:List Int):∀ {k q:Nat},k≤q→(s.eraseIdx k).eraseIdx q=(s.eraseIdx<|q+1).eraseIdx k:=by
 induction s with
 | nil=>intro k q _;rfl
 | cons a r ih =>
  intro k q h;cases k with
  | zero=>simp
  | succ k =>
   cases q with
   | zero=>omega
   | succ q =>
    simp only[List.eraseIdx_cons_succ];rw[ih oM]
theorem sj {s:List Int}(m:s.Nodup){a b:Nat}(n:a<b)(hb:b<s.length)(q:i<s.length):s[i]∈(s.eraseIdx b).eraseIdx a↔i≠a∧i≠b:=by
 have c:∀ {j k:Nat} (f:j<s.length) (g:k<s.length),s[j]=s[k]→j=k:=fun {j k} f g e=>by
  rcases Nat.lt_trichotomy j k with h | h | h
  ·exact absurd e<|zd1.1 m j k f g h
  ·exact h
  ·exact absurd e.symm<|zd1.1 m k j g f h
 rw[List.mem_eraseIdx_iff_getElem];constructor
 ·rintro ⟨j,l,o,e⟩;have d:=l;rw[List.length_eraseIdx,zg2 hb] at d;rw[List.getElem_eraseIdx] at e;split at e
  ·have:=c _ _ e;omega
  ·have:=c _ _ e;omega
 ·rintro ⟨p,r⟩
  rcases Nat.lt_or_ge i b with h | h
  ·refine⟨i,by rw[List.length_eraseIdx,zg2 hb];omega,p,?_⟩;rw[List.getElem_eraseIdx,dif_pos h]
  ·refine⟨i - 1,by rw[List.length_eraseIdx,zg2 hb];omega,oM,?_⟩;rw[List.getElem_eraseIdx,dif_neg oM];congr 1;omega
theorem Bv {s:List Int}(g:s.Nodup){a b c d:Nat}(e:a<b)(hb:b<s.length)(f:c<d)(hd:d<s.length)(h:(s.eraseIdx b).eraseIdx a=(s.eraseIdx d).eraseIdx c):a=c∧b=d:=by
 have key:∀ i,i<s.length→((i≠a∧i≠b)↔(i≠c∧i≠d)):=fun i j=>by
  rw[← sj g e hb j,← sj g f hd j,h]
 have m:=key a oM;have k:=key b hb;have hc:=key c oM;have l:=key d hd;omega
def HG (all:List<|List Int)(s:List Int)(c:Int):Int:=ixC all<|(s.eraseIdx (c % 16).toNat).eraseIdx (c / 16).toNat
theorem CH {q:Nat}(c:k<n)(hq:q<n - 1):∃ a b:Nat,a<b∧b<n∧code k q=((a * 16+b:Nat):Int)∧((q<k∧a=q∧b=k)∨(k≤q∧a=k∧b=q+1)):=by
 unfold code;by_cases h:q<k
 ·rw[zg2 h];exact⟨q,k,h,c,I,.inl ⟨h,I,I⟩⟩
 ·rw[zg1 h];exact⟨k,q+1,oM,oM,I,.inr ⟨oM,I,I⟩⟩
theorem kB {a b:Nat}(h:b<16):((((a * 16+b:Nat):Int) % 16).toNat=b)∧((((a * 16+b:Nat):Int) / 16).toNat=a):=oM
section
variable (hg:i4 all)
include hg
theorem i4.aroundOk {s:List Int}(o:s∈all)(A:2<s.length):bM (all.map<|ju all) (ju all s)=0:=by
 obtain ⟨B,t,D⟩:=hg.form s o;have u:s.Nodup:=t.imp fun h=>by omega
 have w:∀ a b,a<b→b<s.length→(s.eraseIdx b).eraseIdx a∈all:=fun a b e hb=>by
  have v:=hg.face o (k:=b) hb oM;exact (hg.face v.1 (k:=a) (by rw[v.2];omega)<|by rw[v.2];omega).1
 have g:o0 (all.map<|ju all) (ju all s)=zu (HG all s) (Hd s.length):=by
  unfold o0 zu Hd;show (gn all s).map _=_;unfold gn;rw[zg1 oM,zi6,zi6];refine zc9 fun k j=>?_;have j:k<s.length:=by simpa using j
  have z:=hg.face o j oM;simp only[Function.comp_def];congr 1;unfold az;rw[hg.find z.1];show gn all (s.eraseIdx k)=_;unfold gn;rw[z.2,zg1 oM,zi6];refine zc9 fun q hq=>?_;have hq:q<s.length - 1:=by simpa using hq
  obtain ⟨a,b,e,hb,hc,i⟩:=CH j hq;simp only[Function.comp_def,Ef];congr 1;unfold HG;rw[hc,(kB (a:=a) (b:=b) oM).1,(kB (a:=a) (b:=b) oM).2]
  rcases i with ⟨_,rfl,rfl⟩ | ⟨h,rfl,rfl⟩
  ·rfl
  ·rw[Bu s h]
 rw[pY,g,zg,Gz _ oM A];have f:∀ x∈BW (Hd s.length),∃ a b:Nat,a<b∧b<s.length∧x=((a * 16+b:Nat):Int):=by
  intro x l;obtain ⟨p,hp,l⟩:=List.mem_flatMap.1 l;obtain ⟨k,j,rfl⟩:=zf3.1 hp;obtain ⟨r,hr,rfl⟩:=zf3.1 l;obtain ⟨q,hq,rfl⟩:=zf3.1 hr;obtain ⟨a,b,e,hb,hc,_⟩:=CH (n:=s.length) (k:=k) (q:=q) (by simpa using j) (by simpa using hq);exact⟨a,b,e,hb,hc⟩
 intro x l y C h;obtain ⟨a,b,e,hb,rfl⟩:=f x l;obtain ⟨c,d,m,hd,rfl⟩:=f y C;unfold HG at h;rw[(kB (a:=a) (b:=b) oM).1,(kB (a:=a) (b:=b) oM).2,(kB (a:=c) (b:=d) oM).1,(kB (a:=c) (b:=d) oM).2] at h;obtain ⟨rfl,rfl⟩:=Bv u e hb m hd<|hg.inj (w a b e hb) (w c d m hd) h;rfl
end
theorem wj {tl:List Cl}:∀ {l:List Cl} {n:Int},(∀ x∈l,n<x.id)→l.Pairwise (fun a b=>a.id<b.id)→(∀ x∈l,dj tl x=0)→iZ tl l n=none
 | [],_,_,_,_=>rfl
 | x::r,n,d,e,c=>by
  have j:=d x dO;obtain ⟨f,g⟩:=zk4.1 e;unfold iZ;rw[zg1 oM,zg1<|by rw[c x dO];simp];exact wj f g fun y i=>c y (by simp[i])
theorem wi {tl:List Cl}:∀ {l:List Cl},(∀ x∈l,x.dim>1→bM tl x=0)→oJ tl l=none
 | [],_=>rfl
 | x::r,h=>by
  unfold oJ;rw[zg1 fun ⟨a,b⟩=>b<|h x dO a];exact wi fun y c=>h y (by simp[c])
theorem Aj {l:List Cl}(g:l.length≤4000)(d:∀ x∈aa l,0<x.id)(c:(aa l).Pairwise fun a b=>a.id<b.id)(e:∀ x∈aa l,dj (aa l) x=0)(f:∀ x∈aa l,x.dim>1→bM (aa l) x=0):aq l=(0,0):=by
 unfold aq;rw[zg1 oM,bH c,wj d c e,wi f];rfl
theorem xZ (ls:List<|List Int):aq (dJ ls)=(0,0):=by
 unfold dJ;cases h:a8 [] ls with
 | none=>rfl
 | some all =>
  obtain ⟨hg,hl⟩:=iW ls [] h i4.nil dO;dsimp only;have hc:aa (aa<|bi all)=all.map (ju all):=by rw[ge,hg.cells]
  have c:=hg.ids;rw[zk5] at c;refine Aj (by rw[hg.cells];simpa using hl) ?_ ?_ ?_ ?_ <;> rw[hc]
  ·intro x a;obtain ⟨s,_,rfl⟩:=zf3.1 a;show 0<ixC all s;unfold ixC;omega
  ·exact c
  ·intro x a;obtain ⟨s,b,rfl⟩:=zf3.1 a;exact hg.formOk b
  ·intro x a hd;obtain ⟨s,b,rfl⟩:=zf3.1 a;refine hg.aroundOk b ?_;have:(s.length:Int) - 1>1:=hd;omega
open Go.ChangeShapes Go.WideShapes Go.ChangeAt Go.RowKit
set_option maxRecDepth 100000
section
variable {H:Type}{enc:TypeId×Value→H}{W:World}{base:Nat}{spare:Nat→Bool}{hd:Bool}
end
inductive Cn (E:Int→Int→Prop):Int→Int→Prop
 | refl (a:Int):Cn E a a
 | step {a b c:Int} (h:E a b∨E b a) (r:Cn E b c):Cn E a c
theorem Cn.trans {E:Int→Int→Prop}(h:Cn E a b)(k:Cn E b c):Cn E a c:=by
 induction h with
 | refl _=>exact k
 | step h _ ih=>exact .step h<|ih k
theorem Cn.one {E:Int→Int→Prop}(h:E a b):Cn E a b:=.step (.inl h)<|.refl b
theorem Cn.symm {E:Int→Int→Prop}(h:Cn E a b):Cn E b a:=by
 induction h with
 | refl _=>exact .refl _
 | step h _ ih=>exact ih.trans<|.step h.symm<|.refl _
theorem Cn.mono {E E':Int→Int→Prop}(h:∀ a b,E a b→Cn E' a b)(hc:Cn E a b):Cn E' a b:=by
 induction hc with
 | refl _=>exact .refl _
 | step e _ ih =>
  rcases e with e | e
  ·exact (h _ _ e).trans ih
  ·exact (h _ _ e).symm.trans ih
theorem Cn.iso {E:Int→Int→Prop}(h:∀ b,¬ E a b∧¬ E b a)(hc:Cn E a b):a=b:=by
 cases hc with
 | refl _=>rfl
 | step e _ =>
  rcases e with e | e
  ·exact absurd e (h _).1
  ·exact absurd e (h _).2
theorem Cn.add {E E':Int→Int→Prop}{y:Int}(h:∀ a b,E' a b↔E a b∨(a=x∧b=y))(a b:Int):Cn E' a b↔Cn E a b∨(Cn E a x∧Cn E y b)∨(Cn E a y∧Cn E x b):=by
 have g:Cn E' x y:=.one<|(h x y).2<|.inr ⟨rfl,rfl⟩;have hm:∀ {a b:Int},Cn E a b→Cn E' a b:=fun hc=>hc.mono fun a b e=>.one<|(h a b).2<|.inl e;constructor
 ·intro hc;induction hc with
  | refl _=>exact .inl<|.refl _
  | step e _ ih =>
   have key:∀ {p q r:Int},Cn E p q→(Cn E q r∨(Cn E q x∧Cn E y r)∨(Cn E q y∧Cn E x r))→Cn E p r∨(Cn E p x∧Cn E y r)∨(Cn E p y∧Cn E x r):=by
    rintro p q r f (c | ⟨c,d⟩ | ⟨c,d⟩)
    ·exact .inl<|f.trans c
    ·exact .inr<|.inl ⟨f.trans c,d⟩
    ·exact .inr<|.inr ⟨f.trans c,d⟩
   rcases e with e | e
   ·rcases (h _ _).1 e with e | ⟨rfl,rfl⟩
    ·exact key (.one e) ih
    ·rcases ih with c | ⟨_,d⟩ | ⟨_,d⟩
     ·exact .inr<|.inl ⟨.refl _,c⟩
     ·exact .inr<|.inl ⟨.refl _,d⟩
     ·exact .inl d
   ·rcases (h _ _).1 e with e | ⟨rfl,rfl⟩
    ·exact key (Cn.one e).symm ih
    ·rcases ih with c | ⟨_,d⟩ | ⟨_,d⟩
     ·exact .inr<|.inr ⟨.refl _,c⟩
     ·exact .inl d
     ·exact .inr<|.inr ⟨.refl _,d⟩
 ·rintro (f | ⟨f,c⟩ | ⟨f,c⟩)
  ·exact hm f
  ·exact (hm f).trans<|g.trans<|hm c
  ·exact (hm f).trans<|g.symm.trans<|hm c
def eY (ml:List<|Int×List Int)(a b:Int):Prop:=∃ p∈ml,p.2.head?=some a∧b∈p.2
def RZ (e:En)(z:Int×Int):Prop:=e.id=z.1∧e.sum=z.2
def RM (e:En)(p:Int×List Int):Prop:=e.id=p.1∧e.many=p.2.length∧p.2.head?=some (e.fst:Int)
theorem uj (h : -9223372036854775808≤x∧x<9223372036854775808):wr x=x:=zl1 _ oM
theorem FJ {i:Nat}{c p:Int}:∀ {es:List En} {f:List<|Int×Int},ay RZ es f→(∀ e∈es,wr (e.sum+p)=e.sum+p)→wr (0+p)=p→ay RZ (l8 i c p es) (fQ f c p)
 | [],[],_,_,hp=>⟨⟨rfl,hp⟩,trivial⟩
 | e::es,(a,z)::f,h,hb,hp=>by
  obtain ⟨⟨b,d⟩,g⟩:=h;have b:e.id=a:=b;have d:e.sum=z:=d;simp only[l8,fQ];by_cases hc:e.id=c
  ·rw[zg2 hc,zg2<|by rw[← b,hc]];exact⟨⟨b,by show wr (e.sum+p)=z+p;rw[hb e dO,d]⟩,g⟩
  ·rw[zg1 hc,zg1<|by rw[← b];exact fun e=>hc e.symm];exact⟨⟨b,d⟩,FJ g (fun x j=>hb x<|by simp[j]) hp⟩
 | [],_::_,h,_,_=>h.elim
 | _::_,[],h,_,_=>h.elim
theorem FK {i:Nat}{c p:Int}:∀ {es:List En} {ml:List<|Int×List Int},ay RM es ml→(∀ e∈es,wr (e.many+1)=e.many+1)→ay RM (l8 i c p es) (ii ml c i) ∧
  ∀ a b,eY (ii ml c i) a b↔eY ml a b∨(a=kh i c es∧b=i)
 | [],[],_,_=>by
  refine⟨⟨⟨rfl,by rfl,rfl⟩,trivial⟩,fun a b=>?_⟩;constructor
  ·rintro ⟨q,hq,g,j⟩;simp[ii] at hq;subst hq;simp at g j;exact .inr ⟨g.symm,j⟩
  ·rintro (⟨q,hq,_⟩ | ⟨rfl,rfl⟩)
   ·simp at hq
   ·exact⟨(c,[(i:Int)]),by simp[ii],I,by simp⟩
 | e::es,(k,l)::ml,h,hb=>by
  obtain ⟨⟨g,j,m⟩,o⟩:=h;have g:e.id=k:=g;have j:e.many=l.length:=j;have m:l.head?=some (e.fst:Int):=m;simp only[l8,ii,kh];by_cases hc:e.id=c
  ·rw[zg2 hc,zg2<|by rw[← g,hc],zg2 hc];have n:(l++[(i:Int)]).head?=some (e.fst:Int):=by
    cases l with
    | nil=>simp at m
    | cons x r=>simpa using m
   refine⟨⟨⟨g,by show wr (e.many+1)=_;rw[hb e dO,j];simp,n⟩,o⟩,fun a b=>?_⟩;constructor
   ·rintro ⟨q,hq,f,d⟩
    rcases zf2.1 hq with rfl | hq
    ·dsimp only at f d;rw[n] at f
     rcases zf4.1 d with d | d
     ·exact .inl ⟨(k,l),by simp,by rw[m,f],d⟩
     ·simp at d;injection f with f
      exact .inr ⟨f.symm,d⟩
    ·exact .inl ⟨q,by simp[hq],f,d⟩
   ·rintro (⟨q,hq,f,d⟩ | ⟨rfl,rfl⟩)
    ·rcases zf2.1 hq with rfl | hq
     ·exact⟨(k,l++[(i:Int)]),by simp,by rw[n,← m,f],by simp[d]⟩
     ·exact⟨q,by simp[hq],f,d⟩
    ·exact⟨(k,l++[(i:Int)]),by simp,n,by simp⟩
  ·rw[zg1 hc,zg1<|by rw[← g];exact fun e=>hc e.symm,zg1 hc];obtain ⟨i1,i2⟩:=FK (i:=i) (c:=c) (p:=p) o fun x s=>hb x (by simp[s]);refine⟨⟨⟨g,j,m⟩,i1⟩,fun a b=>?_⟩;have e1:∀ L,eY ((k,l)::L) a b↔(l.head?=some a∧b∈l)∨eY L a b:=fun L=>by
    unfold eY;simp
   rw[e1,e1,i2,or_assoc]
 | [],_::_,h,_=>h.elim
 | _::_,[],h,_=>h.elim
structure Sd (n t k:Nat)(es:List En)(part:List Int)(zl:List<|Int×Int)(ml:List<|Int×List Int):Prop where
 z:ay RZ es zl
 m:ay RM es ml
 bz:∀ e∈es,-(t:Int)≤e.sum∧e.sum≤t∧0≤e.many∧e.many≤t
 bf:∀ e∈es,e.fst<k
 bm:∀ p∈ml,∀ x∈p.2,0≤x∧x<k
 len:part.length=n
 bp:∀ a,a<k→0≤part.getD a 0∧part.getD a 0<k
 cn:∀ a b:Nat,a<k→b<k→(part.getD a 0=part.getD b 0↔Cn (eY ml) a b)
theorem jd (h:∀ p∈ml,∀ x∈p.2,0≤x∧x<(k:Int))(hl:eY ml a b):(0≤a∧a<k)∧(0≤b∧b<k):=by
 obtain ⟨p,hp,c,d⟩:=hl;exact⟨h p hp a<|List.mem_of_head? c,h p hp b d⟩
theorem Sd.open {t:Nat}{es:List En}{part:List Int}{d:List<|Int×Int}(h:Sd n t k es part d ml)(f:k<n):Sd n t (k+1) es (part.set k k) d ml:=by
 have hl:=h.len;have g1:(part.set k (k:Int)).getD k 0=k:=by rw[zh2,List.getElem?_set];simp[hl,f]
 have g2:∀ a,a≠k→(part.set k (k:Int)).getD a 0=part.getD a 0:=fun a c=>by
  rw[zh2,zh2,List.getElem?_set,zg1 fun e=>c e.symm]
 have iso:∀ b,¬ eY ml k b∧¬ eY ml b k:=fun b=>⟨fun e=>by have:=jd h.bm e;omega,fun e=>by have:=jd h.bm e;omega⟩;refine⟨h.z,h.m,h.bz,fun e g=>by have:=h.bf e g;omega,fun p hp x i=>by have:=h.bm p hp x i;omega,by simp[hl],fun a c=>?_,fun a b c hb=>?_⟩
 ·by_cases e:a=k
  ·subst e;rw[g1];omega
  ·rw[g2 a e];have:=h.bp a oM;omega
 ·by_cases e:a=k <;> by_cases e2:b=k
  ·subst e;subst e2;exact⟨fun _=>.refl _,fun _=>I⟩
  ·subst e;rw[g1,g2 b e2];have:=h.bp b oM;exact⟨fun h=>by omega,fun hc=>by have:=hc.iso iso;omega⟩
  ·subst e2;rw[g1,g2 a e];have:=h.bp a oM;exact⟨fun h=>by omega,fun hc=>by have:=hc.symm.iso iso;omega⟩
  ·rw[g2 a e,g2 b e2];exact h.cn a b oM oM
theorem lG {m:Nat}{old now:Int}{p:List Int}{a:Nat}(h:a<p.length)(hm:a<m):(eX m old now p).getD a 0=if p.getD a 0=now then old else p.getD a 0:=by
 rw[zh2,zh2];simp only[eX,List.getElem?_mapIdx,bd h,Option.map_some,Option.getD_some,hm,true_and]
theorem E6 {es:List En}(h:∀ e∈es,e.fst<i+1):kh i c es<i+1:=by
 induction es with
 | nil=>exact Nat.lt_succ_self i
 | cons e r ih =>
  unfold kh;split
  ·exact h e dO
  ·exact ih fun x a=>h x (by simp[a])
theorem Am {P:En→Prop}{i:Nat}{c p:Int}(hn:P<|En.up ⟨c,0,0,i⟩ p)(b:∀ e,P e→P (e.up p))(d:∀ e,P e→P e):∀ {es:List En},(∀ e∈es,P e)→∀ e∈l8 i c p es,P e
 | [],_,e,a=>by simp[l8] at a;subst a;exact hn
 | x::r,h,e,a=>by
  unfold l8 at a;split at a
  ·rcases zf2.1 a with rfl | a
   ·exact b x (h x<|by simp)
   ·exact h e (by simp[a])
  ·rcases zf2.1 a with rfl | a
   ·exact h e dO
   ·exact Am hn b d (fun y f=>h y<|by simp[f]) e a
theorem AA {P:Int→Prop}{c:Int}{i:Int}(b:P i):∀ {ml:List<|Int×List Int},(∀ p∈ml,∀ x∈p.2,P x)→∀ p∈ii ml c i,∀ x∈p.2,P x
 | [],_,p,hp,x,a=>by simp[ii] at hp;subst hp;simp at a;subst a;exact b
 | (k,l)::r,h,p,hp,x,a=>by
  unfold ii at hp;split at hp
  ·rcases zf2.1 hp with rfl | hp
   ·rcases zf4.1 a with a | a
    ·exact h (k,l) dO x a
    ·simp at a;subst a;exact b
   ·exact h p (by simp[hp]) x a
  ·rcases zf2.1 hp with rfl | hp
   ·exact h (k,l) dO x a
   ·exact AA b (fun q hq=>h q<|by simp[hq]) p hp x a
theorem Sd.next {t:Nat}{es:List En}{part:List Int}{s:List<|Int×Int}{x r:ak}(h:Sd n t (i+1) es part s ml)(A:i<n)(B:t<1000000)(u:x.sign=1∨x.sign = -1)(hr:r.sign=1∨r.sign = -1) :
  Sd n (t+1) (i+1) (m0 i x.sign (es,part) r).1 (m0 i x.sign (es,part) r).2 (j8 x s r)<|fz i ml r:=by
 have hp:=tz u hr;have v:wr (x.sign * r.sign)=x.sign * r.sign:=uj oM;unfold m0 j8 fz;dsimp only;rw[v];generalize x.sign * r.sign=p at *;have hl:=h.len;have f:=FK (i:=i) (c:=r.cell) (p:=p) h.m fun e d=>by have:=h.bz e d;exact uj oM
 have j:=E6 (c:=r.cell) h.bf;refine⟨FJ h.z (fun e d=>by have:=h.bz e d;exact uj oM)<|by rw[Int.zero_add];exact uj oM,f.1,?_,?_,?_,by rw[mU];exact hl,fun a g=>?_,fun a b g hb=>?_⟩
 ·have:∀ e∈l8 i r.cell p es,(-(t:Int)≤e.sum∧e.sum≤t∧0≤e.many∧e.many≤t)∨(-((t+1:Nat):Int)≤e.sum∧e.sum≤((t+1:Nat):Int)∧0≤e.many∧e.many≤((t+1:Nat):Int)):=by
   have k:=h.bz;clear h f j hl;generalize l:l8 i r.cell p es=fs;intro e d;subst l;induction es with
   | nil =>
    simp[l8] at d;subst d;right;simp only[En.up];rw[uj oM,uj oM];omega
   | cons y q ih =>
    unfold l8 at d;split at d
    ·rcases zf2.1 d with rfl | d
     ·right;have:=k y dO;simp only[En.up];rw[uj oM,uj oM];omega
     ·exact .inl (k e<|by simp[d])
    ·rcases zf2.1 d with rfl | d
     ·exact .inl (k e<|by simp)
     ·exact ih (fun z hz=>k z<|by simp[hz]) d
  intro e d
  rcases this e d with o | o <;> omega
 ·exact Am (P:=fun e=>e.fst<i+1) (Nat.lt_succ_self i) (fun e d=>d) (fun e d=>d) h.bf
 ·exact AA (P:=fun x=>0≤x∧x<((i+1:Nat):Int)) oM h.bm
 ·rw[lG oM g];split
  ·exact h.bp _ j
  ·exact h.bp a g
 ·rw[lG oM g,lG oM hb,Cn.add (x:=(kh i r.cell es:Int)) (y:=(i:Int)) f.2 a b];rw[← h.cn a b g hb,← h.cn a _ g j,← h.cn i b oM hb,← h.cn a i g oM,← h.cn _ b j hb];generalize part.getD a 0=pa;generalize part.getD b 0=pb;generalize part.getD i 0=pi;generalize part.getD (kh i r.cell es) 0=pf;by_cases o:pa=pi <;> by_cases w:pb=pi <;> simp[o,w] <;> omega
theorem Sd.inner {n i:Nat}{x:ak}(b:i<n)(c:x.sign=1∨x.sign = -1):∀ (l:List ak) {t:Nat} {es:List En} {part:List Int} {a:List<|Int×Int} {ml:List<|Int×List Int},Sd n t (i+1) es part a ml→t+l.length<1000000→(∀ r∈l,r.sign=1∨r.sign = -1) →
  Sd n (t+l.length) (i+1) (l.foldl (m0 i x.sign) (es,part)).1 (l.foldl (m0 i x.sign) (es,part)).2 (l.foldl (j8 x) a) (l.foldl (fz i) ml)
 | [],_,_,_,_,_,h,_,_=>h
 | r::l,t,es,part,a,ml,h,d,hr=>by
  simp only[ze9] at d;have e:=h.next (x:=x) (r:=r) b oM c (hr r<|by simp);have:=Sd.inner b c l e oM (fun q hq=>hr q<|by simp[hq]);simp only[zi9,ze9];rw[show t+(l.length+1)=t+1+l.length by omega];exact this
theorem Sd.outer {tl:List Cl}{n:Nat}:∀ (l:List ak) {t k:Nat} {es:List En} {part:List Int} {a:List<|Int×Int} {ml:List<|Int×List Int},Sd n t k es part a ml→k+l.length≤n→t+64 * l.length<1000000→(∀ x∈l,x.sign=1∨x.sign = -1)→(∀ x∈l,(az tl x).length≤64∧∀ r∈az tl x,r.sign=1∨r.sign = -1) →
  ∃ b,Sd n b (k+l.length) ((l.zipIdx k).foldl (oT tl) (es,part)).1 ((l.zipIdx k).foldl (oT tl) (es,part)).2 (l.foldl (fun a x=>(az tl x).foldl (j8 x) a) a)<|(l.zipIdx k).foldl (fun ml p=>(az tl p.1).foldl (fz p.2) ml) ml
 | [],t,_,_,_,_,_,h,_,_,_,_=>⟨t,h⟩
 | x::l,t,k,es,part,a,ml,h,e,f,d,hq=>by
  simp only[ze9] at e f;have g:=hq x dO;have i:=(h.open oM).inner (x:=x) oM (d x<|by simp) (az tl x) oM g.2;obtain ⟨b,j⟩:=Sd.outer l i oM oM (fun y c=>d y<|by simp[c]) (fun y c=>hq y<|by simp[c]);refine⟨b,?_⟩;simp only[List.zipIdx_cons,zi9,ze9];rw[show k+(l.length+1)=k+1+l.length by omega];exact j
theorem qd {α β:Type}{R:α→β→Prop}{p:α→Bool}{q:β→Bool}(h:∀ a b,R a b→p a=q b):∀ {l:List α} {m:List β},ay R l m→l.any p=m.any q
 | [],[],_=>rfl
 | a::l,b::m,hr=>by simp only[List.any_cons,h a b hr.1,qd h hr.2]
 | [],_::_,hr=>hr.elim
 | _::_,[],hr=>hr.elim
theorem uZ (n:∀ p∈ml,p.2.length=2)(a b:Int):Rch (kE<|dU ml) a b↔Cn (eY ml) a b:=by
 have f:∀ x y,y∈fD (dU ml) x→Cn (eY ml) x y:=fun x y j=>by
  obtain ⟨p,hp,h⟩:=(mc ml x y).1 j
  rcases h with h | h
  ·exact .one ⟨p,hp,by rw[h];rfl,by rw[h];simp⟩
  ·exact (Cn.one (E:=eY ml) ⟨p,hp,by rw[h];rfl,by rw[h];simp⟩).symm
 have i:∀ x,kE (dU ml) x≠none:=fun x=>by simp[kE]
 constructor
 ·intro h;induction h with
  | refl _ _=>exact .refl _
  | step x y _ l hl j _ ih =>
   simp only[kE,zg8] at hl;subst hl;exact (f x y j).trans ih
 ·intro h;induction h with
  | refl a=>exact .refl a<|i a
  | @step x y z e _ ih =>
   have key:∀ u v,eY ml u v→v=u∨v∈fD (dU ml) u:=fun u v ⟨p,hp,k,g⟩=>by
    have:=n p hp
    match hq:p.2,this with
    | [c,d],_ =>
     rw[hq] at k g;simp at k g;subst k
     rcases g with g | g
     ·exact .inl g
     ·exact .inr<|(mc ml c v).2 ⟨p,hp,.inl<|by rw[hq,g]⟩
   rcases e with e | e
   ·rcases key x y e with rfl | m
    ·exact ih
    ·exact .step x y z _ I m ih
   ·rcases key y x e with rfl | m
    ·exact ih
    ·refine .step x y z _ I ?_ ih;obtain ⟨p,hp,o⟩:=(mc ml y x).1 m;exact (mc ml x y).2 ⟨p,hp,o.symm⟩
theorem pg (hn:l.Nodup)(hb:∀ x∈l,0≤x):(l.map Int.toNat).Nodup:=by
 rw[List.Nodup,zk5];refine List.Pairwise.imp_of_mem ?_ hn;intro a b d c f e;have:=hb a d;have:=hb b c;omega
theorem mL (hn:l.Nodup)(hb:∀ x∈l,0≤x∧x<(n:Int)):l.length≤n:=by
 have b:=pg hn fun x a=>(hb x a).1;have:=eG (l:=List.range n) b List.nodup_range fun x a=>by
  obtain ⟨y,c,rfl⟩:=zf3.1 a;have:=hb y c;exact List.mem_range.2 oM
 simpa using this
theorem uH {c:Cl}(A:AOk tl c)(D:0<c.sides.length):jq tl c=bM tl c:=by
 obtain ⟨F,G,hq⟩:=A;have start:Sd c.sides.length 0 0 [] (List.replicate c.sides.length 0) [] []:=⟨trivial,trivial,by simp,by simp,by simp,by simp,by simp,fun a b y=>by omega⟩;obtain ⟨t,hd⟩:=start.outer c.sides (tl:=tl) oM oM G hq;have e1:((c.sides.zipIdx 0).foldl (oT tl) ([],List.replicate c.sides.length 0))=nN tl c.sides c.sides.length:=rfl;rw[e1] at hd;have hz:ay RZ (nN tl c.sides c.sides.length).1<|fU tl c.sides:=hd.z;have hm:ay RM (nN tl c.sides c.sides.length).1<|fu tl c.sides:=hd.m;unfold jq bM;rw[qd (p:=fun e=>decide<|e.sum≠0) (q:=fun p:Int×Int=>decide<|p.2≠0) (fun a b h=>by rw[h.2]) hz];rw[qd (p:=fun e=>decide<|e.many≠2) (q:=fun p:Int×List Int=>decide<|(p.2.length:Int)≠2) (fun a b h=>by rw[h.2.1]) hm];split
 ·rfl
 ·split
  ·rfl
  ·rename_i B;have E:∀ p∈fu tl c.sides,p.2.length=2:=fun p hp=>by
    have:=zk6.1 ((zj8 _).mp B) p hp;simp at this;omega
   have k:∀ p∈fu tl c.sides,∀ x∈p.2,0≤x∧x<((0+c.sides.length:Nat):Int):=hd.bm;rw[Nat.zero_add] at k;have w:∀ a b:Nat,a<c.sides.length→b<c.sides.length→((nN tl c.sides c.sides.length).2.getD a 0=(nN tl c.sides c.sides.length).2.getD b 0↔Rch (kE<|dU<|fu tl c.sides) a b):=fun a b y hb=>by
    rw[uZ E];exact hd.cn a b oM oM
   have H:=hd.len;have f:∀ x:Int,x∈jN (dU<|fu tl c.sides)↔Rch (kE<|dU<|fu tl c.sides) 0 x:=fun x=>xz (cnt:=oI<|dU<|fu tl c.sides) (fun v v' h=>j5 h) (lX _) (zk9<|zc6 _ _) (by simp[kE]) x;have o:(jN<|dU<|fu tl c.sides).Nodup:=j4 _ _ _ _ dO;have r:∀ x∈jN (dU<|fu tl c.sides),0≤x∧x<(c.sides.length:Int):=fun x j=>by
    have hr:=(uZ E 0 x).1<|(f x).1 j;have:∀ a b,Cn (eY<|fu tl c.sides) a b→(0≤a∧a<(c.sides.length:Int))→(0≤b∧b<(c.sides.length:Int)):=by
     intro a b h;induction h with
     | refl _=>exact fun h=>h
     | step e _ ih =>
      intro _
      rcases e with e | e
      ·exact ih (jd k e).2
      ·exact ih (jd k e).1
    exact this 0 x hr oM
   generalize (nN tl c.sides c.sides.length).2=part at *;generalize jN (dU<|fu tl c.sides)=seen at *;by_cases d:∀ a,a<c.sides.length→part.getD a 0=part.getD 0 0
   ·have J:part.any (fun x=>decide<|x≠part.getD 0 0)=false:=by
     rw[zk6];intro x j;obtain ⟨i,u,rfl⟩:=zc8 j;have:=d i oM;rw[zh2,bd u] at this;simpa using this
    have g:seen.length=c.sides.length:=by
     refine Nat.le_antisymm (mL o r) ?_;have K:=eG (m:=List.range c.sides.length) (l:=seen.map Int.toNat) List.nodup_range (pg o fun x j=>(r x j).1) fun i u=>by
      have u:=List.mem_range.1 u;exact zf3.2 ⟨(i:Int),(f i).2<|(w 0 i D u).1 (d i u).symm,by simp⟩
     simpa using K
    rw[J,g];simp
   ·have L:part.any (fun x=>decide<|x≠part.getD 0 0)=true:=by
     simp only[Classical.not_forall] at d;obtain ⟨a,y,s⟩:=d;rw[zj9];refine⟨part.getD a 0,?_,by simpa using s⟩;rw[zh2,bd oM];exact gM _
    have g:(seen.length:Int)≠c.sides.length:=by
     simp only[Classical.not_forall] at d;obtain ⟨a,y,s⟩:=d;have C:(a:Int) ∉ seen:=fun h=>s ((w 0 a D y).2<|(f a).1 h).symm;have:=mL (l:=(a:Int)::seen) (n:=c.sides.length) (zk3.2 ⟨C,o⟩) fun x j=>by
      rcases zf2.1 j with rfl | j
      ·omega
      ·exact r x j
     simp at this;omega
    rw[L,zg2 rfl,zg2 g]
theorem dN {tl:List Cl}:∀ {l:List Cl} {n:Int},iZ tl l n=none→l.Pairwise (fun a b=>a.id<b.id)∧(∀ x∈l,n<x.id)∧∀ x∈l,dj tl x=0
 | [],_,_=>⟨List.Pairwise.nil,by simp,by simp⟩
 | x::r,n,h=>by
  unfold iZ at h;split at h
  ·cases h
  ·rename_i e;split at h
   ·cases h
   ·rename_i f;obtain ⟨g,d,i⟩:=dN h;refine⟨zk4.2 ⟨d,g⟩,fun y c=>?_,fun y c=>?_⟩
    ·rcases zf2.1 c with rfl | c
     ·omega
     ·have:=d y c;omega
    ·rcases zf2.1 c with rfl | c
     ·exact zh1 f
     ·exact i y c
theorem di (l:List Cl):aH l=aq l:=by
 unfold aH aq;split
 ·rfl
 ·cases h:iZ (am l) (aa l) 0 with
  | some p=>rfl
  | none =>
   obtain ⟨e,_,d⟩:=dN h;have f:=bH e;have key:∀ m:List Cl,(∀ x∈m,x∈aa l)→nP (aa l) m=oJ (am l) m:=by
    intro m;induction m with
    | nil=>intro _;rfl
    | cons x r ih =>
     intro hm;have c:=hm x dO;unfold nP oJ;rw[ih fun y g=>hm y<|by simp[g]];by_cases hd:x.dim>1
     ·have a:=Cc d c;have hn:0<x.sides.length:=by
       have b:=d x c;unfold dj at b;split at b
       ·cases b
       ·split at b
        ·cases b
        ·rename_i hc;simp[aY] at hc;have:=hc.2 hd;omega
      rw[f] at a ⊢;rw[uH a hn]
     ·simp[hd]
   rw[key _ fun x c=>c]
set_option maxRecDepth 10000
theorem mq {l:List Cl}(h:(aq l).2=0):iZ (am l) (aa l) 0=none:=by
 unfold aq at h;split at h
 ·simp at h
 ·cases a:iZ (am l) (aa l) 0 with
  | none=>rfl
  | some p=>rw[a] at h;exact absurd h<|xC a
theorem EL (a b:List Cl):dp a b=FY a b:=by
 have hb:de a b=oL a b:=by
  unfold de oL;rw[di,di];by_cases c:(aq a).2=0
  ·by_cases d:(aq b).2=0
   ·rw[bH (dN<|mq c).1,bH (dN<|mq d).1,ax,ax]
   ·simp[d]
  ·simp[c]
 unfold dp FY;rw[hb,di]
section
variable {A:List<|List Int}(hA:i4 A)
include hA
end
theorem GJ {c:Cl}(r:0≤c.dim∧c.dim≤8)(k:aY c=false)(l:∀ x∈c.sides,∃ d,ah tl x.cell=some d∧d.dim=c.dim - 1)(m:c.sides.Pairwise fun a b=>a.cell<b.cell)(n:∀ x∈c.sides,x.sign=1∨x.sign = -1)(o:c.dim=1→nG c.sides=0):dj tl c=0:=by
 have e1:gp c=false:=by unfold gp;simp;omega
 have e3:(List.range c.sides.length).any (jz tl c)=false:=by
  rw[zk6];intro i e;have e:=List.mem_range.1 e;obtain ⟨d,f,g⟩:=l _<|gM e;unfold jz;rw[bd e];show ¬ cJ _ _ i c.sides[i]=true;unfold cJ;rw[f];simp only[Option.isSome_some,Bool.not_true,Bool.false_or,Option.getD_some,g,ne_eq,not_true_eq_false,decide_false];by_cases j:i>0
  ·have p:=zd1.1 m (i - 1) i oM e oM;rw[bd oM];simp;omega
  ·simp[j]
 have e4:c.sides.any cj=false:=by
  rw[zk6];intro x q
  rcases n x q with h | h <;> simp[cj,h]
 have e5:(decide (c.dim=1)&&decide (nG c.sides≠0))=false:=by
  by_cases hd:c.dim=1
  ·rw[o hd];simp
  ·simp[hd]
 unfold dj;rw[e1,k,e3,e4,e5];rfl
section
variable {A B:List<|List Int}(hA:i4 A)(hB:i4 B)
include hA hB
end
section
variable {A B:List<|List Int}(hA:i4 A)(hB:i4 B)
include hA hB
end
structure Few (a:List Cl)(A:List<|List Int):Prop where
 good:i4 A
 cells:a=A.map (ju A)
 small:∀ s∈A,s.length≤3
 few:A.length≤14
end Go.Proofs.YtpmoadbbfobbcaaGreatDoor
