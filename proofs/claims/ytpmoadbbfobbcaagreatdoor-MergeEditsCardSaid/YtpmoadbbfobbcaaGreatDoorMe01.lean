/- 1 -/
import Derived.OrdersHeld
import Derived.Tactics
import Derived.Below
import Derived.IntWalk
import Derived.Laws.AppendOwn
import Derived.Lib.SliceRun
import Derived.Laws.StructEq
import Derived.Laws.Tables
set_option linter.unusedSimpArgs false
set_option linter.unusedVariables false
set_option linter.defProp false
namespace Go.Sy
open Go
variable {x y:Operand}{T ty e S:TypeId}{v z:Value}{E w:World}{i N k b d id t j bytes:Nat}{pos:String}{af:Array Edge}{P:Program}{n m:Int}{op:Op}{p:Prop}{gd:Option<|Nat×Bool}{c:Code}{cs:Array Value}{xs vs:List Value}{Q:Exit→Act→World→Prop}{ops:Array Oper}{l rest:List Oper}{tail:List Nat}{dst:Option Tmp}{a:Act}{plan:List<|Nat×Nat}{fn:Func}{L:Array Bool}
theorem oM (h:p:=by omega):p:=h
theorem dO (h:p:=by simp):p:=h
theorem io (h:p:=by assumption):p:=h
theorem dC (h:p:=by decide):p:=h
theorem lN (h:p:=by (first | with_reducible rfl | ((try dsimp only);(try simp only[List.length_append,List.length_cons,List.length_nil,List.length_singleton,List.length_take,List.length_drop])<;>omega))):p:=h
theorem mI (h:p:=by repeat' (first | exact trivial | refine⟨.inl rfl,?_⟩ | refine⟨.inr rfl,?_⟩)):p:=h
theorem I {α:Sort _}{a:α}:a=a:=rfl
theorem sB (h:p:=by repeat' (first | exact trivial | refine And.intro rfl ?_)):p:=h
abbrev Fr:=List<|Nat×Value
def aU:Fr→Nat→Option Value
 | [],_=>none
 | (k,v)::r,t=>if k=t then some v else aU r t
def ev (f:Fr):Operand→Option Value
 | .tmp t=>aU f t
 | .const v=>some v
 | .global g=>some<|.pointer<|some ⟨g,0,none⟩
 | .func n=>some<|.func (.func n) #[] #[]
structure Ok (N:Nat)(f:Fr)(a:Act):Prop where
 defers:a.defers=[]
 size:a.tmps.size=N
 at_:∀ t v,aU f t=some v→a.tmps.getD t undef=v
variable {f f':Fr}
theorem Ok.ev (h:Ok N f a)(b:Sy.ev f x=some v):a.eval x=v:=by
 cases x with
 | tmp t=>exact h.at_ t v b
 | const c=>simpa [Sy.ev,Act.eval] using b
 | global g=>simpa [Sy.ev,Act.eval] using b
 | func n=>simpa [Sy.ev,Act.eval] using b
theorem Ok.put (h:Ok N f a)(c:d<N)(v:Value):Ok N ((d,v)::f)<|a.put (some d) v:=by
 refine⟨h.defers,by simp[Act.put,h.size],fun t u b=>?_⟩;simp only[aU] at b;by_cases e:d=t
 ·subst e;rw[if_pos rfl] at b;injection b with b
  subst b;simp[Act.put,h.size,c]
 ·rw[if_neg e] at b;have:=h.at_ t u b;simpa [Act.put,Array.getElem?_setIfInBounds_ne e] using this
def Sub:Fr→Fr→Prop
 | [],_=>True
 | (t,v)::r,f=>aU f t=some v∧Sub r f
theorem Sub.get {g:Fr}(h:Sub g f):∀ t v,aU g t=some v→aU f t=some v:=by
 induction g with
 | nil=>intro t v a;simp[aU] at a
 | cons p r ih =>
  obtain ⟨k,u⟩:=p;intro t v a;simp only[aU] at a;by_cases b:k=t
  ·subst b;rw[if_pos rfl] at a;injection a with a
   subst a;exact h.1
  ·rw[if_neg b] at a;exact ih h.2 t v a
theorem Ok.sub {g:Fr}(h:Ok N f a)(b:Sub g f):Ok N g a :=
 ⟨h.defers,h.size,fun t v c=>h.at_ t v<|b.get t v c⟩
abbrev PH:=Nat→Option Obj
def Le (g g':PH):Prop:=∀ b o,g b=some o→g' b=some o
theorem Le.refl (g:PH):Le g g:=fun _ _ h=>h
variable {g g' g0:PH}
theorem Le.trans {a:PH}(h:Le g g')(k:Le g' a):Le g a:=fun b o e=>k b o<|h b o e
structure Ent where
 blk:Option Nat
 holds:Option Obj→Prop
abbrev Own:=List Ent
def pt (b:Nat)(o:Obj):Ent:=⟨some b,fun x=>x=some o⟩
def re (e e':Ent):Prop:=∀ b,e.blk=some b→e'.blk≠some b
structure At (E:World)(g:PH)(s:Own)(w:World):Prop where
 os:w.os=E.os
 tape:w.tape=E.tape∧E.drawn≤w.drawn
 output:w.output=E.output
 known:∀ b o,g b=some o→w.heap[b]?=some o
 own:∀ e∈s,e.holds (e.blk.bind fun b=>w.heap[b]?)
 fresh:∀ e∈s,∀ b,e.blk=some b→g b=none∧b<w.heap.size
 apart:s.Pairwise re
variable {s s' s0:Own}{R:Value→PH→Own→Prop}{e':Ent}
theorem At.drew (h:At E g s w)(n:Nat)(hn:w.drawn≤n):At E g s { w with drawn:=n } :=
 ⟨h.os,⟨h.tape.1,Nat.le_trans h.tape.2 hn⟩,h.output,h.known,h.own,h.fresh,h.apart⟩
theorem At.lt (h:At E g s w){o:Obj}(hb:g b=some o):b<w.heap.size:=by
 have:=h.known b o hb;exact (Array.getElem?_eq_some_iff.1 this).1
theorem At.sublist (h:At E g s w)(a:s'.Sublist s):At E g s' w :=
 ⟨h.os,h.tape,h.output,h.known,fun e b=>h.own e<|a.subset b,fun e b=>h.fresh e<|a.subset b,h.apart.sublist a⟩
theorem re.symm {e:Ent}(h:re e e'):re e' e:=fun b hb a=>h b a hb
theorem At.perm (h:At E g s w)(a:s.Perm s'):At E g s' w :=
 ⟨h.os,h.tape,h.output,h.known,fun e b=>h.own e<|a.mem_iff.2 b,fun e b=>h.fresh e<|a.mem_iff.2 b,(a.pairwise_iff<|fun h=>h.symm).1 h.apart⟩
theorem At.less (h:At E g' s w)(hl:Le g g'):At E g s w:=by
 refine⟨h.os,h.tape,h.output,fun b o hb=>h.known b o<|hl b o hb,h.own,fun e a b hb=>⟨?_,(h.fresh e a b hb).2⟩,h.apart⟩;cases hg:g b with
 | none=>rfl
 | some o=>have:=hl b o hg;rw[(h.fresh e a b hb).1] at this;cases this
def upd (g:PH)(b:Nat)(o:Obj):PH:=fun k=>if k=b then some o else g k
theorem FD {o:Obj}(h:g b=none):Le g<|upd g b o:=fun k x a=>by
 unfold upd;split
 ·rename_i e;subst e;rw[h] at a;cases a
 ·exact a
theorem fw (g:PH)(b:Nat)(o:Obj):upd g b o b=some o:=by simp[upd]
theorem At.freeze {e:Ent}(h:At E g (e::s) w){o:Obj}(hb:e.blk=some b)(i:w.heap[b]?=some o) :
  At E (upd g b o) s w∧Le g (upd g b o):=by
 have j:=h.fresh e (by simp) b hb;refine⟨⟨h.os,h.tape,h.output,fun k x a=>?_,fun e' c=>h.own e'<|by simp[c],fun e' c k a=>⟨?_,(h.fresh e' (by simp[c]) k a).2⟩,(List.pairwise_cons.1 h.apart).2⟩,FD j.1⟩
 ·unfold upd at a;split at a
  ·rename_i d;subst d;injection a with a;subst a;exact i
  ·exact h.known k x a
 ·have f:k≠b:=fun d=>by
   subst d;exact (List.pairwise_cons.1 h.apart).1 e' c k hb a
  simp only[upd,f,if_false];exact (h.fresh e' (by simp[c]) k a).1
section
variable (P:Program)(N:Nat)(E:World)
def SC (c:Code)(Q:Exit→Act→World→Prop)(f:Fr)(g:PH)(s:Own):Prop:=∀ a w,Ok N f a→At E g s w→c.wp P Q a w
def ST (Q:Exit→Act→World→Prop)(e:Exit)(f:Fr)(g:PH)(s:Own):Prop:=∀ a w,Ok N f a→At E g s w→Q e a w
def SL (ops:Array Oper)(Q:Exit→Act→World→Prop)(l:List Oper)(f:Fr)(g:PH)(s:Own):Prop:=∀ a w,Ok N f a→At E g s w→wpList P ops Q l a w
def SU (o:Oper)(f:Fr)(v:Value):Prop:=∀ a w,Ok N f a→(execOp a.eval o).run P w = .ok (.value v) w
def SQ (o:Oper)(f:Fr)(g:PH)(s:Own)(v:Value):Prop:=∀ a w,Ok N f a→At E g s w→(execOp a.eval o).run P w = .ok (.value v) w
def SO (o:Oper)(f:Fr)(g:PH)(s:Own)(K:Value→PH→Own→Prop):Prop :=
 ∀ a w,Ok N f a→At E g s w→∀ (Q:Exit→Act→World→Prop) (next:Act→World→Prop),
  (∀ v g' s' w',K v g' s'→At E g' s' w'→next (a.put o.dst v) w')→o.wp P a w next Q
def Ctr (n:FuncId)(args:Array Value)(g:PH)(s:Own)(R:Value→PH→Own→Prop):Prop :=
 ∀ w,At E g s w→Calls P n args w fun e w'=>∃ v g' s',e = .returned v∧At E g' s' w'∧R v g' s'
end
def nI (E:World)(R:Value→PH→Own→Prop):Ending→World→Prop:=fun e w'=>∃ v g' s',e = .returned v∧At E g' s' w'∧R v g' s'
theorem SU.sq {o:Oper}(h:SU P N o f v):SQ P N E o f g s v:=fun a w b _=>h a w b
theorem Ctr.mono {n:FuncId}{args:Array Value}{R':Value→PH→Own→Prop}(h:Ctr P E n args g s R)
  (hr:∀ v g' s',R v g' s'→R' v g' s'):Ctr P E n args g s R' :=
 fun w a=>(h w a).mono fun _ _ ⟨v,g',s',b,c,d⟩=>⟨v,g',s',b,c,hr _ _ _ d⟩
theorem SC.sub (b:Sub f' f)(h:SC P N E c Q f' g s):SC P N E c Q f g s:=fun a w d e=>h a w (d.sub b) e
theorem SC.drop (b:s'.Sublist s)(h:SC P N E c Q f g s'):SC P N E c Q f g s:=fun a w d e=>h a w d<|e.sublist b
theorem SC.perm (b:s.Perm s')(h:SC P N E c Q f g s'):SC P N E c Q f g s:=fun a w d e=>h a w d<|e.perm b
theorem ST.drop {e:Exit}(b:s'.Sublist s)(h:ST N E Q e f g s'):ST N E Q e f g s:=fun a w c d=>h a w c<|d.sublist b
theorem ST.perm {e:Exit}(b:s.Perm s')(h:ST N E Q e f g s'):ST N E Q e f g s:=fun a w c d=>h a w c<|d.perm b
theorem SC.skip (h:ST N E Q .normal f g s):SC P N E .skip Q f g s:=fun a w b c=>wp_skip<|h a w b c
theorem SC.ret (h:ST N E Q .ret f g s):SC P N E .ret Q f g s:=fun a w b c=>wp_ret<|h a w b c
theorem SC.exit (h:ST N E Q (.exit id) f g s):SC P N E (.exit id) Q f g s:=fun a w b c=>wp_exit<|h a w b c
theorem SC.label {l:Nat}(h:ST N E Q .normal f g s):SC P N E (.label l) Q f g s:=fun a w b c=>wp_label<|h a w b c
theorem SC.seq {x y:Code}(h:SC P N E x (Exit.then (y.wp P Q) Q) f g s):SC P N E (.seq x y) Q f g s:=fun a w b c=>wp_seq<|h a w b c
theorem SC.block (h:SC P N E c (Exit.inBlock id Q) f g s):SC P N E (.block id c) Q f g s:=fun a w b d=>wp_block<|h a w b d
theorem SC.cond {c:Operand}{x y:Code}{t:Bool}(hc:ev f c=some (.bool t))(h:SC P N E (if t then x else y) Q f g s):SC P N E (.cond c x y) Q f g s :=
 fun a w b d=>wp_cond (b.ev hc)<|h a w b d
theorem SC.condT {c:Operand}{x y:Code}(hc:ev f c=some (.bool true))(h:SC P N E x Q f g s):SC P N E (.cond c x y) Q f g s:=SC.cond hc h
theorem SC.condF {c:Operand}{x y:Code}(hc:ev f c=some (.bool false))(h:SC P N E y Q f g s):SC P N E (.cond c x y) Q f g s:=SC.cond hc h
theorem SC.ifB {c:Operand}{x y:Code}{t:Bool}(hc:ev f c=some (.bool t))(a:t=true→SC P N E x Q f g s)(b:t=false→SC P N E y Q f g s) :
  SC P N E (.cond c x y) Q f g s:=by
 cases t
 ·exact SC.condF hc<|b I
 ·exact SC.condT hc<|a I
theorem SC.ifP {c:Operand}{x y:Code}[Decidable p](hc:ev f c=some (.bool<|decide p))(a:p→SC P N E x Q f g s)(b:¬ p→SC P N E y Q f g s) :
  SC P N E (.cond c x y) Q f g s :=
 SC.ifB hc (fun h=>a<|of_decide_eq_true h) fun h=>b<|of_decide_eq_false h
theorem ST.thenN (h:SC P N E c Q f g s):ST N E (Exit.then (c.wp P Q) Q) .normal f g s:=h
theorem ST.thenX {K:Act→World→Prop}(h:ST N E Q (.exit id) f g s):ST N E (Exit.then K Q) (.exit id) f g s:=h
theorem ST.thenR {K:Act→World→Prop}(h:ST N E Q .ret f g s):ST N E (Exit.then K Q) .ret f g s:=h
theorem ST.blockN (h:ST N E Q .normal f g s):ST N E (Exit.inBlock id Q) .normal f g s:=h
theorem ST.blockR (h:ST N E Q .ret f g s):ST N E (Exit.inBlock id Q) .ret f g s:=h
theorem ST.blockX (h:ST N E Q .normal f g s):ST N E (Exit.inBlock id Q) (.exit id) f g s:=fun a w b c=>by
 simpa [Exit.inBlock] using h a w b c
theorem ST.blockO (b:j≠id)(h:ST N E Q (.exit j) f g s):ST N E (Exit.inBlock id Q) (.exit j) f g s:=fun a w c d=>by
 simpa [Exit.inBlock,b] using h a w c d
def Mid {ι:Type}(N:Nat)(E:World)(F:ι→Fr)(G:ι→PH)(S:ι→Own)(J:ι→Prop)(a:Act)(w:World):Prop:=∃ i,Ok N (F i) a∧At E (G i) (S i) w∧J i
theorem SC.cut {ι:Type}{x y:Code}(F:ι→Fr)(G:ι→PH)(S:ι→Own)(J:ι→Prop)(b:SC P N E x (Exit.then (Mid N E F G S J) Q) f g s)
  (c:∀ i,J i→SC P N E y Q (F i) (G i) (S i)):SC P N E (.seq x y) Q f g s:=by
 refine SC.seq fun a w d j=>Code.wp_mono (fun e k w' h=>?_)<|b a w d j;cases e <;> first | exact h | (obtain ⟨i,l,m,n⟩:=h;exact c i n k w' l m)
theorem ST.mid {ι:Type}{F:ι→Fr}{G:ι→PH}{S:ι→Own}{J:ι→Prop}(i:ι)(a:Sub (F i) f)(hg:G i=g)(b:S i=s)(c:J i) :
  ST N E (Exit.then (Mid N E F G S J) Q) .normal f g s:=fun _ _ d e=>⟨i,d.sub a,by rw[hg,b];exact e,c⟩
def G9 {ι:Type}(N:Nat)(E:World)(F:ι→Fr)(G:ι→PH)(S:ι→Own)(J:ι→Prop)(μ:ι→Nat)(i:ι)(a:Act)(w:World):Prop :=
 ∃ j,Ok N (F j) a∧At E (G j) (S j) w∧J j∧μ j<μ i
theorem ST.again {ι:Type}{F:ι→Fr}{G:ι→PH}{S:ι→Own}{J:ι→Prop}{μ:ι→Nat}{i:ι}(j:ι)(a:Sub (F j) f)(hg:G j=g)(b:S j=s)(c:J j)(d:μ j<μ i) :
  ST N E (Exit.then (G9 N E F G S J μ i) Q) .normal f g s:=fun _ _ e k=>⟨j,e.sub a,by rw[hg,b];exact k,c,d⟩
theorem SC.loop {ι:Type}(F:ι→Fr)(G:ι→PH)(S:ι→Own)(J:ι→Prop)(μ:ι→Nat)(i:ι)(A:Sub (F i) f)(hg:G i=g)(B:S i=s)(C:J i)
  (round:∀ i,J i→SC P N E c (Exit.then (G9 N E F G S J μ i) Q) (F i) (G i) (S i)):SC P N E (.loop c) Q f g s:=by
 intro a w r D;have key:∀ n,∀ (i:ι) (a:Act) (w:World),μ i=n→Ok N (F i) a→At E (G i) (S i) w→J i→∀ (b:Frame) (k:List Item) (cs:List Frame),
   ∃ e q w',Q e q w'∧Arrives P (lone (b.at a<|.code c :: .inLoop c::k) cs w) b k cs e q w':=by
  intro n;induction n using Nat.strongRecOn with
  | _ n ih =>
   intro i a w hn r H K b k cs;obtain ⟨e,o,p,hq,d⟩:=round i K a w r H b (.inLoop c::k) cs;cases e with
   | normal =>
    obtain ⟨j,t,u,v,y⟩:=hq;obtain ⟨L,M,O,z,m⟩:=ih (μ j) (hn ▸ y) j o p rfl t u v b k cs;exact⟨L,M,O,z,.of_steps (Steps.trans d<|.one step_inLoop) m⟩
   | exit id=>exact⟨_,o,p,hq,.pass (x:=.inLoop c) rfl (fun _ _=>.inl<|by simp) d⟩
   | goto l=>exact⟨_,o,p,hq,.pass (x:=.inLoop c) rfl (fun _ _=>.inl<|by simp) d⟩
   | ret=>exact⟨_,o,p,hq,.pass (x:=.inLoop c) rfl (fun _ _=>.inl<|by simp) d⟩
   | panic ch=>exact⟨_,o,p,hq,.pass (x:=.inLoop c) rfl (fun _ _=>.inl<|by simp) d⟩
   | outgrown=>exact⟨_,o,p,hq,.pass (x:=.inLoop c) rfl (fun _ _=>.inl<|by simp) d⟩
 intro b k cs;obtain ⟨e,q,w',hq,d⟩:=key _ i a w rfl (r.sub A) (by rw[hg,B];exact D) C b k cs;exact⟨e,q,w',hq,.of_steps (.one step_loop) d⟩
def m9:Nat→List Value→Fr
 | _,[]=>[]
 | k,v::r=>(k,v)::m9 (k+1) r
theorem kM:∀ (l:List Value) (k t:Nat) (v:Value),aU (m9 k l) t=some v→k≤t∧l[t - k]?=some v
 | [],_,_,_,h=>by simp[m9,aU] at h
 | u::r,k,t,v,h=>by
  simp only[m9,aU] at h;by_cases a:k=t
  ·subst a;rw[if_pos rfl] at h;exact⟨Nat.le_refl _,by simpa using h⟩
  ·rw[if_neg a] at h;obtain ⟨c,b⟩:=kM r (k+1) t v h;refine⟨by omega,?_⟩;have:t - k=(t - (k+1))+1:=by omega
   rw[this];simpa using b
theorem Ctr.of {n:FuncId}{args:List Value}
  (d:P.funcs[n]?=some fn) (hb:fn.body=some c) (e:fn.ntmps=N) (f:args.length≤N)
  (h:SC P N E c (bodyPost P fn<|nI E R) (m9 0 args) g s):Ctr P E n args.toArray g s R:=by
 intro w i;refine calls_of_wp d hb<|h _ w ⟨I,?_,fun t v j=>?_⟩ i
 ·simp[e];omega
 ·obtain ⟨_,a⟩:=kM args 0 t v j;have b:t<args.length:=(List.getElem?_eq_some_iff.1<|by simpa using a).1;simp only[Nat.sub_zero] at a;obtain ⟨_,k⟩:=List.getElem?_eq_some_iff.1 a;simp[Array.getElem?_append,b,k]
section
variable {e:Exit}
theorem ST.returnsV (j:e = .ret∨e = .normal)
  (hr:∀ (tmps:Array Value) (w:World),(∀ t v,aU f t=some v→tmps.getD t undef=v)→At E g s w→(results fn tmps).run P w = .ok v w) (d:R v g s) :
  ST N E (bodyPost P fn<|nI E R) e f g s:=by
 intro a w b c;have i:=hr a.tmps w b.at_ c
 rcases j with rfl | rfl
 ·exact⟨b.defers,v,i,v,g,s,I,c,d⟩
 ·exact⟨b.defers,v,i,v,g,s,I,c,d⟩
theorem ST.ret1 (a:e = .ret∨e = .normal)(hr:fn.results = #[.tmp t])(b:aU f t=some v)(c:R v g s):ST N E (bodyPost P fn<|nI E R) e f g s :=
 ST.returnsV a (fun tmps w d _=>by rw[results_tmp hr,d t v b]) c
theorem ST.ret0 (a:e = .ret∨e = .normal)(hr:fn.results = #[])(b:R (.tuple #[]) g s):ST N E (bodyPost P fn<|nI E R) e f g s :=
 ST.returnsV a (fun _ _ _ _=>results_none hr _ _ _) b
theorem ST.ret2 {u:Nat}{x:Value}(b:e = .ret∨e = .normal)(hr:fn.results = #[.tmp t,.tmp u])(c:aU f t=some v)(d:aU f u=some x)(i:R (.tuple #[v,x]) g s) :
  ST N E (bodyPost P fn<|nI E R) e f g s :=
 ST.returnsV b (fun tmps w a _=>by rw[results_tmp2 hr,a t v c,a u x d]) i
end
def cP:=@SC.perm
def dR:=@ST.drop
def kP:=@SC.skip
def rE:=@SC.ret
def xI:=@SC.exit
def sQ:=@SC.seq
def bK:=@SC.block
def iQ:=@SC.ifB
def iP:=@SC.ifP
def tN:=@ST.thenN
def tX:=@ST.thenX
def tR:=@ST.thenR
def bN:=@ST.blockN
def bR:=@ST.blockR
def bX:=@ST.blockX
def oP:=@SC.loop
def IW:=@At.perm
def Iq:=@ST.ret2
def Iv:=@ST.ret0
def Jk:=@SC.drop
def ct:=@ST.again
def kc:=@Le.trans
def lu:=@SC.cut
def Gd (N:Nat)(ops:Array Oper)(f:Fr)(o:Oper)(t:Bool):Prop:=∀ a,Ok N f a→Region.wanted o (yielded ops a.tmps)=t
section
variable {o:Oper}
theorem Gd.none (h:o.guard=none):Gd N ops f o true:=fun _ _=>by simp[Region.wanted,h]
theorem Gd.on {b c:Bool}(h:o.guard=some (j,b))(k:((ops[j]?).bind fun o:Oper=>o.dst)=some t)(l:aU f t=some (.bool c))(m:t<N):Gd N ops f o<|c == b:=by
 intro a i;have d:t<a.tmps.size:=by rw[i.size];exact m
 have g:=i.at_ t _ l;have e:a.tmps[t]?=some (.bool c):=by
  rw[Array.getElem?_eq_getElem d];simpa [d] using g
 simp only[Region.wanted,h];unfold yielded;simp only[k,Option.bind_some,e];cases c <;> cases b <;> rfl
theorem Gd.onT {b:Bool}(h:o.guard=some (j,b))(a:((ops[j]?).bind fun o:Oper=>o.dst)=some t)(c:aU f t=some (.bool b))(d:t<N):Gd N ops f o true:=by
 have:=Gd.on (N:=N) h a c d;simpa using this
theorem Gd.onF {b:Bool}(h:o.guard=some (j,b))(a:((ops[j]?).bind fun o:Oper=>o.dst)=some t)(c:aU f t=some (.bool<|!b))(d:t<N):Gd N ops f o false:=by
 have:=Gd.on (N:=N) h a c d;cases b <;> simpa using this
theorem Gd.off {b:Bool}(h:o.guard=some (j,b))(i:((ops[j]?).bind fun o:Oper=>o.dst)=some t)(k:aU f t=some undef)(l:t<N):Gd N ops f o false:=by
 intro a g;have c:t<a.tmps.size:=by rw[g.size];exact l
 have e:=g.at_ t _ k;have d:a.tmps[t]?=some undef:=by
  rw[Array.getElem?_eq_getElem c];simpa [c] using e
 simp only[Region.wanted,h];unfold yielded;simp only[i,Option.bind_some,d];cases b <;> rfl
end
theorem SL.drop (b:s'.Sublist s)(h:SL P N E ops Q l f g s'):SL P N E ops Q l f g s:=fun a w c d=>h a w c<|d.sublist b
theorem SC.region (h:SL P N E l.toArray Q l f g s):SC P N E (.region id l.toArray false) Q f g s:=fun a w b c=>wp_region_lit<|h a w b c
theorem SL.nil (h:ST N E Q .normal f g s):SL P N E ops Q [] f g s:=fun a w b c=>wpList_nil<|h a w b c
theorem SL.gq (c:Gd N ops f ⟨some d,op,ty,pos,af,gd⟩ true)
  (hq:SQ P N E ⟨some d,op,ty,pos,af,gd⟩ f g s v) (hd:d<N) (h:SL P N E ops Q rest ((d,v)::f) g s):SL P N E ops Q (⟨some d,op,ty,pos,af,gd⟩::rest) f g s:=by
 intro a w b hm;unfold wpList;rw[if_pos<|c a b];refine .inl ?_;unfold Oper.wp;rw[hq a w b hm];exact h _ w (b.put hd v) hm
theorem SL.q
  (hq:SQ P N E ⟨some d,op,ty,pos,af,none⟩ f g s v) (hd:d<N) (h:SL P N E ops Q rest ((d,v)::f) g s):SL P N E ops Q (⟨some d,op,ty,pos,af,none⟩::rest) f g s :=
 SL.gq (Gd.none rfl) hq hd h
theorem SL.gu (a:Gd N ops f ⟨some d,op,ty,pos,af,gd⟩ true)
  (hq:SU P N ⟨some d,op,ty,pos,af,gd⟩ f v) (hd:d<N) (h:SL P N E ops Q rest ((d,v)::f) g s):SL P N E ops Q (⟨some d,op,ty,pos,af,gd⟩::rest) f g s:=SL.gq a hq.sq hd h
theorem SL.u
  (hq:SU P N ⟨some d,op,ty,pos,af,none⟩ f v) (hd:d<N) (h:SL P N E ops Q rest ((d,v)::f) g s):SL P N E ops Q (⟨some d,op,ty,pos,af,none⟩::rest) f g s:=SL.q hq.sq hd h
theorem SL.go {K:Value→PH→Own→Prop}(e:Gd N ops f ⟨some d,op,ty,pos,af,gd⟩ true)
  (i:SO P N E ⟨some d,op,ty,pos,af,gd⟩ f g s K) (hd:d<N) (h:∀ v g' s',K v g' s'→SL P N E ops Q rest ((d,v)::f) g' s'):SL P N E ops Q (⟨some d,op,ty,pos,af,gd⟩::rest) f g s:=by
 intro a w b hm;unfold wpList;rw[if_pos<|e a b];exact .inl (i a w b hm Q _ fun v g' s' w' j c=>h v g' s' j _ w' (b.put hd v) c)
theorem SL.o {K:Value→PH→Own→Prop}
  (a:SO P N E ⟨some d,op,ty,pos,af,none⟩ f g s K) (hd:d<N) (h:∀ v g' s',K v g' s'→SL P N E ops Q rest ((d,v)::f) g' s'):SL P N E ops Q (⟨some d,op,ty,pos,af,none⟩::rest) f g s :=
 SL.go (Gd.none rfl) a hd h
theorem SL.gon {K:Value→PH→Own→Prop}(d:Gd N ops f ⟨none,op,ty,pos,af,gd⟩ true)
  (e:SO P N E ⟨none,op,ty,pos,af,gd⟩ f g s K) (h:∀ v g' s',K v g' s'→SL P N E ops Q rest f g' s'):SL P N E ops Q (⟨none,op,ty,pos,af,gd⟩::rest) f g s:=by
 intro a w b hm;unfold wpList;rw[if_pos<|d a b];exact .inl (e a w b hm Q _ fun v g' s' w' i c=>h v g' s' i _ w' b c)
theorem SL.on {K:Value→PH→Own→Prop}
  (a:SO P N E ⟨none,op,ty,pos,af,none⟩ f g s K) (h:∀ v g' s',K v g' s'→SL P N E ops Q rest f g' s'):SL P N E ops Q (⟨none,op,ty,pos,af,none⟩::rest) f g s :=
 SL.gon (Gd.none rfl) a h
theorem SL.off (c:Gd N ops f ⟨some d,op,ty,pos,af,gd⟩ false)
  (hd:d<N) (h:SL P N E ops Q rest ((d,undef)::f) g s):SL P N E ops Q (⟨some d,op,ty,pos,af,gd⟩::rest) f g s:=by
 intro a w b hm;unfold wpList;rw[if_neg<|by rw[c a b];simp];exact h _ w (b.put hd undef) hm
theorem SQ.so {o:Oper}(h:SQ P N E o f g s v):SO P N E o f g s fun v' g' s'=>v'=v∧g'=g∧s'=s:=by
 intro a w b hm Q next hn;unfold Oper.wp;rw[h a w b hm];exact hn v g s w ⟨I,I,I⟩ hm
class Quiet (Q:Exit→Act→World→Prop):Prop where
 out:∀ c a a' w,a.defers=a'.defers→Q (.panic c) a w→Q (.panic c) a' w
instance quiet_then {K:Act→World→Prop}{Q:Exit→Act→World→Prop}[h:Quiet Q]:Quiet<|Exit.then K Q:=⟨fun c a a' w hd hq=>h.out c a a' w hd hq⟩
instance quiet_block {id:Nat}{Q:Exit→Act→World→Prop}[h:Quiet Q]:Quiet<|Exit.inBlock id Q:=⟨fun c a a' w hd hq=>h.out c a a' w hd hq⟩
instance quiet_body {P:Program}{fn:Func}{R:Ending→World→Prop}:Quiet<|bodyPost P fn R:=⟨fun _ _ _ _ hd hq=>⟨hd ▸ hq.1,hq.2⟩⟩
def fW (tail:List Nat)(L:Array Bool):Bool:=tail.any fun j=>L.getD j false
def lp (P:Program)(ops:Array Oper)(Q:Exit→Act→World→Prop)(S:World→Prop)(tail:List Nat):Nat→Array Bool→Act→World→Prop
 | 0,L,a,w=>Region.ready .any ops L=[]∧Q .normal a w
 | n+1,L,a,w=>(Region.ready .any ops L=[]→Q .normal a w) ∧
  ∀ i∈Region.ready .any ops L,wpOp P ops Q i (fun a' w'=>(fW tail (L.setIfInBounds i true)=false→S w')∧lp P ops Q S tail n (L.setIfInBounds i true) a' w') a w
section
variable {S:World→Prop}
theorem jg:∀ (n:Nat) (L:Array Bool) (a:Act) (w:World),lp P ops Q S tail n L a w→wpAny P .any ops Q n L a w
 | 0,_,_,_,h=>h
 | n+1,_,_,_,h=>⟨h.1,fun i b=>wpOp_mono (fun c w' d=>jg n _ c w' d.2)<|h.2 i b⟩
theorem eI (a:i ∉ tail):fW tail (L.setIfInBounds i true)=fW tail L:=by
 unfold fW;induction tail with
 | nil=>rfl
 | cons j t ih =>
  simp only[List.mem_cons,not_or] at a;simp only[List.any_cons,getD_set_ne false a.1,ih a.2]
def ni (ops:Array Oper)(L:Array Bool):Prop:=∀ (q:Nat) (oq:Oper),ops[q]?=some oq→L.getD q false=true→∀ e∈oq.after,Region.binds .any e=true→L.getD e.on false=true
theorem cz (h:ni ops L)(d:i∈Region.ready .any ops L):ni ops<|L.setIfInBounds i true:=by
 intro q oq hq hl e c hb;by_cases a:i=q
 ·subst a;obtain ⟨_,o,f,b⟩:=mem_ready.1 d;rw[f] at hq;injection hq with hq
  subst hq;exact getD_set_true<|b e c hb
 ·rw[getD_set_ne false a] at hl;exact getD_set_true<|h q oq hq hl e c hb
theorem jE (n:Nat):ni ops<|Array.replicate n false:=by
 intro q oq _ hl;exfalso
 rcases Nat.lt_or_ge q n with h | h
 ·simp[h] at hl
 ·simp[Nat.not_lt.2 h] at hl
def wx (ops:Array Oper):Nat→Nat→Nat→Bool
 | 0,_,_=>false
 | n+1,j,i=>match ops[j]? with
  | some oj=>oj.after.any fun e=>Region.binds .any e&&(e.on == i||wx ops n e.on i)
  | none=>false
theorem rS {L:Array Bool}{i:Nat}(hc:ni ops L)(f:L.getD i false=false):∀ (n j:Nat),wx ops n j i=true→j ∉ Region.ready .any ops L∧L.getD j false=false
 | 0,j,h=>by simp[wx] at h
 | n+1,j,h=>by
  unfold wx at h;split at h
  ·rename_i oj a;obtain ⟨e,g,hb⟩:=Array.any_eq_true'.1 h;simp only[Bool.and_eq_true,Bool.or_eq_true,beq_iff_eq] at hb;have b:L.getD e.on false=false:=by
    rcases hb.2 with d | d
    ·rw[d];exact f
    ·exact (rS hc f n e.on d).2
   refine⟨fun hr=>?_,?_⟩
   ·obtain ⟨_,o,k,c⟩:=mem_ready.1 hr;rw[k] at a;injection a with a
    subst a;have:=c e g hb.1;rw[b] at this;cases this
   ·cases hl:L.getD j false with
    | false=>rfl
    | true =>
     have:=hc j oj a hl e g hb.1;rw[b] at this;cases this
  ·cases h
theorem kF {q:Oper}(M:ops[i]?=some q)(m:∀ (j:Nat) (o:Oper) cs b,ops[j]?=some o→o.op ≠ .select cs b)
  (X:∀ c a w,Q (.panic c) (a.put q.dst v) w→Q (.panic c) a w) (N:i ∉ tail)
  (r:∀ j∈tail,∃ n,wx ops n j i=true) :
  ∀ (n:Nat) (L:Array Bool) (a:Act) (w:World),ni ops L →
   (∀ j s,ops[j]?=some s→j≠i→L.getD j true=false→(∀ e∈s.after,Region.binds .any e=true→e.on≠i)→q.apart ops s=true) →
   i∈Region.ready .any ops L→YieldsIf P ops S q v a→fW tail L=false→S w →
   lp P ops Q S tail n (L.setIfInBounds i true) (a.put q.dst v) w→lp P ops Q S tail (n+1) L a w:=by
 intro n;induction n with
 | zero =>
  intro L a w _ _ hr K hb z H;refine⟨fun h=>(by rw[h] at hr;cases hr),fun j y=>?_⟩;by_cases d:j=i
  ·subst d;exact K.wpOp M z ⟨fun _=>z,H⟩
  ·have:=ready_mono y d;rw[H.1] at this;cases this
 | succ n ih =>
  intro L a w A f hr K hb z H;refine⟨fun h=>(by rw[h] at hr;cases hr),fun j y=>?_⟩;by_cases d:j=i
  ·subst d;exact K.wpOp M z ⟨fun _=>z,H⟩
  ·have t:=H.2 j<|ready_mono y d;obtain ⟨p,s,u,B⟩:=mem_ready.1 y;have C:∀ e∈s.after,Region.binds .any e=true→e.on≠i:=fun e Y hb O=>by
    have t:=B e Y hb;have D:=(mem_ready.1 hr).1;rw[O] at t
    rcases Nat.lt_or_ge i L.size with x | x
    ·simp[x] at D t;rw[D] at t;cases t
    ·simp[Array.getElem?_eq_none x] at t
   have E:L.getD i false=false:=by
    have D:=(mem_ready.1 hr).1
    rcases Nat.lt_or_ge i L.size with x | x
    ·simpa [x] using D
    ·simp[Array.getElem?_eq_none x] at D
   have g:j ∉ tail:=fun g=>by
    obtain ⟨Z,R⟩:=r j g;exact (rS A E Z j R).1 y
   have h2:=wpOp_putIf u (f j s u d p C) (fun cs b=>m i q cs b M) (fun cs b=>m j s cs b u) X K t;have l:∀ k ok,ops[k]?=some ok→k≠i→(L.setIfInBounds j true).getD k true=false →
     (∀ e∈ok.after,Region.binds .any e=true→e.on≠i)→q.apart ops ok=true:=fun k ok hk T F U=>by
    refine f k ok hk T ?_ U;by_cases G:j=k
    ·subst G;exact p
    ·rw[getD_set_ne true G] at F;exact F
   have V:fW tail (L.setIfInBounds j true)=false:=by rw[eI g];exact hb
   refine wpOp_mono (fun a' w' W=>?_) h2;have J:S w':=W.2.1 (by rw[eI g,eI N];exact hb);refine⟨fun _=>J,ih (L.setIfInBounds j true) a' w' (cz A y) l (ready_mono hr<|Ne.symm d) W.1 V J ?_⟩;rw[Array.setIfInBounds_comm _ _ d];exact W.2.2
theorem iz {p:Oper}(D:ops[i]?=some p)(l:∀ (j:Nat) (o:Oper) cs b,ops[j]?=some o→o.op ≠ .select cs b)
  (O:∀ c a w,Q (.panic c) (a.put p.dst v) w→Q (.panic c) a w) (q:i ∉ tail) :
  ∀ (n:Nat) (L:Array Bool) (a:Act) (w:World),
   (∀ j r,ops[j]?=some r→j≠i→L.getD j true=false→(∀ e∈r.after,Region.binds .any e=true→e.on≠i)→p.apart ops r=true) →
   i∈Region.ready .any ops L→Yields P ops p v a→(fW tail L=false→S w) →
   lp P ops Q S tail n (L.setIfInBounds i true) (a.put p.dst v) w→lp P ops Q S tail (n+1) L a w:=by
 intro n;induction n with
 | zero =>
  intro L a w _ hr B E H;refine⟨fun h=>(by rw[h] at hr;cases hr),fun j C=>?_⟩;by_cases d:j=i
  ·subst d;exact B.wpOp D ⟨fun hb=>E<|by rwa [eI q] at hb,H⟩
  ·have:=ready_mono C d;rw[H.1] at this;cases this
 | succ n ih =>
  intro L a w f hr B E H;refine⟨fun h=>(by rw[h] at hr;cases hr),fun j C=>?_⟩;by_cases d:j=i
  ·subst d;exact B.wpOp D ⟨fun hb=>E<|by rwa [eI q] at hb,H⟩
  ·have s:=H.2 j<|ready_mono C d;obtain ⟨m,r,t,u⟩:=mem_ready.1 C;have x:∀ e∈r.after,Region.binds .any e=true→e.on≠i:=fun e R hb F=>by
    have s:=u e R hb;have N:=(mem_ready.1 hr).1;rw[F] at s
    rcases Nat.lt_or_ge i L.size with G | G
    ·simp[G] at N s;rw[N] at s;cases s
    ·simp[Array.getElem?_eq_none G] at s
   have T:=wpOp_put t (f j r t d m x) (fun cs b=>l i p cs b D) (fun cs b=>l j r cs b t) O B s;have g:∀ k ok,ops[k]?=some ok→k≠i→(L.setIfInBounds j true).getD k true=false →
     (∀ e∈ok.after,Region.binds .any e=true→e.on≠i)→p.apart ops ok=true:=fun k ok U J y K=>by
    refine f k ok U J ?_ K;by_cases z:j=k
    ·subst z;exact m
    ·rw[getD_set_ne true z] at y;exact y
   refine wpOp_mono (fun V w' M=>?_) T;have A:fW tail (L.setIfInBounds j true)=false→S w':=fun hb=>M.2.1 (by
    have e1:fW tail ((L.setIfInBounds i true).setIfInBounds j true)=fW tail (L.setIfInBounds j true):=by
     rw[Array.setIfInBounds_comm _ _<|Ne.symm d,eI q]
    rw[e1];exact hb)
   refine⟨A,ih (L.setIfInBounds j true) V w' g (ready_mono hr<|Ne.symm d) M.1 A ?_⟩;rw[Array.setIfInBounds_comm _ _ d];exact M.2.2
def mD (ops:Array Oper)(tail:List Nat)(i:Nat):Bool:=tail.all fun j=>wx ops 8 j i
theorem i6 (h:mD ops tail i=true):∀ j∈tail,∃ n,wx ops n j i=true:=by
 intro j a;unfold mD at h;rw[List.all_eq_true] at h;exact⟨8,h j a⟩
def jp (ops:Array Oper)(tail:List Nat):List (Nat×Nat)→Array Bool→Bool
 | [],L=>(Region.ready .any ops L).isEmpty
 | (i,2)::r,L=>(Region.ready .any ops L).contains i&&Region.free .any ops L i && !tail.contains i&&jp ops tail r (L.setIfInBounds i true)
 | (i,1)::r,L=>(Region.ready .any ops L).contains i&&Region.free .any ops L i&&mD ops tail i && !tail.contains i && !fW tail L&&jp ops tail r (L.setIfInBounds i true)
 | (i,_)::r,L=>(Region.ready .any ops L == [i])&&jp ops tail r (L.setIfInBounds i true)
def xM (ops:Array Oper)(tail:List Nat)(plan:List<|Nat×Nat):Bool :=
 Region.noSelect ops&&(plan.length == ops.size)&&jp ops tail plan (Array.replicate ops.size false)
end
section
variable (P:Program)(N:Nat)(E:World)(ops:Array Oper)(Q:Exit→Act→World→Prop)(g0:PH)(s0:Own)(tail:List Nat)
def SP (plan:List<|Nat×Nat)(f:Fr)(g:PH)(s:Own):Prop :=
 ∀ L a w,Region.noSelect ops=true→ni ops L→jp ops tail plan L=true→Ok N f a→At E g s w→(fW tail L=false→At E g0 s0 w)→lp P ops Q (At E g0 s0) tail plan.length L a w
end
theorem SC.draw (tail:List Nat)(plan:List<|Nat×Nat)(hm:P.follows .mixedOrders=true)(b:xM ops tail plan=true)
  (h:SP P N E ops Q g s tail plan f g s):SC P N E (.region id ops true) Q f g s:=by
 intro a w d c;unfold xM at b;simp only[Bool.and_eq_true,beq_iff_eq] at b;refine wp_region_any hm<|jg _ _ _ _ (S:=At E g s) (tail:=tail) ?_;have:=h (Array.replicate ops.size false) a { w with drawn:=w.drawn+1 } b.1.1 (jE _) b.2 d (c.drew _<|Nat.le_succ _) (fun _=>c.drew _<|Nat.le_succ _);rw[b.1.2] at this;exact this
theorem SP.drop (c:s'.Sublist s)(h:SP P N E ops Q g0 s0 tail plan f g s'):SP P N E ops Q g0 s0 tail plan f g s:=fun L a w d b e i j hb=>h L a w d b e i (j.sublist c) hb
theorem SP.nil (h:ST N E Q .normal f g s):SP P N E ops Q g0 s0 tail [] f g s:=by
 intro L a w _ _ hp b c _;simp only[jp,List.isEmpty_iff] at hp;exact⟨hp,h a w b c⟩
theorem dq (a:Act)(d:Nat)(v:Value):(a.put (some d) v).defers=a.defers:=rfl
theorem SP.gq [o:Quiet Q]{i d:Nat}{op:Op}{ty:TypeId}{pos:String}{af:Array Edge}{gd:Option<|Nat×Bool}{v:Value}(l:ops[i]?=some ⟨some d,op,ty,pos,af,gd⟩)
  (hg:Gd N ops f ⟨some d,op,ty,pos,af,gd⟩ true) (hq:SQ P N E ⟨some d,op,ty,pos,af,gd⟩ f g0 s0 v) (hd:d<N)
  (h:SP P N E ops Q g0 s0 tail plan ((d,v)::f) g s):SP P N E ops Q g0 s0 tail ((i,1)::plan) f g s:=by
 intro L a w m b hp e p hb;simp only[jp,Bool.and_eq_true,Bool.not_eq_true'] at hp;obtain ⟨⟨⟨⟨⟨n,q⟩,r⟩,t⟩,j⟩,u⟩:=hp;refine kF l (Region.noSelect_spec m) (fun c a w x=>o.out c _ _ w (dq a d v) x) (by simpa using t) (i6 r) _ L a w b (Region.free_spec l q) (by simpa using n)
  (.inl ⟨hg a e,fun w' k=>hq a w' e k⟩) j (hb j) ?_
 exact h _ _ w m (cz b<|by simpa using n) u (e.put hd v) p fun y=>hb j
theorem SP.q [b:Quiet Q]{i d:Nat}{op:Op}{ty:TypeId}{pos:String}{af:Array Edge}{v:Value}(a:ops[i]?=some ⟨some d,op,ty,pos,af,none⟩)
  (hq:SQ P N E ⟨some d,op,ty,pos,af,none⟩ f g0 s0 v) (hd:d<N)
  (h:SP P N E ops Q g0 s0 tail plan ((d,v)::f) g s):SP P N E ops Q g0 s0 tail ((i,1)::plan) f g s:=SP.gq a (Gd.none rfl) hq hd h
theorem SP.gu [o:Quiet Q]{i d:Nat}{op:Op}{ty:TypeId}{pos:String}{af:Array Edge}{gd:Option<|Nat×Bool}{v:Value}(l:ops[i]?=some ⟨some d,op,ty,pos,af,gd⟩)
  (hg:Gd N ops f ⟨some d,op,ty,pos,af,gd⟩ true) (hq:SU P N ⟨some d,op,ty,pos,af,gd⟩ f v) (hd:d<N)
  (h:SP P N E ops Q g0 s0 tail plan ((d,v)::f) g s):SP P N E ops Q g0 s0 tail ((i,2)::plan) f g s:=by
 intro L a w m e hp j p hb;simp only[jp,Bool.and_eq_true,Bool.not_eq_true'] at hp;obtain ⟨⟨⟨n,q⟩,r⟩,t⟩:=hp;have b:i ∉ tail:=by simpa using r
 refine iz l (Region.noSelect_spec m) (fun c a w u=>o.out c _ _ w (dq a d v) u) b _ L a w (Region.free_spec l q) (by simpa using n)
  (.inl ⟨hg a j,fun w'=>hq a w' j⟩) hb ?_
 exact h _ _ w m (cz e<|by simpa using n) t (j.put hd v) p (fun k=>hb<|by rwa [eI b] at k)
theorem SP.u [b:Quiet Q]{i d:Nat}{op:Op}{ty:TypeId}{pos:String}{af:Array Edge}{v:Value}(a:ops[i]?=some ⟨some d,op,ty,pos,af,none⟩)
  (hq:SU P N ⟨some d,op,ty,pos,af,none⟩ f v) (hd:d<N)
  (h:SP P N E ops Q g0 s0 tail plan ((d,v)::f) g s):SP P N E ops Q g0 s0 tail ((i,2)::plan) f g s:=SP.gu a (Gd.none rfl) hq hd h
theorem SP.off [o:Quiet Q]{i d:Nat}{op:Op}{ty:TypeId}{pos:String}{af:Array Edge}{gd:Option<|Nat×Bool}(k:ops[i]?=some ⟨some d,op,ty,pos,af,gd⟩)
  (hg:Gd N ops f ⟨some d,op,ty,pos,af,gd⟩ false) (hd:d<N)
  (h:SP P N E ops Q g0 s0 tail plan ((d,undef)::f) g s):SP P N E ops Q g0 s0 tail ((i,2)::plan) f g s:=by
 intro L a w l e hp m p hb;simp only[jp,Bool.and_eq_true,Bool.not_eq_true'] at hp;obtain ⟨⟨⟨n,q⟩,r⟩,t⟩:=hp;have b:i ∉ tail:=by simpa using r
 refine iz k (Region.noSelect_spec l) (fun c a w u=>o.out c _ _ w (dq a d undef) u) b _ L a w (Region.free_spec k q) (by simpa using n)
  (.inr ⟨hg a m,rfl⟩) hb ?_
 exact h _ _ w l (cz e<|by simpa using n) t (m.put hd undef) p (fun j=>hb<|by rwa [eI b] at j)
theorem SP.off1 [l:Quiet Q]{i d:Nat}{op:Op}{ty:TypeId}{pos:String}{af:Array Edge}{gd:Option<|Nat×Bool}(c:ops[i]?=some ⟨some d,op,ty,pos,af,gd⟩)
  (hg:Gd N ops f ⟨some d,op,ty,pos,af,gd⟩ false) (hd:d<N)
  (h:SP P N E ops Q g0 s0 tail plan ((d,undef)::f) g s):SP P N E ops Q g0 s0 tail ((i,1)::plan) f g s:=by
 intro L a w e b hp j k hb;refine SP.off c hg hd h L a w e b ?_ j k hb;simp only[jp,Bool.and_eq_true] at hp ⊢;exact⟨⟨⟨hp.1.1.1.1.1,hp.1.1.1.1.2⟩,hp.1.1.2⟩,hp.2⟩
theorem SP.step {o:Oper}{K:Value→PH→Own→Prop}(t:ops[i]?=some o)(hg:Gd N ops f o true)(u:SO P N E o f g s K)
  (c:i∈tail∨∀ v g' s',K v g' s'→Le g0 g'∧s0.Sublist s')
  (h:∀ v g' s' a,K v g' s'→Ok N f a→∃ f',Ok N f' (a.put o.dst v)∧SP P N E ops Q g0 s0 tail plan f' g' s'):SP P N E ops Q g0 s0 tail ((i,0)::plan) f g s:=by
 intro L a w x k hp l y hb;simp only[jp,Bool.and_eq_true,beq_iff_eq] at hp;refine⟨fun b=>(by rw[hp.1] at b;cases b),fun j m=>?_⟩;rw[hp.1] at m;simp only[List.mem_singleton] at m;subst m;unfold wpOp;simp only[t];rw[if_pos<|hg a l];refine .inl (u a w l y Q _ fun v g' s' w' r d=>?_);have e:fW tail (L.setIfInBounds j true)=false→At E g0 s0 w':=by
  intro b
  rcases c with c | c
  ·exfalso;have hr:j∈Region.ready .any ops L:=by rw[hp.1];simp
   have n:j<L.size:=by
    rcases Nat.lt_or_ge j L.size with p | p
    ·exact p
    ·have:=(mem_ready.1 hr).1;simp[Array.getElem?_eq_none p] at this
   unfold fW at b;rw[List.any_eq_false] at b;have:=b j c;simp[n] at this
  ·obtain ⟨z,A⟩:=c v g' s' r;exact (d.less z).sublist A
 obtain ⟨f',q,hn⟩:=h v g' s' a r l;exact⟨e,hn _ _ w' x (cz k<|by rw[hp.1];simp) hp.2 q d e⟩
theorem SP.o {K:Value→PH→Own→Prop}(a:ops[i]?=some ⟨some d,op,ty,pos,af,none⟩)
  (b:SO P N E ⟨some d,op,ty,pos,af,none⟩ f g s K) (hd:d<N) (c:i∈tail∨∀ v g' s',K v g' s'→Le g0 g'∧s0.Sublist s')
  (h:∀ v g' s',K v g' s'→SP P N E ops Q g0 s0 tail plan ((d,v)::f) g' s'):SP P N E ops Q g0 s0 tail ((i,0)::plan) f g s :=
 SP.step a (Gd.none rfl) b c fun v g' s' _ e j=>⟨_,j.put hd v,h v g' s' e⟩
theorem SP.on {K:Value→PH→Own→Prop}(a:ops[i]?=some ⟨none,op,ty,pos,af,none⟩)
  (b:SO P N E ⟨none,op,ty,pos,af,none⟩ f g s K) (c:i∈tail∨∀ v g' s',K v g' s'→Le g0 g'∧s0.Sublist s')
  (h:∀ v g' s',K v g' s'→SP P N E ops Q g0 s0 tail plan f g' s'):SP P N E ops Q g0 s0 tail ((i,0)::plan) f g s :=
 SP.step a (Gd.none rfl) b c fun v g' s' _ d e=>⟨f,e,h v g' s' d⟩
theorem SP.go {K:Value→PH→Own→Prop}(a:ops[i]?=some ⟨some d,op,ty,pos,af,gd⟩)
  (hg:Gd N ops f ⟨some d,op,ty,pos,af,gd⟩ true)
  (b:SO P N E ⟨some d,op,ty,pos,af,gd⟩ f g s K) (hd:d<N) (c:i∈tail∨∀ v g' s',K v g' s'→Le g0 g'∧s0.Sublist s')
  (h:∀ v g' s',K v g' s'→SP P N E ops Q g0 s0 tail plan ((d,v)::f) g' s'):SP P N E ops Q g0 s0 tail ((i,0)::plan) f g s :=
 SP.step a hg b c fun v g' s' _ e j=>⟨_,j.put hd v,h v g' s' e⟩
theorem SP.oq (e:ops[i]?=some ⟨some d,op,ty,pos,af,none⟩)
  (hq:SQ P N E ⟨some d,op,ty,pos,af,none⟩ f g s v) (hd:d<N) (a:i∈tail∨(Le g0 g∧s0.Sublist s))
  (h:SP P N E ops Q g0 s0 tail plan ((d,v)::f) g s):SP P N E ops Q g0 s0 tail ((i,0)::plan) f g s :=
 SP.o e hq.so hd (a.imp id fun a v g' s' ⟨_,b,c⟩=>by subst b;subst c;exact a) fun v' g' s' ⟨b,c,e3⟩=>by subst b;subst c;subst e3;exact h
theorem SP.ou (a:ops[i]?=some ⟨some d,op,ty,pos,af,none⟩)
  (hq:SU P N ⟨some d,op,ty,pos,af,none⟩ f v) (hd:d<N) (b:i∈tail∨(Le g0 g∧s0.Sublist s))
  (h:SP P N E ops Q g0 s0 tail plan ((d,v)::f) g s):SP P N E ops Q g0 s0 tail ((i,0)::plan) f g s:=SP.oq a hq.sq hd b h
theorem SP.offo (o:ops[i]?=some ⟨some d,op,ty,pos,af,gd⟩)
  (hg:Gd N ops f ⟨some d,op,ty,pos,af,gd⟩ false) (hd:d<N) (k:Le g0 g∧s0.Sublist s)
  (h:SP P N E ops Q g0 s0 tail plan ((d,undef)::f) g s):SP P N E ops Q g0 s0 tail ((i,0)::plan) f g s:=by
 intro L a w p c hp l m hb;simp only[jp,Bool.and_eq_true,beq_iff_eq] at hp;refine⟨fun n=>(by rw[hp.1] at n;cases n),fun j e=>?_⟩;rw[hp.1] at e;simp only[List.mem_singleton] at e;subst e;unfold wpOp;simp only[o];rw[if_neg<|by rw[hg a l];simp];have b:fW tail (L.setIfInBounds j true)=false→At E g0 s0 w:=fun _=>(m.less k.1).sublist k.2;exact⟨b,h _ _ w p (cz c<|by rw[hp.1];simp) hp.2 (l.put hd undef) m b⟩
def gT:=@Gd.onT
def gZ:=@Gd.onF
def rG:=@SC.region
def lO:=@SL.on
def dW:=@SC.draw
def pQ:=@SP.q
def vZ:=@SP.u
def fP:=@SP.off
def oQ:=@SP.oq
def oU:=@SP.ou
def fO:=@SP.offo
def By:=@SP.gq
def H8:=@SP.on
def IQ:=@SL.go
def IX:=@Gd.none
def It:=@SP.off1
def JD:=@SL.drop
def Jo:=@SP.go
def cp:=@SL.nil
def du:=@SP.nil
def lR:=@SL.gq
def mf:=@SP.o
abbrev pp (b o:Nat):Value:=.pointer<|some ⟨b,o,none⟩
abbrev vi (n:Int):Value:=.int .i64 n
abbrev vb (b:Bool):Value:=.bool b
abbrev bY (a:Array Value)(T:TypeId):Obj:=.cells a T (0,0)
theorem SU.move (b:ev f x=some v):SU P N ⟨dst,.move x,ty,pos,af,gd⟩ f v:=fun a w c=>by
 simp only[execOp,c.ev b];rfl
theorem SU.assign (b:ev f x=some v):SU P N ⟨dst,.assign x,ty,pos,af,gd⟩ f v:=fun a w c=>by
 simp only[execOp,c.ev b];rfl
theorem SU.pickT {c:Operand}(hc:ev f c=some (.bool true))(d:ev f x=some v):SU P N ⟨dst,.pick c x y,ty,pos,af,gd⟩ f v:=fun a w b=>by
 simp only[execOp,b.ev hc,b.ev d];rfl
theorem SU.pickF {c:Operand}(hc:ev f c=some (.bool false))(d:ev f y=some v):SU P N ⟨dst,.pick c x y,ty,pos,af,gd⟩ f v:=fun a w b=>by
 simp only[execOp,b.ev hc,b.ev d];rfl
theorem SU.extract {vs:Array Value}(b:ev f x=some (.tuple vs))(c:vs[i]?=some v):SU P N ⟨dst,.extract x i,ty,pos,af,gd⟩ f v:=fun a w d=>by
 simp only[execOp,d.ev b,Instr.extract,c];rfl
theorem SU.nilCheck {ad:Addr}(b:ev f x=some (.pointer<|some ad)):SU P N ⟨dst,.nilCheck x,ty,pos,af,gd⟩ f<|.pointer<|some ad:=fun a w c=>by
 simp only[execOp,c.ev b];rfl
theorem SU.not {b:Bool}(c:ev f x=some (.bool b)):SU P N ⟨dst,.unOp .not T x,ty,pos,af,gd⟩ f<|.bool !b:=fun a w d=>by
 simp only[execOp,d.ev c];rfl
theorem SU.notP [Decidable p](a:ev f x=some (.bool<|decide p)):SU P N ⟨dst,.unOp .not T x,ty,pos,af,gd⟩ f<|.bool<|decide<|¬ p:=by
 have:decide (¬ p) = !decide p:=by simp
 rw[this];exact SU.not a
theorem SU.neg (b:ev f x=some (vi n)):SU P N ⟨dst,.unOp .neg T x,ty,pos,af,gd⟩ f<|vi<|IntKind.i64.wrap<|0 - n:=fun a w c=>by
 simp only[execOp,c.ev b];rfl
theorem SU.addW {U:TypeId}{k:IntKind}(c:ev f x=some (.int k m))(d:ev f y=some (.int k n)) :
  SU P N ⟨dst,.binOp .add T x y U,ty,pos,af,gd⟩ f<|.int k<|k.wrap<|m+n:=fun a w b=>by
 simp only[execOp,b.ev c,b.ev d,eqGuard,binOp,ne_eq,not_true_eq_false,if_false,Op.intArith];rfl
theorem SU.subW {U:TypeId}{k:IntKind}(c:ev f x=some (.int k m))(d:ev f y=some (.int k n)) :
  SU P N ⟨dst,.binOp .sub T x y U,ty,pos,af,gd⟩ f<|.int k<|k.wrap<|m - n:=fun a w b=>by
 simp only[execOp,b.ev c,b.ev d,eqGuard,binOp,ne_eq,not_true_eq_false,if_false,Op.intArith];rfl
theorem SU.mulW {U:TypeId}{k:IntKind}(c:ev f x=some (.int k m))(d:ev f y=some (.int k n)) :
  SU P N ⟨dst,.binOp .mul T x y U,ty,pos,af,gd⟩ f<|.int k<|k.wrap<|m * n:=fun a w b=>by
 simp only[execOp,b.ev c,b.ev d,eqGuard,binOp,ne_eq,not_true_eq_false,if_false,Op.intArith];rfl
theorem SU.add {U:TypeId}(a:ev f x=some (vi m))(b:ev f y=some (vi n))(h : -9223372036854775808≤m+n∧m+n≤9223372036854775807) :
  SU P N ⟨dst,.binOp .add T x y U,ty,pos,af,gd⟩ f<|vi<|m+n:=by
 have:=SU.addW (P:=P) (N:=N) (dst:=dst) (ty:=ty) (pos:=pos) (af:=af) (gd:=gd) (T:=T) (U:=U) a b;rwa [IntWalk.i64_in _ h] at this
theorem SU.sub {U:TypeId}(a:ev f x=some (vi m))(b:ev f y=some (vi n))(h : -9223372036854775808≤m - n∧m - n≤9223372036854775807) :
  SU P N ⟨dst,.binOp .sub T x y U,ty,pos,af,gd⟩ f<|vi<|m - n:=by
 have:=SU.subW (P:=P) (N:=N) (dst:=dst) (ty:=ty) (pos:=pos) (af:=af) (gd:=gd) (T:=T) (U:=U) a b;rwa [IntWalk.i64_in _ h] at this
theorem SU.mul {U:TypeId}(a:ev f x=some (vi m))(b:ev f y=some (vi n))(h : -9223372036854775808≤m * n∧m * n≤9223372036854775807) :
  SU P N ⟨dst,.binOp .mul T x y U,ty,pos,af,gd⟩ f<|vi<|m * n:=by
 have:=SU.mulW (P:=P) (N:=N) (dst:=dst) (ty:=ty) (pos:=pos) (af:=af) (gd:=gd) (T:=T) (U:=U) a b;rwa [IntWalk.i64_in _ h] at this
theorem SU.quo {U:TypeId}{k:IntKind}(c:ev f x=some (.int k m))(d:ev f y=some (.int k n))(h:n≠0) :
  SU P N ⟨dst,.binOp .quo T x y U,ty,pos,af,gd⟩ f<|.int k<|k.wrap<|m.tdiv n:=fun a w b=>by
 simp only[execOp,b.ev c,b.ev d,eqGuard,binOp,ne_eq,not_true_eq_false,if_false,Op.intDiv,h];rfl
theorem SU.rem {U:TypeId}{k:IntKind}(c:ev f x=some (.int k m))(d:ev f y=some (.int k n))(h:n≠0) :
  SU P N ⟨dst,.binOp .rem T x y U,ty,pos,af,gd⟩ f<|.int k<|m.tmod n:=fun a w b=>by
 simp only[execOp,b.ev c,b.ev d,eqGuard,binOp,ne_eq,not_true_eq_false,if_false,Op.intDiv,h];rfl
theorem SU.and {U:TypeId}{k:IntKind}(c:ev f x=some (.int k m))(d:ev f y=some (.int k n)) :
  SU P N ⟨dst,.binOp .and T x y U,ty,pos,af,gd⟩ f<|.int k<|k.wrap (BitVec.ofInt k.bits m &&& BitVec.ofInt k.bits n).toNat:=fun a w b=>by
 simp only[execOp,b.ev c,b.ev d,eqGuard,binOp,ne_eq,not_true_eq_false,if_false,Op.intBits];rfl
theorem SU.shl {U:TypeId}{k c:IntKind}(d:ev f x=some (.int k m))(e:ev f y=some (.int c n))(h:0≤n) :
  SU P N ⟨dst,.binOp .shl T x y U,ty,pos,af,gd⟩ f<|.int k<|k.wrap<|m * 2 ^ min n.toNat k.bits:=fun a w b=>by
 simp only[execOp,b.ev d,b.ev e,eqGuard,binOp,Op.shift,if_neg<|Int.not_lt.2 h];rfl
theorem SU.shr {U:TypeId}{k c:IntKind}(d:ev f x=some (.int k m))(e:ev f y=some (.int c n))(h:0≤n) :
  SU P N ⟨dst,.binOp .shr T x y U,ty,pos,af,gd⟩ f<|.int k<|m.fdiv<|2 ^ min n.toNat k.bits:=fun a w b=>by
 simp only[execOp,b.ev d,b.ev e,eqGuard,binOp,Op.shift,if_neg<|Int.not_lt.2 h];rfl
theorem SU.lss {U:TypeId}{k:IntKind}(c:ev f x=some (.int k m))(d:ev f y=some (.int k n)) :
  SU P N ⟨dst,.binOp .lss T x y U,ty,pos,af,gd⟩ f<|.bool<|decide<|m<n:=fun a w b=>by
 simp only[execOp,b.ev c,b.ev d,eqGuard,binOp,ne_eq,not_true_eq_false,if_false,Op.intCmp];rfl
theorem SU.leq {U:TypeId}{k:IntKind}(c:ev f x=some (.int k m))(d:ev f y=some (.int k n)) :
  SU P N ⟨dst,.binOp .leq T x y U,ty,pos,af,gd⟩ f<|.bool<|decide<|m≤n:=fun a w b=>by
 simp only[execOp,b.ev c,b.ev d,eqGuard,binOp,ne_eq,not_true_eq_false,if_false,Op.intCmp];rfl
theorem SU.gtr {U:TypeId}{k:IntKind}(c:ev f x=some (.int k m))(d:ev f y=some (.int k n)) :
  SU P N ⟨dst,.binOp .gtr T x y U,ty,pos,af,gd⟩ f<|.bool<|decide<|n<m:=fun a w b=>by
 simp only[execOp,b.ev c,b.ev d,eqGuard,binOp,ne_eq,not_true_eq_false,if_false,Op.intCmp];rfl
theorem SU.geq {U:TypeId}{k:IntKind}(c:ev f x=some (.int k m))(d:ev f y=some (.int k n)) :
  SU P N ⟨dst,.binOp .geq T x y U,ty,pos,af,gd⟩ f<|.bool<|decide<|n≤m:=fun a w b=>by
 simp only[execOp,b.ev c,b.ev d,eqGuard,binOp,ne_eq,not_true_eq_false,if_false,Op.intCmp];rfl
theorem SU.eql {U:TypeId}{k:IntKind}(c:ev f x=some (.int k m))(d:ev f y=some (.int k n)) :
  SU P N ⟨dst,.binOp .eql T x y U,ty,pos,af,gd⟩ f<|.bool<|decide<|m=n:=fun a w b=>by
 have:(m == n)=decide (m=n):=rfl;rw[← this];simp only[execOp,b.ev c,b.ev d,eqGuard,binOp,ne_eq,not_true_eq_false,if_false,Op.intCmp];rfl
theorem SU.neq {U:TypeId}{k:IntKind}(c:ev f x=some (.int k m))(d:ev f y=some (.int k n)) :
  SU P N ⟨dst,.binOp .neq T x y U,ty,pos,af,gd⟩ f<|.bool<|decide<|m≠n:=fun a w b=>by
 have:(m != n)=decide (m≠n):=by rw[Bool.eq_iff_iff];simp
 rw[← this];simp only[execOp,b.ev c,b.ev d,eqGuard,binOp,ne_eq,not_true_eq_false,if_false,Op.intCmp];rfl
theorem SU.convert {U:TypeId}{k b:IntKind}{d:TypeDesc}(c:P.underlying T=some d)(e:P.underlying U=some (.int b))(g:ev f x=some (.int k n)) :
  SU P N ⟨dst,.convert T U x,ty,pos,af,gd⟩ f<|.int b<|b.wrap n:=fun a w i=>by
 simp[execOp,i.ev g,Go.convert,run_underlying c,run_underlying e,Conv.intToInt]
theorem SU.fieldAddr {fields:Array Field}{fd:Field}{o:Nat}(d:P.underlying S=some (.struct fields))(e:fields[i]?=some fd)
  (g:∀ w,(sizeOf fd.type).run P w = .ok (k+1) w) (j:ev f x=some (pp b o)):SU P N ⟨dst,.fieldAddr S x i,ty,pos,af,gd⟩ f<|pp b<|o+fd.offset:=fun a w l=>by
 have c:(⟨b,o,none⟩:Addr).add fd.offset=⟨b,o+fd.offset,none⟩:=by unfold Addr.add;split <;> simp_all
 simp[execOp,l.ev j,Instr.fieldAt,run_underlying d,e,Instr.sureAddr,fieldPlace,g w,c]
theorem SU.field {fields:Array Field}{fd:Field}(b:P.underlying S=some (.struct fields))(c:fields[i]?=some fd)
  (d:∀ w,(isAgg fd.type).run P w = .ok false w) (e:ev f x=some (.agg cs)) (g:cs[fd.offset]?=some v):SU P N ⟨dst,.field S x i,ty,pos,af,gd⟩ f v:=fun a w j=>by
 simp[execOp,j.ev e,Instr.field,run_underlying b,c,part,d w,asAgg,g]
theorem SU.makeFunc {n:FuncId}{c:Array Operand}{b:Array Value}(hc:∀ a,Ok N f a→c.map a.eval=b):SU P N ⟨dst,.makeFunc (.func n) #[] c,ty,pos,af,gd⟩ f<|.func (.func n) #[] b:=fun a w d=>by
 simp[execOp,Instr.makeFunc,hc a d]
def slen:Value→Nat
 | .slice _ n _=>n
 | _=>0
def isSl:Value→Bool
 | .slice ..=>true
 | _=>false
def oa (v:Value)(o:Nat):Value :=
 match v with
 | .slice (some a) _ _=>.pointer<|some ⟨a.block,a.off+o,none⟩
 | _=>.pointer none
def based:Value→Bool
 | .slice (some a) _ _=>a.spot.isNone
 | _=>false
theorem SU.len (b:P.underlying T=some (.slice e))(c:ev f x=some v)(d:isSl v=true) :
  SU P N ⟨dst,.call ⟨.builtin .len,#[x],#[T]⟩,ty,pos,af,gd⟩ f<|vi<|slen v:=fun a w g=>by
 cases v <;> simp[isSl] at d
 simp[execOp,resolve,invoke,builtin,g.ev c,Builtin.len_,run_underlying b,goInt,slen]
theorem SU.lenN {p:Option Addr}{n c:Nat}(a:P.underlying T=some (.slice e))(b:ev f x=some (.slice p n c)) :
  SU P N ⟨dst,.call ⟨.builtin .len,#[x],#[T]⟩,ty,pos,af,gd⟩ f<|vi n:=SU.len a b rfl
theorem SU.eqlNil {U:TypeId}{p:Option Addr}{n c:Nat}(d:P.underlying T=some (.slice e))(g:ev f x=some (.slice p n c))(i:ev f y=some (.slice none 0 0)) :
  SU P N ⟨dst,.binOp .eql T x y U,ty,pos,af,gd⟩ f<|.bool p.isNone:=fun a w b=>by
 have hg:(eqGuard .eql T x y (.slice p n c)<|.slice none 0 0).run P w = .ok () w:=by simp[eqGuard]
 have hb:=Lib.run_eql_slice_nil (P:=P) w T e p n c 0 0 d;simp only[execOp,b.ev g,b.ev i,Sem.run_bind,hg,Result.andThen_ok,hb];rfl
theorem SU.indexAddr {i:Int}(l:P.underlying T=some (.slice e))(m:∀ w,(sizeOf e).run P w = .ok k w)
  (q:ev f x=some v) (r:ev f y=some (vi i)) (hb:based v=true) (s:0≤i) (g:i<slen v) :
  SU P N ⟨dst,.indexAddr T x y,ty,pos,af,gd⟩ f<|oa v<|i.toNat * k:=fun a w j=>by
 cases v <;> simp[based] at hb
 rename_i p n c;cases p <;> simp at hb
 rename_i ad;obtain ⟨b,o,sp⟩:=ad;simp at hb;subst hb;simp only[slen] at g;have d:(⟨b,o,none⟩:Addr).add (i.toNat * k)=⟨b,o+i.toNat * k,none⟩:=by unfold Addr.add;split <;> simp_all
 simp[execOp,j.ev q,j.ev r,Instr.indexAt,asIntOf,run_underlying l,s,g,m w,oa,d]
theorem SU.indexAddrA {n o:Nat}{i:Int}(g:P.underlying T=some (.array n e))(j:∀ w,(sizeOf e).run P w = .ok k w)
  (l:ev f x=some (pp b o)) (m:ev f y=some (vi i)) (p:0≤i) (q:i<n) :
  SU P N ⟨dst,.indexAddr T x y,ty,pos,af,gd⟩ f<|pp b<|o+i.toNat * k:=fun a w d=>by
 have c:(⟨b,o,none⟩:Addr).add (i.toNat * k)=⟨b,o+i.toNat * k,none⟩:=by unfold Addr.add;split <;> simp_all
 simp[execOp,d.ev l,d.ev m,Instr.indexAt,asIntOf,run_underlying g,Instr.sureAddr,p,q,j w,c]
theorem SU.fieldAddrC {fields:Array Field}{fd:Field}{o:Nat}(b:P.underlying S=some (.struct fields))(d:fields[i]?=some fd)
  (e:∀ w,(sizeOf fd.type).run P w = .ok (k+1) w) (a:ev f x=some (oa v o)) (hb:based v=true):SU P N ⟨dst,.fieldAddr S x i,ty,pos,af,gd⟩ f<|oa v<|o+fd.offset:=by
 cases v <;> simp[based] at hb
 rename_i p n c;cases p <;> simp at hb
 simp only[oa] at a ⊢;have:=SU.fieldAddr (P:=P) (N:=N) (dst:=dst) (ty:=ty) (pos:=pos) (af:=af) (gd:=gd) b d e a;rwa [Nat.add_assoc] at this
def ao (g:PH)(s:Own)(ad:Addr)(v:Value):Prop:=∀ E w,At E g s w→w.cell? ad=some v
theorem ao.own {o:Nat}{a:Nat×Nat}(i:Nat)(c:s[i]?=some (pt b<|.cells cs T a))(hc:cs[o]?=some v):ao g s ⟨b,o,none⟩ v:=fun E w d=>by
 have:=d.own _<|List.mem_of_getElem? c;simp only[pt,Option.bind_some] at this;simp[World.cell?,this,hc]
theorem ao.known {o:Nat}{a:Nat×Nat}(hg:g b=some (.cells cs T a))(hc:cs[o]?=some v):ao g s ⟨b,o,none⟩ v:=fun E w c=>by
 simp[World.cell?,c.known _ _ hg,hc]
def Rd (g:PH)(s:Own)(v:Value)(xs:List Value):Prop:=∀ E w,At E g s w→∀ j x,xs[j]?=some x→∃ a n c,v = .slice (some a) n c∧a.spot=none∧w.cell? ⟨a.block,a.off+j,none⟩=some x
theorem SQ.loadAt {ad:Addr}(b:∀ w,(isAgg T).run P w = .ok false w)(c:ev f x=some (.pointer<|some ad))(hc:ao g s ad v) :
  SQ P N E ⟨dst,.load T x,ty,pos,af,gd⟩ f g s v:=fun a w d e=>by
 have:=hc E w e;simp[execOp,d.ev c,Instr.loadAt,Instr.sureAddr,loadVar,b w,load,Sem.run,this]
theorem SQ.load {o:Nat}(a:∀ w,(isAgg T).run P w = .ok false w)(c:ev f x=some (pp b o))(hc:ao g s ⟨b,o,none⟩ v) :
  SQ P N E ⟨dst,.load T x,ty,pos,af,gd⟩ f g s v:=SQ.loadAt a c hc
theorem SQ.loadC {u:Value}{o:Nat}(d:∀ w,(isAgg T).run P w = .ok false w)(b:ev f x=some (oa u o))(hr:Rd g s u xs)(e:xs[o]?=some v) :
  SQ P N E ⟨dst,.load T x,ty,pos,af,gd⟩ f g s v:=fun a w i j=>by
 obtain ⟨ad,n,c,rfl,_,hc⟩:=hr E w j o v e;simp only[oa] at b;simp[execOp,i.ev b,Instr.loadAt,Instr.sureAddr,loadVar,d w,load,Sem.run,hc]
theorem dy {w:World}{b o:Nat}:∀ (k i:Nat) (vs:List Value) (acc:Array Value),vs.length=k→(∀ j x,vs[j]?=some x→w.cell? ⟨b,o+(i+j),none⟩=some x) →
  (loadCellsFrom ⟨b,o,none⟩ i k acc).run P w = .ok (acc++vs.toArray) w
 | 0,_,vs,acc,hl,_=>by
  have:vs=[]:=List.eq_nil_of_length_eq_zero hl;subst this;simp[loadCellsFrom]
 | k+1,i,vs,acc,hl,hc=>by
  cases vs with
  | nil=>simp at hl
  | cons x r =>
   have c:=hc 0 x (by simp);have a:(⟨b,o,none⟩:Addr).add i=⟨b,o+(i+0),none⟩:=by unfold Addr.add;split <;> simp_all
   have:=dy k (i+1) r (acc.push x) (by simpa using hl) (fun j y d=>by have:=hc (j+1) y (by simpa using d);rwa [show i+(j+1)=i+1+j by omega] at this);simp only[loadCellsFrom,load,a,Sem.run_bind,Sem.run,c,Result.andThen_ok,this];simp
theorem SQ.loadAggAt {o:Nat}(c:∀ w,(isAgg T).run P w = .ok true w)(d:∀ w,(sizeOf T).run P w = .ok k w)(e:ev f x=some (pp b o))(hl:vs.length=k)
  (hc:∀ j v,vs[j]?=some v→ao g s ⟨b,o+j,none⟩ v):SQ P N E ⟨dst,.load T x,ty,pos,af,gd⟩ f g s<|.agg vs.toArray:=fun a w i l=>by
 have:=dy (P:=P) (w:=w) (b:=b) (o:=o) k 0 vs #[] hl (fun j y m=>by simpa using hc j y m E w l);simp[execOp,i.ev e,Instr.loadAt,Instr.sureAddr,loadVar,c w,d w,loadCells,this]
theorem SQ.loadVar {U:TypeId}{a:Nat×Nat}(i:Nat)(c:∀ w,(isAgg T).run P w = .ok true w)(d:∀ w,(sizeOf T).run P w = .ok cs.size w)(e:ev f x=some (pp b 0))
  (k:s[i]?=some (pt b<|.cells cs U a)):SQ P N E ⟨dst,.load T x,ty,pos,af,gd⟩ f g s<|.agg cs:=by
 have:=SQ.loadAggAt (P:=P) (N:=N) (E:=E) (g:=g) (s:=s) (dst:=dst) (ty:=ty) (pos:=pos) (af:=af) (gd:=gd) (vs:=cs.toList) c d e (by simp)
  (fun j v l=>ao.own (o:=0+j) i k<|by simpa using l)
 simpa using this
theorem SQ.loadAggC {u:Value}{o:Nat}(p:∀ w,(isAgg T).run P w = .ok true w)(q:∀ w,(sizeOf T).run P w = .ok k w)(e:ev f x=some (oa u o))(hr:Rd g s u xs)
  (hl:vs.length=k) (i:0<k) (l:∀ j v,vs[j]?=some v→xs[o+j]?=some v):SQ P N E ⟨dst,.load T x,ty,pos,af,gd⟩ f g s<|.agg vs.toArray:=fun a w t m=>by
 have z:∃ v,vs[0]?=some v:=by
  cases vs with
  | nil=>simp at hl;omega
  | cons y r=>exact⟨y,rfl⟩
 obtain ⟨v0,d⟩:=z;obtain ⟨ad,n,c,rfl,A,_⟩:=hr E w m (o+0) v0<|l 0 v0 d;simp only[oa] at e;have:=dy (P:=P) (w:=w) (b:=ad.block) (o:=ad.off+o) k 0 vs #[] hl (fun j y B=>by
  obtain ⟨D,F,G,C,_,hc⟩:=hr E w m (o+j) y<|l j y B;cases C;rw[Nat.zero_add,Nat.add_assoc];exact hc)
 simp[execOp,t.ev e,Instr.loadAt,Instr.sureAddr,Go.loadVar,p w,q w,loadCells,this]
theorem SL.U (hq:SU P N ⟨some d,op,ty,pos,af,none⟩ f v)(h:SL P N E ops Q rest ((d,v)::f) g s)(hd:d<N:=by decide):SL P N E ops Q (⟨some d,op,ty,pos,af,none⟩::rest) f g s:=SL.u hq hd h
theorem SL.K (hq:SQ P N E ⟨some d,op,ty,pos,af,none⟩ f g s v)(h:SL P N E ops Q rest ((d,v)::f) g s)(hd:d<N:=by decide):SL P N E ops Q (⟨some d,op,ty,pos,af,none⟩::rest) f g s:=SL.q hq hd h
theorem SL.W {K:Value→PH→Own→Prop}(a:SO P N E ⟨some d,op,ty,pos,af,none⟩ f g s K)(h:∀ v g' s',K v g' s'→SL P N E ops Q rest ((d,v)::f) g' s')(hd:d<N:=by decide):SL P N E ops Q (⟨some d,op,ty,pos,af,none⟩::rest) f g s:=SL.o a hd h
theorem SL.Z {b:Bool}(a:gd=some (j,b))(c:((ops[j]?).bind fun o:Oper=>o.dst)=some t)(e:aU f t=some (.bool<|!b))(h:SL P N E ops Q rest ((d,undef)::f) g s)(i:t<N:=by decide)(hd:d<N:=by decide):SL P N E ops Q (⟨some d,op,ty,pos,af,gd⟩::rest) f g s:=SL.off (Gd.onF a c e i) hd h
theorem SL.Y {b:Bool}(a:gd=some (j,b))(c:((ops[j]?).bind fun o:Oper=>o.dst)=some t)(e:aU f t=some (.bool b))(hq:SU P N ⟨some d,op,ty,pos,af,gd⟩ f v)(h:SL P N E ops Q rest ((d,v)::f) g s)(i:t<N:=by decide)(hd:d<N:=by decide):SL P N E ops Q (⟨some d,op,ty,pos,af,gd⟩::rest) f g s:=SL.gu (Gd.onT a c e i) hq hd h
theorem SP.U [Quiet Q]{i:Nat}(a:ops[i]?=some ⟨some d,op,ty,pos,af,none⟩)(hq:SU P N ⟨some d,op,ty,pos,af,none⟩ f v)(h:SP P N E ops Q g0 s0 tail plan ((d,v)::f) g s)(hd:d<N:=by decide):SP P N E ops Q g0 s0 tail ((i,2)::plan) f g s:=SP.u a hq hd h
theorem SP.K [Quiet Q]{i:Nat}(a:ops[i]?=some ⟨some d,op,ty,pos,af,none⟩)(hq:SQ P N E ⟨some d,op,ty,pos,af,none⟩ f g0 s0 v)(h:SP P N E ops Q g0 s0 tail plan ((d,v)::f) g s)(hd:d<N:=by decide):SP P N E ops Q g0 s0 tail ((i,1)::plan) f g s:=SP.q a hq hd h
theorem SL.M (a:ev f x=some v)(h:SL P N E ops Q rest ((d,v)::f) g s)(hd:d<N:=by decide):SL P N E ops Q (⟨some d,.move x,ty,pos,af,none⟩::rest) f g s:=SL.u (SU.move a) hd h
theorem SL.A (a:ev f x=some v)(h:SL P N E ops Q rest ((d,v)::f) g s)(hd:d<N:=by decide):SL P N E ops Q (⟨some d,.assign x,ty,pos,af,none⟩::rest) f g s:=SL.u (SU.assign a) hd h
theorem sL (h:p:=by simp only[slen];omega):p:=h
theorem kD (h:p:=by decide +kernel):p:=h
theorem kR (h:p:=by kernel_rfl):p:=h
theorem uR (h:p:=by repeat (first | exact List.Sublist.refl _ | apply List.Sublist.cons)):p:=h
theorem iR (h:p:=by
 intro _ _ _ h
 repeat (obtain ⟨_,h⟩:=h)
 subst_vars
 constructor
 first | exact Le.refl _ | assumption
 repeat (first | exact List.Sublist.refl _ | apply List.Sublist.cons)
 done):p:=h
def mV:=@SU.move
def aS:=@SU.assign
def wT:=@SU.pickT
def wF:=@SU.pickF
def xT:=@SU.extract
def nC:=@SU.nilCheck
def aD:=@SU.add
def sU:=@SU.sub
def lS:=@SU.lss
def gR:=@SU.gtr
def gQ:=@SU.geq
def eQ:=@SU.eql
def nQ:=@SU.neq
def eM:=@SU.len
def eN:=@SU.lenN
def iA:=@SU.indexAddr
def iB:=@SU.indexAddrA
def fC:=@SU.fieldAddrC
def cO:=@ao.own
def qL:=@SQ.load
def lU:=@SL.U
def lK:=@SL.K
def lW:=@SL.W
def lZ:=@SL.Z
def lY:=@SL.Y
def pU:=@SP.U
def lM:=@SL.M
def lA:=@SL.A
def bE:=@Nat.le_of_ble_eq_true
def tL:=@List.take_of_length_le
def tS:=@List.take_succ_eq_append_getElem
def gM:=@List.getElem_mem
def I0:=@SU.shr
def IJ:=@SU.field
def IN:=@SU.notP
def IZ:=@SU.quo
def Iz:=@SU.mul
def JG:=@SU.leq
def Jz:=@SU.eqlNil
def bj:=@SU.fieldAddr
def gB:=@SP.K
def oF:=@SU.not
theorem At.alloc (h:At E g s w){e:Ent}{o:Obj}(hb:e.blk=some w.heap.size)(n:e.holds<|some o):At E g (e::s) { w with heap:=w.heap.push o }:=by
 have c:∀ k,k<w.heap.size→(w.heap.push o)[k]?=w.heap[k]?:=fun k p=>by
  rw[Array.getElem?_push];split
  ·omega
  ·rfl
 have hg:g w.heap.size=none:=by
  cases hg:g w.heap.size with
  | none=>rfl
  | some x=>exact absurd (h.lt hg)<|Nat.lt_irrefl _
 refine⟨h.os,h.tape,h.output,fun b x m=>?_,fun e' a=>?_,fun e' a b d=>?_,List.pairwise_cons.2 ⟨fun e' a b i j=>?_,h.apart⟩⟩
 ·show (w.heap.push o)[b]?=some x;rw[c b<|h.lt m];exact h.known b x m
 ·rcases List.mem_cons.1 a with rfl | a
  ·simp only[hb,Option.bind_some];simpa using n
  ·have l:=h.own e' a;cases f:e'.blk with
   | none=>simpa [f] using l
   | some b =>
    have:=(h.fresh e' a b f).2;simp only[f,Option.bind_some] at l ⊢;rw[c b this];exact l
 ·rcases List.mem_cons.1 a with rfl | a
  ·rw[hb] at d;cases d;exact⟨hg,by simp⟩
  ·have:=h.fresh e' a b d;exact⟨this.1,by simp;omega⟩
 ·rw[hb] at i;cases i;exact absurd (h.fresh e' a _ j).2<|Nat.lt_irrefl _
theorem nX {e e':Ent}:∀ {s:Own} {i:Nat},s.Pairwise re→s[i]?=some e→(∀ x∈s,re e x→re e' x)→(s.set i e').Pairwise re
 | [],_,_,h,_=>by simp at h
 | x::r,0,hp,h,b=>by
  simp only[List.getElem?_cons_zero,Option.some.injEq] at h;subst h;obtain ⟨c,d⟩:=List.pairwise_cons.1 hp;exact List.pairwise_cons.2 ⟨fun y a=>b y (List.mem_cons_of_mem _ a)<|c y a,d⟩
 | x::r,i+1,hp,h,b=>by
  simp only[List.getElem?_cons_succ] at h;obtain ⟨c,d⟩:=List.pairwise_cons.1 hp;refine List.pairwise_cons.2 ⟨fun y a=>?_,nX d h fun y a=>b y<|List.mem_cons_of_mem _ a⟩
  rcases List.mem_or_eq_of_mem_set a with a | rfl
  ·exact c y a
  ·exact (b x (by simp) (c e<|List.mem_of_getElem? h).symm).symm
theorem At.turn {w':World}{e:Ent}(h:At E g s w)(f:s[i]?=some e)(A:w'.os=w.os)(c:w'.tape=w.tape∧w.drawn≤w'.drawn)(q:w'.output=w.output)
  (B:w.heap.size≤w'.heap.size) (C:∀ k,k<w.heap.size→some k≠e.blk→w'.heap[k]?=w.heap[k]?) (F:e'.holds (e'.blk.bind fun b=>w'.heap[b]?))
  (hb:∀ b,e'.blk=some b→b<w'.heap.size∧(e.blk=some b∨w.heap.size≤b)):At E g (s.set i e') w':=by
 have t:=List.mem_of_getElem? f;have m:∀ x∈s.set i e',x=e'∨(x∈s∧re e x):=by
  clear F hb;have hp:=h.apart;clear h C;induction s generalizing i with
  | nil=>simp at f
  | cons y r ih =>
   obtain ⟨n,d⟩:=List.pairwise_cons.1 hp;cases i with
   | zero =>
    simp only[List.getElem?_cons_zero,Option.some.injEq] at f;subst f;intro x a;simp only[List.set_cons_zero,List.mem_cons] at a
    rcases a with rfl | a
    ·exact .inl I
    ·exact .inr ⟨by simp[a],n x a⟩
   | succ i =>
    simp only[List.getElem?_cons_succ] at f;intro x a;simp only[List.set_cons_succ,List.mem_cons] at a
    rcases a with rfl | a
    ·exact .inr ⟨by simp,(n e<|List.mem_of_getElem? f).symm⟩
    ·rcases ih f (List.mem_of_getElem? f) d x a with a | ⟨a,u⟩
     ·exact .inl a
     ·exact .inr ⟨by simp[a],u⟩
 refine⟨A.trans h.os,⟨c.1.trans h.tape.1,Nat.le_trans h.tape.2 c.2⟩,q.trans h.output,fun b o hg=>?_,fun x a=>?_,fun x a b v=>?_,nX h.apart f fun x a u b D z=>?_⟩
 ·rw[C b (h.lt hg) fun p=>by rw[(h.fresh e t b p.symm).1] at hg;cases hg];exact h.known b o hg
 ·rcases m x a with rfl | ⟨j,u⟩
  ·exact F
  ·have n:=h.own x j;cases l:x.blk with
   | none=>simpa [l] using n
   | some b =>
    simp only[l,Option.bind_some] at n ⊢;rw[C b (h.fresh x j b l).2 fun p=>u b p.symm l];exact n
 ·rcases m x a with rfl | ⟨j,_⟩
  ·obtain ⟨n,d⟩:=hb b v;refine⟨?_,n⟩
   rcases d with d | d
   ·exact (h.fresh e t b d).1
   ·cases hg:g b with
    | none=>rfl
    | some o=>exact absurd (h.lt hg)<|Nat.not_lt.2 d
  ·have:=h.fresh x j b v;exact⟨this.1,Nat.lt_of_lt_of_le this.2 B⟩
 ·rcases (hb b D).2 with d | d
  ·exact u b d z
  ·exact absurd (h.fresh x a b z).2<|Nat.not_lt.2 d
theorem SO.of_run {o:Oper}{K:Value→PH→Own→Prop}(h:∀ a w,Ok N f a→At E g s w→∃ v w' g' s',(execOp a.eval o).run P w = .ok (.value v) w'∧At E g' s' w'∧K v g' s'):SO P N E o f g s K:=by
 intro a w c d Q next hn;obtain ⟨v,w',g',s',hr,b,e⟩:=h a w c d;unfold Oper.wp;rw[hr];exact hn v g' s' w' e b
theorem SO.of_skip {o:Oper}{K:Value→PH→Own→Prop}(h:∀ a w,Ok N f a→At E g s w→∃ w' g' s',(execOp a.eval o).run P w = .ok .skip w'∧At E g' s' w'∧K undef g' s'):SO P N E o f g s K:=by
 intro a w c d Q next hn;obtain ⟨w',g',s',hr,b,e⟩:=h a w c d;unfold Oper.wp;rw[hr];exact hn _ g' s' w' e b
theorem SO.alloc (hz:∀ w,(zeroValue T).run P w = .ok z w) :
  SO P N E ⟨dst,.alloc T,ty,pos,af,gd⟩ f g s fun v g' s'=>∃ b,v=pp b 0∧g=g'∧s'=pt b (.cells z.cells T (0,0))::s :=
 SO.of_run fun a w _ c=>⟨pp w.heap.size 0,_,g,_,by simp[execOp,Instr.alloc,hz w,newVar,newRow],c.alloc (e:=pt w.heap.size<|.cells z.cells T (0,0)) rfl rfl,_,rfl,rfl,rfl⟩
theorem SO.box (c:ev f x=some v) :
  SO P N E ⟨dst,.box T x,ty,pos,af,gd⟩ f g s fun u g' s'=>∃ b,u=pp b 0∧g=g'∧s'=pt b (.cells v.cells T (0,0))::s :=
 SO.of_run fun a w d i=>⟨pp w.heap.size 0,_,g,_,by simp[execOp,Instr.box,d.ev c,newVar,newRow],i.alloc (e:=pt w.heap.size<|.cells v.cells T (0,0)) rfl rfl,_,rfl,rfl,rfl⟩
def spl (cs:Array Value)(o:Nat)(vs:List Value):Array Value:=(cs.toList.take o++vs++cs.toList.drop (o+vs.length)).toArray
theorem At.setRow {cs':Array Value}(h:At E g s w)(c:s[i]?=some (pt b<|.cells cs T (0,0))):At E g (s.set i<|pt b<|.cells cs' T (0,0))<|w.setRow b cs':=by
 have d:=h.own _<|List.mem_of_getElem? c;have f:=h.fresh _ (List.mem_of_getElem? c) b rfl;simp only[pt,Option.bind_some] at d;refine h.turn c I ⟨I,(by exact Nat.le_refl _)⟩ I (by simp) (fun k _ j=>setRow_other w b k cs'<|fun e=>j<|by simp[pt,e]) ?_ (fun l a=>?_)
 ·simp only[pt,Option.bind_some];exact setRow_heap w b cs cs' T (0,0) d
 ·simp only[pt,Option.some.injEq] at a;subst a;exact⟨by simpa using f.2,.inl I⟩
theorem SO.storeAt {U:TypeId}{o:Nat}(n:∀ w,(sizeOf T).run P w = .ok k w)(p:ev f x=some (pp b o))(q:ev f y=some v)(d:s[i]?=some (pt b<|.cells cs U (0,0)))
  (e:v.cells.size=k) (hl:o+k≤cs.size) (r:∀ u∈v.cells.toList,u.oneCell'=true) :
  SO P N E ⟨dst,.store T x y,ty,pos,af,gd⟩ f g s fun _ g' s'=>g=g'∧s'=s.set i (pt b<|.cells (spl cs o v.cells.toList) U (0,0)) :=
 SO.of_skip fun a w j l=>by
  have m:=l.own _<|List.mem_of_getElem? d;simp only[pt,Option.bind_some] at m;have c:=run_storeCells_at P b o U v.cells.toList 0 cs w m (by simp[e];omega) r;refine⟨_,g,_,?_,l.setRow (cs':=spl cs o v.cells.toList) d,I,I⟩;simp[execOp,j.ev p,j.ev q,Instr.storeAt,Instr.sureAddr,storeVar,n w,e,c,spl]
theorem SO.store1 {U:TypeId}{o:Nat}(i:Nat)(c:∀ w,(sizeOf T).run P w = .ok 1 w)(d:ev f x=some (pp b o))(e:ev f y=some v)(j:s[i]?=some (pt b<|.cells cs U (0,0)))
  (a:v.cells = #[v]) (hl:o<cs.size) (k:v.oneCell'=true) :
  SO P N E ⟨dst,.store T x y,ty,pos,af,gd⟩ f g s fun _ g' s'=>g=g'∧s'=s.set i (pt b<|.cells (cs.setIfInBounds o v) U (0,0)):=by
 have:=SO.storeAt (P:=P) (N:=N) (E:=E) (g:=g) (dst:=dst) (ty:=ty) (pos:=pos) (af:=af) (gd:=gd) c d e j (by rw[a];rfl) oM (by rw[a];simpa using k);have l:spl cs o v.cells.toList=cs.setIfInBounds o v:=by
  rw[a];unfold spl;apply Array.ext';simp only[Array.toList_setIfInBounds];rw[List.set_eq_take_append_cons_drop];simp[hl]
 rwa [l] at this
theorem SO.storeAll {U:TypeId}(i:Nat)(c:∀ w,(sizeOf T).run P w = .ok cs.size w)(d:ev f x=some (pp b 0))(e:ev f y=some v)(j:s[i]?=some (pt b<|.cells cs U (0,0)))
  (a:v.cells.size=cs.size) (k:∀ u∈v.cells.toList,u.oneCell'=true) :
  SO P N E ⟨dst,.store T x y,ty,pos,af,gd⟩ f g s fun _ g' s'=>g=g'∧s'=s.set i (pt b<|.cells v.cells U (0,0)):=by
 have:=SO.storeAt (P:=P) (N:=N) (E:=E) (g:=g) (dst:=dst) (ty:=ty) (pos:=pos) (af:=af) (gd:=gd) c d e j a oM k;have l:spl cs 0 v.cells.toList=v.cells:=by
  unfold spl;apply Array.ext';simp[a]
 rwa [l] at this
def evs (f:Fr):List Operand→Option (List Value)
 | []=>some []
 | x::r=>match ev f x with
  | some v=>match evs f r with
   | some vs=>some<|v::vs
   | none=>none
  | none=>none
theorem Ok.evs {a:Act}(h:Ok N f a):∀ {l:List Operand} {vs:List Value},Sy.evs f l=some vs→l.map a.eval=vs
 | [],vs,b=>by simp only[Sy.evs,Option.some.injEq] at b;subst b;rfl
 | x::r,vs,b=>by
  simp only[Sy.evs] at b;split at b
  ·rename_i v c;split at b
   ·rename_i vs' hr;simp only[Option.some.injEq] at b;subst b;simp[h.ev c,Ok.evs h hr]
   ·cases b
  ·cases b
theorem SU.mkFunc {n:FuncId}{l:List Operand}(hl:evs f l=some vs):SU P N ⟨dst,.makeFunc (.func n) #[] l.toArray,ty,pos,af,gd⟩ f (.func (.func n) #[] vs.toArray) :=
 SU.makeFunc fun a b=>by simp[b.evs hl]
def cQ (P:Program)(E:World)(v:Value)(args:List Value)(g:PH)(s:Own)(R:Value→PH→Own→Prop):Prop :=
 ∃ n cap,v = .func (.func n) #[] cap∧(∀ args w,(callFunc n args).run P w = .ok (.enter n args) w)∧Ctr P E n (args.toArray++cap) g s R
theorem SO.callV {l:List Operand}{c:Array TypeId}(k:ev f x=some v)(hl:evs f l=some vs)(hc:cQ P E v vs g s R) :
  SO P N E ⟨dst,.call ⟨.value x,l.toArray,c⟩,ty,pos,af,gd⟩ f g s R:=by
 intro a w j m Q next hn;obtain ⟨n,cap,rfl,b,d⟩:=hc;unfold Oper.wp;have hr:(execOp a.eval ⟨dst,.call ⟨.value x,l.toArray,c⟩,ty,pos,af,gd⟩).run P w = .ok (.enter n<|vs.toArray++cap) w:=by
  simp[execOp,resolve,j.ev k,Deferred.ofValue,invoke,b,j.evs hl]
 rw[hr];refine (d w m).mono fun e w' o=>?_;obtain ⟨u,g',s',rfl,i,p⟩:=o;exact hn u g' s' w' p i
theorem SO.call {n:FuncId}{l:List Operand}{b:Array TypeId}(a:∀ args w,(callFunc n args).run P w = .ok (.enter n args) w)(hl:evs f l=some vs)(hc:Ctr P E n vs.toArray g s R) :
  SO P N E ⟨dst,.call ⟨.value<|.func n,l.toArray,b⟩,ty,pos,af,gd⟩ f g s R :=
 SO.callV rfl hl ⟨n,#[],rfl,a,by simpa using hc⟩
theorem cQ.mk {n:FuncId}{args cap:List Value}(a:∀ args w,(callFunc n args).run P w = .ok (.enter n args) w)(b:Ctr P E n (args++cap).toArray g s R) :
  cQ P E (.func (.func n) #[] cap.toArray) args g s R:=⟨n,cap.toArray,rfl,a,by simpa using b⟩
section
variable {e:Exit}
theorem cw {U:TypeId}{a:Nat×Nat}(c:At E g s w)(d:∀ w,(isAgg T).run P w = .ok true w)(e:∀ w,(sizeOf T).run P w = .ok cs.size w)(f:s[i]?=some (pt b<|.cells cs U a)) :
  (Go.loadVar T ⟨b,0,none⟩).run P w = .ok (.agg cs) w:=by
 have:=dy (P:=P) (w:=w) (b:=b) (o:=0) cs.size 0 cs.toList #[] (by simp) (fun j y k=>by
  have:=cO (g:=g) (o:=0+(0+j)) i f (v:=y) (by simpa using k);exact this E w c)
 simp[Go.loadVar,d w,e w,loadCells,this]
end
theorem SL.bx {o:Obj}(a:SO P N E ⟨some d,op,ty,pos,af,none⟩ f g s fun u g' s'=>∃ b,u=pp b 0∧g=g'∧s'=pt b o::s)(h:∀ b,SL P N E ops Q rest ((d,pp b 0)::f) g<|pt b o::s)(hd:d<N:=by decide):SL P N E ops Q (⟨some d,op,ty,pos,af,none⟩::rest) f g s:=SL.o a hd (by rintro _ _ _ ⟨b,rfl,rfl,rfl⟩;exact h b)
theorem SL.O2 {S:Own}(a:SO P N E ⟨none,op,ty,pos,af,none⟩ f g s fun _ g' s'=>g=g'∧s'=S)(h:SL P N E ops Q rest f g S):SL P N E ops Q (⟨none,op,ty,pos,af,none⟩::rest) f g s:=SL.on a (by rintro _ _ _ ⟨rfl,rfl⟩;exact h)
theorem SL.nT (h:SC P N E c Q f g s):SL P N E ops (Exit.then (c.wp P Q) Q) [] f g s:=SL.nil<|ST.thenN h
theorem SL.AT (a:ev f x=some v)(h:SC P N E c Q ((d,v)::f) g s)(hd:d<N:=by decide):SL P N E ops (Exit.then (c.wp P Q) Q) [⟨some d,.assign x,ty,pos,af,none⟩] f g s:=SL.A a (SL.nT h) hd
theorem SC.sR {y:Code}(h:SL P N E l.toArray (Exit.then (y.wp P Q) Q) l f g s):SC P N E (.seq (.region id l.toArray false) y) Q f g s:=SC.seq<|SC.region h
theorem SC.sM {y:Code}(a:ev f x=some v)(h:SL P N E (⟨some d,.move x,ty,pos,af,none⟩::l).toArray (Exit.then (y.wp P Q) Q) l ((d,v)::f) g s)(hd:d<N:=by decide):SC P N E (.seq (.region id (⟨some d,.move x,ty,pos,af,none⟩::l).toArray false) y) Q f g s:=SC.sR<|SL.M a h hd
section
variable {b:Bool}{c:Operand}{k:IntKind}{U:TypeId}
theorem SL.za (h:(((ops[j]?).bind fun o:Oper=>o.dst),aU f t)=(some t,some<|.bool<|!b))(a:SL P N E ops Q rest ((d,undef)::f) g s)(c:t<N:=by decide)(hd:d<N:=by decide):SL P N E ops Q (⟨some d,op,ty,pos,af,some (j,b)⟩::rest) f g s:=by
 simp only[Prod.mk.injEq] at h;exact lZ I h.1 h.2 a c hd
theorem SL.zb (h:(((ops[j]?).bind fun o:Oper=>o.dst),aU f t)=(some t,some undef))(a:SL P N E ops Q rest ((d,undef)::f) g s)(c:t<N:=by decide)(hd:d<N:=by decide):SL P N E ops Q (⟨some d,op,ty,pos,af,some (j,b)⟩::rest) f g s:=by
 simp only[Prod.mk.injEq] at h;exact SL.off (Gd.off I h.1 h.2 c) hd a
theorem SL.yc (h:(((ops[j]?).bind fun o:Oper=>o.dst),aU f t,ev f x)=(some t,some<|.bool b,some v))(a:SL P N E ops Q rest ((d,v)::f) g s)(c:t<N:=by decide)(hd:d<N:=by decide):SL P N E ops Q (⟨some d,.move x,ty,pos,af,some (j,b)⟩::rest) f g s:=by
 simp only[Prod.mk.injEq] at h;exact lY I h.1 h.2.1 (mV h.2.2) a c hd
theorem SL.ad (h:(ev f x,ev f y)=(some<|vi m,some<|vi n))(a:SL P N E ops Q rest ((d,vi<|m+n)::f) g s)(hr : -9223372036854775808≤m+n∧m+n≤9223372036854775807:=by omega)(hd:d<N:=by decide):SL P N E ops Q (⟨some d,.binOp .add T x y U,ty,pos,af,none⟩::rest) f g s:=by
 simp only[Prod.mk.injEq] at h;exact lU (aD h.1 h.2 hr) a hd
theorem SL.ls (h:(ev f x,ev f y)=(some<|.int k m,some<|.int k n))(a:SL P N E ops Q rest ((d,.bool<|decide<|m<n)::f) g s)(hd:d<N:=by decide):SL P N E ops Q (⟨some d,.binOp .lss T x y U,ty,pos,af,none⟩::rest) f g s:=by
 simp only[Prod.mk.injEq] at h;exact lU (lS h.1 h.2) a hd
theorem SL.ql (h:(ev f x,ev f y)=(some<|.int k m,some<|.int k n))(a:SL P N E ops Q rest ((d,.bool<|decide<|m=n)::f) g s)(hd:d<N:=by decide):SL P N E ops Q (⟨some d,.binOp .eql T x y U,ty,pos,af,none⟩::rest) f g s:=by
 simp only[Prod.mk.injEq] at h;exact lU (eQ h.1 h.2) a hd
theorem SL.kp (h:(ev f c,ev f x)=(some<|.bool true,some v))(a:SL P N E ops Q rest ((d,v)::f) g s)(hd:d<N:=by decide):SL P N E ops Q (⟨some d,.pick c x y,ty,pos,af,none⟩::rest) f g s:=by
 simp only[Prod.mk.injEq] at h;exact lU (wT h.1 h.2) a hd
theorem SL.pf (h:(ev f c,ev f y)=(some<|.bool false,some v))(a:SL P N E ops Q rest ((d,v)::f) g s)(hd:d<N:=by decide):SL P N E ops Q (⟨some d,.pick c x y,ty,pos,af,none⟩::rest) f g s:=by
 simp only[Prod.mk.injEq] at h;exact lU (wF h.1 h.2) a hd
theorem SL.xt {vs:Array Value}(h:(ev f x,vs[i]?)=(some<|.tuple vs,some v))(a:SL P N E ops Q rest ((d,v)::f) g s)(hd:d<N:=by decide):SL P N E ops Q (⟨some d,.extract x i,ty,pos,af,none⟩::rest) f g s:=by
 simp only[Prod.mk.injEq] at h;exact lU (xT h.1 h.2) a hd
theorem SP.mv [Quiet Q](h:(ops[i]?,ev f x)=(some ⟨some d,.move x,ty,pos,af,none⟩,some v))(a:SP P N E ops Q g0 s0 tail plan ((d,v)::f) g s)(hd:d<N:=by decide):SP P N E ops Q g0 s0 tail ((i,2)::plan) f g s:=by
 simp only[Prod.mk.injEq] at h;exact pU h.1 (mV h.2) a hd
theorem SP.za [Quiet Q](h:(ops[i]?,((ops[j]?).bind fun o:Oper=>o.dst),aU f t)=(some ⟨some d,op,ty,pos,af,some (j,b)⟩,some t,some<|.bool<|!b))(a:SP P N E ops Q g0 s0 tail plan ((d,undef)::f) g s)(c:t<N:=by decide)(hd:d<N:=by decide):SP P N E ops Q g0 s0 tail ((i,2)::plan) f g s:=by
 simp only[Prod.mk.injEq] at h;exact fP h.1 (gZ I h.2.1 h.2.2 c) hd a
theorem SP.zb [Quiet Q](h:(ops[i]?,((ops[j]?).bind fun o:Oper=>o.dst),aU f t)=(some ⟨some d,op,ty,pos,af,some (j,b)⟩,some t,some undef))(a:SP P N E ops Q g0 s0 tail plan ((d,undef)::f) g s)(c:t<N:=by decide)(hd:d<N:=by decide):SP P N E ops Q g0 s0 tail ((i,2)::plan) f g s:=by
 simp only[Prod.mk.injEq] at h;exact fP h.1 (Gd.off I h.2.1 h.2.2 c) hd a
theorem SP.zc [Quiet Q](h:(ops[i]?,((ops[j]?).bind fun o:Oper=>o.dst),aU f t)=(some ⟨some d,op,ty,pos,af,some (j,b)⟩,some t,some<|.bool<|!b))(a:SP P N E ops Q g0 s0 tail plan ((d,undef)::f) g s)(c:t<N:=by decide)(hd:d<N:=by decide):SP P N E ops Q g0 s0 tail ((i,1)::plan) f g s:=by
 simp only[Prod.mk.injEq] at h;exact SP.off1 h.1 (gZ I h.2.1 h.2.2 c) hd a
theorem SP.yc [Quiet Q](h:(ops[i]?,((ops[j]?).bind fun o:Oper=>o.dst),aU f t,ev f x)=(some ⟨some d,.move x,ty,pos,af,some (j,b)⟩,some t,some<|.bool b,some v))(a:SP P N E ops Q g0 s0 tail plan ((d,v)::f) g s)(c:t<N:=by decide)(hd:d<N:=by decide):SP P N E ops Q g0 s0 tail ((i,2)::plan) f g s:=by
 simp only[Prod.mk.injEq] at h;exact SP.gu h.1 (gT I h.2.1 h.2.2.1 c) (mV h.2.2.2) hd a
end
def aL:=@SO.alloc
def bO:=@SO.box
def bW:=@SL.bx
def oZ:=@SL.O2
def tZ:=@SL.nT
def aT:=@SL.AT
def rZ:=@SC.sR
def sW:=@SC.sM
def yA:=@SL.za
def yB:=@SL.zb
def yC:=@SL.yc
def yD:=@SL.ad
def yL:=@SL.ls
def yE:=@SL.ql
def yP:=@SL.kp
def yF:=@SL.pf
def yX:=@SL.xt
def yM:=@SP.mv
def yG:=@SP.za
def yH:=@SP.zb
def yI:=@SP.zc
def yJ:=@SP.yc
def DO:=@SO.callV
def IH:=@SO.of_run
def Ih:=@SU.mkFunc
def Jr:=@SO.of_skip
def bt:=@SO.call
def oi:=@SO.store1
structure STy (P:Program)(t e:TypeId)(k bytes:Nat)(z:Value):Prop where
 und:P.underlying t=some (.slice e)
 info:∃ i,P.info? e=some i∧i.zero=some z∧i.size=k∧i.bytes=bytes
 zs:z.cells.size=k
 pos:0<k
theorem STy.size {t:TypeId}(h:STy P t e k bytes z)(w:World):(sizeOf e).run P w = .ok k w:=by
 obtain ⟨i,a,_,b,_⟩:=h.info;simp[sizeOf,typeInfo,a,b]
theorem STy.zero {t:TypeId}(h:STy P t e k bytes z)(w:World):(zeroValue e).run P w = .ok z w:=by
 obtain ⟨i,a,b,_,_⟩:=h.info;simp[zeroValue,typeInfo,a,b]
def jV:Value→Option Nat
 | .slice (some a) _ (_+1)=>some a.block
 | _=>none
def row (T:TypeId)(k:Nat)(v:Value)(n:Nat)(xs:List Value):Ent :=
 ⟨jV v,fun oo=>xs.length=n * k∧((∃ p,v = .slice p 0 0∧n=0) ∨
  ∃ b cap cur,v = .slice (some ⟨b,0,none⟩) n (cap+1)∧oo=some (.cells cur T (0,0))∧n≤cap+1∧cap+1≤maxLen∧cur.size=(cap+1) * k∧cur.toList.take (n * k)=xs)⟩
theorem ia {n:Nat}(h:At E g s w)(c:s[i]?=some (row T k v n xs)):xs.length=n * k∧((∃ p,v = .slice p 0 0∧n=0) ∨
  ∃ b cap cur,v = .slice (some ⟨b,0,none⟩) n (cap+1)∧w.heap[b]?=some (.cells cur T (0,0))∧n≤cap+1∧cap+1≤maxLen∧cur.size=(cap+1) * k∧cur.toList.take (n * k)=xs):=by
 obtain ⟨d,a⟩:=h.own _<|List.mem_of_getElem? c;refine⟨d,?_⟩
 rcases a with a | ⟨b,cap,cur,rfl,e,f⟩
 ·exact .inl a
 ·refine .inr ⟨b,cap,cur,I,?_,f⟩;simpa [row,jV] using e
theorem eH {n cap:Nat}{cur:Array Value}(a:xs.length=n * k)(hb:w.heap[b]?=some (.cells cur T (0,0)))(hn:n≤cap+1)(hc:cap+1≤maxLen)(c:cur.size=(cap+1) * k)(d:cur.toList.take (n * k)=xs) :
  (row T k (.slice (some ⟨b,0,none⟩) n<|cap+1) n xs).holds ((row T k (.slice (some ⟨b,0,none⟩) n<|cap+1) n xs).blk.bind fun b=>w.heap[b]?) :=
 ⟨a,.inr ⟨b,cap,cur,rfl,by simpa [row,jV] using hb,hn,hc,c,d⟩⟩
theorem EH {n:Nat}(h:At E g s w)(a:s[i]?=some (row T k v n xs)):(∃ p c,v = .slice p n c)∧xs.length=n * k:=by
 obtain ⟨d,e⟩:=ia h a;refine⟨?_,d⟩
 rcases e with ⟨p,rfl,rfl⟩ | ⟨b,cap,cur,rfl,_⟩
 ·exact⟨_,_,I⟩
 ·exact⟨_,_,I⟩
theorem At.emptyRow (h:At E g s w)(T:TypeId)(k:Nat)(p:Option Addr):At E g (row T k (.slice p 0 0) 0 []::s) w:=by
 have hr:jV (.slice p 0 0)=none:=by cases p <;> rfl
 refine⟨h.os,h.tape,h.output,h.known,fun e a=>?_,fun e a b hb=>?_,List.pairwise_cons.2 ⟨fun e _ b hb=>by simp[row,hr] at hb,h.apart⟩⟩
 ·rcases List.mem_cons.1 a with rfl | a
  ·exact⟨by simp,.inl ⟨p,I,I⟩⟩
  ·exact h.own e a
 ·rcases List.mem_cons.1 a with rfl | a
  ·simp[row,hr] at hb
  ·exact h.fresh e a b hb
theorem At.nilRow (h:At E g s w)(T:TypeId)(k:Nat):At E g (row T k (.slice none 0 0) 0 []::s) w:=h.emptyRow T k none
theorem SL.emptyRow (T:TypeId)(k:Nat)(p:Option Addr)(h:SL P N E ops Q l f g<|row T k (.slice p 0 0) 0 []::s):SL P N E ops Q l f g s:=fun a w b c=>h a w b<|c.emptyRow T k p
theorem SC.nilRow (T:TypeId)(k:Nat)(h:SC P N E c Q f g<|row T k (.slice none 0 0) 0 []::s):SC P N E c Q f g s:=fun a w b d=>h a w b<|d.nilRow T k
theorem ST.nilRow {e:Exit}(T:TypeId)(k:Nat)(h:ST N E Q e f g<|row T k (.slice none 0 0) 0 []::s):ST N E Q e f g s:=fun a w b c=>h a w b<|c.nilRow T k
theorem Rd.row {n:Nat}(i:Nat)(d:s[i]?=some (row T k v n xs)):Rd g s v xs:=by
 intro E w e j x a;obtain ⟨c,f⟩:=ia e d
 rcases f with ⟨p,rfl,hn⟩ | ⟨b,cap,cur,rfl,hb,_,_,_,l⟩
 ·subst hn;have:xs=[]:=List.eq_nil_of_length_eq_zero (by simpa using c);subst this;simp at a
 ·refine⟨⟨b,0,none⟩,n,cap+1,I,I,?_⟩;rw[← l,List.getElem?_take] at a;split at a
  ·simp[World.cell?,hb];simpa using a
  ·cases a
theorem SC.facts (h:(∃ w,At E g s w)→SC P N E c Q f g s):SC P N E c Q f g s:=fun a w d b=>h ⟨w,b⟩ a w d b
theorem SL.facts (h:(∃ w,At E g s w)→SL P N E ops Q l f g s):SL P N E ops Q l f g s:=fun a w c b=>h ⟨w,b⟩ a w c b
theorem SP.facts (h:(∃ w,At E g s w)→SP P N E ops Q g0 s0 tail plan f g s):SP P N E ops Q g0 s0 tail plan f g s :=
 fun L a w d b e i c hb=>h ⟨w,c⟩ L a w d b e i c hb
theorem At.newRow {w':World}{n cap:Nat}{a:List Value}{zs:List Value}{m:Nat}(h:At E g s w)(p:s[i]?=some (row T k v n xs))(e:w'=w.drew.alloc (.cells (xs.toArray++a.toArray++zs.toArray) T))
  (f:xs.length=n * k) (j:a.length=m * k) (hc:n+m≤cap) (o:0<n+m) (l:cap≤maxLen) (hz:zs.length=(cap - (n+m)) * k) :
  At E g (s.set i<|row T k (.slice (some ⟨w.heap.size,0,none⟩) (n+m) cap) (n+m)<|xs++a) w':=by
 subst e;obtain ⟨cap,rfl⟩:∃ c,cap=c+1:=⟨cap - 1,oM⟩;have d:(w.drew.alloc<|.cells (xs.toArray++a.toArray++zs.toArray) T).heap[w.heap.size]?=some (.cells (xs.toArray++a.toArray++zs.toArray) T (0,0)):=heap_alloc_new w.drew _;refine h.turn p I ⟨I,(by exact Nat.le_add_right _ _)⟩ I (by simp) (fun k q _=>heap_alloc_old w.drew _ k q) (eH (by simp[f,j,Nat.add_mul]) d hc l ?_ ?_) (fun b hb=>?_)
 ·simp only[Array.size_append,List.size_toArray,f,j,hz,← Nat.add_mul];congr 1;omega
 ·have:(n+m) * k=(xs++a).length:=by simp[f,j,Nat.add_mul]
  rw[this];simp only[Array.toList_append,List.append_assoc];rw[← List.append_assoc];exact List.take_left
 ·simp only[row,jV,Option.some.injEq] at hb;subst hb;exact⟨by simp,.inr<|Nat.le_refl _⟩
theorem SO.append {t:TypeId}{n m:Nat}{u:Value}{o:List Value}(i:Nat)(C:STy P t e k bytes z)(hx:ev f x=some v)(M:s[i]?=some (row e k v n xs))(hy:ev f y=some u)
  (hu:isSl u=true) (hm:slen u=m) (hr:Rd g s u o) (hl:o.length=m * k) (h1:∀ q∈o,q.oneCell'=true) (hb:(n+m) * bytes≤140737488355328) (b4:n+m≤4611686018427387904) :
  SO P N E ⟨dst,.call ⟨.builtin .append,#[x,y],#[t,t]⟩,ty,pos,af,gd⟩ f g s fun v' g' s'=>g=g'∧s'=s.set i (row e k v' (n+m)<|xs++o) :=
 SO.of_run fun a w ha H=>by
  obtain ⟨B,D⟩:=ia H M;obtain ⟨ti,J,O,A,Q⟩:=C.info;have V:s.set i (row e k v n xs)=s:=by
   apply List.ext_getElem?;intro q;rw[List.getElem?_set];split
   ·rename_i e1;subst e1;split
    ·exact M.symm
    ·rename_i h2;simp at h2;rw[List.getElem?_eq_none oM]
   ·rfl
  have key:∃ v' w',(Builtin.append_ #[t,t] ty #[v,u]).run P w = .ok v' w'∧At E g (s.set i<|row e k v' (n+m)<|xs++o) w':=by
   cases u <;> simp[isSl] at hu
   rename_i p m' c;simp only[slen] at hm;subst hm;have W:o=[]→m'=0:=fun e=>by
    rw[e] at hl;have:=C.pos
    rcases Nat.mul_eq_zero.1 hl.symm with h | h <;> omega
   have h0:m'=0→o=[]:=fun e=>List.eq_nil_of_length_eq_zero (by rw[hl,e];simp)
   -- nothing is appended
   by_cases R:m'=0
   ·have S:=h0 R;subst R;subst S;refine⟨v,w,?_,by simpa [V] using H⟩
    rcases D with ⟨q,rfl,rfl⟩ | ⟨b,cap,cur,rfl,_,X,_⟩
    ·cases p <;> cases q <;> simp[Builtin.append_,run_underlying C.und,C.size w,Builtin.lenOf,Builtin.firstCells,loadCells,loadCellsFrom,storeCells]
    ·cases p <;> simp[Builtin.append_,run_underlying C.und,C.size w,Builtin.lenOf,X,Builtin.firstCells,loadCells,loadCellsFrom,storeCells]
   ·have a2:o≠[]:=fun e=>R<|W e;obtain ⟨y0,S⟩:∃ y0,o[0]?=some y0:=by
     cases o with
     | nil=>exact absurd rfl a2
     | cons y r=>exact⟨y,rfl⟩
    obtain ⟨ad,_,_,he,Y,_⟩:=hr E w H 0 y0 S;cases he;have d:∀ j q,o[j]?=some q→w.cell? (ad.add j)=some q:=fun j q hq=>by
     obtain ⟨a',_,_,he,_,hc⟩:=hr E w H j q hq;cases he;have F:ad.add j=⟨ad.block,ad.off+j,none⟩:=by
      obtain ⟨b1,o1,s1⟩:=ad;simp only at Y;subst Y;unfold Addr.add;split <;> simp_all
     rw[F];exact hc
    have a3:m' * bytes≤140737488355328:=Nat.le_trans (Nat.mul_le_mul_right _ oM) hb;have T:∀ c,(Builtin.zeroCells z.cells c).toList.length=c * k:=fun c=>by simp[size_zeroCells,C.zs]
    rcases D with ⟨q,rfl,rfl⟩ | ⟨b,cap,cur,rfl,hg,X,K,Z,G⟩
    ·have a4:xs=[]:=List.eq_nil_of_length_eq_zero (by simpa using B);subst a4;have L:=grownCap_ge w (0+m') 0 e;have K:=grownCap_le_maxLen w (0+m') 0 e (by unfold maxLen;omega);cases q with
     | none =>
      have U:=run_append_nil (P:=P) w t ty e ti z C.und J O ad m' c o (by rw[A];exact hl) d oM oM (by rw[Q];omega);have h6:=H.newRow (zs:=(Builtin.zeroCells z.cells<|grownCap w (0+m') 0 e - (0+m')).toList) M rfl B hl L oM K (by rw[T]);refine⟨_,_,U,?_⟩;simpa using h6
     | some q =>
      have U:=run_append_grow (P:=P) w t ty e ti z C.und J O q 0 0 [] (by simp) (by simp) ad m' c o (by rw[A];exact hl) d oM oM (by rw[Q];exact growslice_fits oM<|by simpa using a3);have h6:=H.newRow (zs:=(Builtin.zeroCells z.cells<|grownCap w (0+m') 0 e - (0+m')).toList) M rfl B hl L oM K (by rw[T]);refine⟨_,_,U,?_⟩;simpa using h6
    ·by_cases l:n+m'≤cap+1
     ·have U:=run_append_room (P:=P) w t ty e ti C.und J b n (cap+1) cur hg ad m' c o (by rw[A];exact hl) d h1 l (by rw[hl,Z,A,← Nat.add_mul];exact Nat.mul_le_mul_right _ l);refine⟨_,_,U,?_⟩;have a5:n * k+o.length≤cur.size:=by rw[hl,Z,← Nat.add_mul];exact Nat.mul_le_mul_right _ l
      have a9:=H.fresh _ (List.mem_of_getElem? M) b rfl;refine H.turn M I ⟨I,(by exact Nat.le_refl _)⟩ I (by simp) (fun k' _ b0=>setRow_other w b k' _<|fun e1=>b0<|by simp[row,jV,e1]) (eH (by simp[B,hl,Nat.add_mul]) (setRow_heap w b cur _ e _ hg) l K ?_ ?_) (fun b' a0=>?_)
      ·rw[A];simp only[List.size_toArray,List.length_append,List.length_take,List.length_drop,Array.length_toList];omega
      ·rw[A,G];have:(n+m') * k=(xs++o).length:=by simp[B,hl,Nat.add_mul]
       rw[this];exact List.take_left
      ·simp only[row,jV,Option.some.injEq] at a0;subst a0;exact⟨by simpa using a9.2,.inl I⟩
     ·have holds:∀ j q,xs[j]?=some q→w.cell? ((⟨b,0,none⟩:Addr).add j)=some q:=fun j q hq=>by
       have F:(⟨b,0,none⟩:Addr).add j=⟨b,j,none⟩:=by unfold Addr.add;split <;> simp_all
       rw[← G,List.getElem?_take] at hq;split at hq
       ·rw[F];simp[World.cell?,hg];simpa using hq
       ·cases hq
      have L:=grownCap_ge w (n+m') (cap+1) e;have a1:=grownCap_le_maxLen w (n+m') (cap+1) e (by unfold maxLen;omega);have U:=run_append_grow (P:=P) w t ty e ti z C.und J O ⟨b,0,none⟩ n (cap+1) xs (by rw[A];exact B) holds ad m' c o (by rw[A];exact hl) d oM oM (by rw[Q];exact growslice_fits oM hb);have h6:=H.newRow (zs:=(Builtin.zeroCells z.cells<|grownCap w (n+m') (cap+1) e - (n+m')).toList) M rfl B hl L oM a1 (by rw[T]);refine⟨_,_,U,?_⟩;simpa using h6
  obtain ⟨v',w',b2,b3⟩:=key;refine⟨v',w',g,_,?_,b3,I,I⟩;simp[execOp,resolve,invoke,builtin,ha.ev hx,ha.ev hy,b2]
theorem Aa:∀ (l:List Value) (m off:Nat) (cs:List Value),off+m+l.length≤cs.length →
  ((l.zipIdx m).foldl (fun (a:Array Value) p=>a.setIfInBounds (off+p.2) p.1) cs.toArray)=(cs.take (off+m)++l++cs.drop (off+m+l.length)).toArray
 | [],m,off,cs,_=>by simp
 | x::r,m,off,cs,h=>by
  simp only[List.zipIdx_cons,List.foldl_cons,List.setIfInBounds_toArray];have b:off+(m+1)+r.length≤(cs.set (off+m) x).length:=by simp at h ⊢;omega
  rw[Aa r (m+1) off (cs.set (off+m) x) b];have c:off+m<cs.length:=by simp at h;omega
  congr 1;rw[← Nat.add_assoc];rw[tS<|by simpa using c];simp only[List.getElem_set_self,List.take_set_of_le<|Nat.le_refl _];rw[List.drop_set_of_lt oM];simp only[List.append_assoc,List.cons_append,List.nil_append,List.length_cons];rw[show off+m+1+r.length=off+m+(r.length+1) by omega]
theorem Ag (k:Nat):∀ (vs:List Value) (i:Nat) (cs:List Value),(∀ v∈vs,v.cells.size=k)→cs.length=(i+vs.length) * k →
  Instr.fill (fun i=>some (i * k,k)) cs.toArray ((vs.zipIdx i).map fun p=>(p.2,p.1))=some (cs.take (i * k)++vs.flatMap fun v=>v.cells.toList).toArray
 | [],i,cs,_,hl=>by
  simp only[List.zipIdx_nil,List.map_nil,Instr.fill,List.flatMap_nil,List.append_nil];rw[tL<|by simp at hl;omega]
 | v::r,i,cs,f,hl=>by
  have d:=f v (by simp);have e:i * k+k≤cs.length:=by rw[hl,← Nat.succ_mul];exact Nat.mul_le_mul_right k (by simp)
  simp only[List.zipIdx_cons,List.map_cons,Instr.fill];rw[if_neg<|by simp[d];omega];have g:v.cells.zipIdx.foldl (fun cs (c,j)=>cs.setIfInBounds (i * k+j) c) cs.toArray=(cs.take (i * k)++v.cells.toList++cs.drop (i * k+k)).toArray:=by
   have:=Aa v.cells.toList 0 (i * k) cs (by simp[d];omega);rw[← Array.foldl_toList,Array.toList_zipIdx];simpa [d] using this
  rw[g];have b:(cs.take (i * k)++v.cells.toList++cs.drop (i * k+k)).length=(i+1+r.length) * k:=by
   simp[d];rw[Nat.min_eq_left oM];rw[hl] at e ⊢;simp only[List.length_cons] at *;rw[show i+(r.length+1)=i+1+r.length by omega] at *;omega
  rw[Ag k r (i+1) _ (fun u l=>f u<|by simp[l]) b];congr 2;have a:(cs.take (i * k)++v.cells.toList).length=(i+1) * k:=by simp[d,Nat.succ_mul,Nat.min_eq_left (show i * k≤cs.length by omega)]
  rw[List.take_append_of_le_length<|Nat.le_of_eq a.symm,tL<|Nat.le_of_eq a];simp
theorem rJ {t:TypeId}(a:STy P t e k bytes z)(vs:List Value)(d:∀ v∈vs,v.cells.size=k)(hb:vs.length * k≤16777216) :
  (Instr.buildSlice t vs.length ((vs.zipIdx).map fun p=>(p.2,p.1)).toArray).run P w = .ok (.slice (some ⟨w.heap.size,0,none⟩) vs.length vs.length) { w with heap:=w.heap.push (.cells (vs.flatMap fun v=>v.cells.toList).toArray e (0,0)) }:=by
 have hz:∀ (zs:Array Value),Instr.fill (fun i=>some (i * k,k)) ((Array.range<|vs.length * k).map (zs[· % zs.size]!)) ((vs.zipIdx).map fun p=>(p.2,p.1))=some (vs.flatMap fun v=>v.cells.toList).toArray:=by
  intro zs;have:=Ag k vs 0 ((Array.range<|vs.length * k).map (zs[· % zs.size]!)).toList d (by simp);simp only[Array.toArray_toList,Nat.zero_mul,List.take_zero,List.nil_append] at this;exact this
 have hn:¬ (vs.length * k>16777216):=oM;by_cases c:vs.length * k=0
 ·have b:=hz #[];simp only[c] at b;simp[Instr.buildSlice,run_underlying a.und,a.size w,c,newRow];simp at b;simp[b]
 ·have b:=hz z.cells;simp only[Instr.buildSlice,Sem.run_bind,run_underlying a.und,a.size w,Result.andThen_ok,c,if_false,Sem.run_pure,a.zero w];simp[b,newRow,hn,a.zero]
def tj:Nat→List (Nat×Operand)→Bool
 | _,[]=>true
 | i,(j,_)::r=>i == j&&tj (i+1) r
theorem qF {a:Act}(d:Ok N f a):∀ (ps:List<|Nat×Operand) (i:Nat) (vs:List Value),tj i ps=true→evs f (ps.map (·.2))=some vs→(ps.map fun p=>(p.1,a.eval p.2))=(vs.zipIdx i).map fun p=>(p.2,p.1)
 | [],_,vs,_,b=>by
  simp only[List.map_nil,evs,Option.some.injEq] at b;subst b;rfl
 | (j,x)::r,i,vs,c,b=>by
  simp only[tj,Bool.and_eq_true,beq_iff_eq] at c;obtain ⟨rfl,c⟩:=c;simp only[List.map_cons,evs] at b;split at b
  ·rename_i v e;split at b
   ·rename_i vs' hr;simp only[Option.some.injEq] at b;subst b;simp only[List.map_cons,List.zipIdx_cons,d.ev e];rw[qF d r (i+1) vs' c hr]
   ·cases b
  ·cases b
theorem SO.buildSlice {t:TypeId}{n:Nat}{ps:List<|Nat×Operand}(c:STy P t e k bytes z)(d:tj 0 ps=true)(hp:evs f (ps.map (·.2))=some vs)(hn:vs.length=n)(i:∀ v∈vs,v.cells.size=k)(hb:n * k≤16777216) :
  SO P N E ⟨dst,.buildSlice t n ps.toArray,ty,pos,af,gd⟩ f g s fun u g' s'=>∃ b,u = .slice (some ⟨b,0,none⟩) n n∧g=g'∧s'=pt b (.cells (vs.flatMap fun v=>v.cells.toList).toArray e (0,0))::s :=
 SO.of_run fun a w j l=>by
  subst hn;have hr:=rJ (P:=P) (w:=w) c vs i hb;refine⟨_,_,g,_,?_,l.alloc (e:=pt w.heap.size<|.cells (vs.flatMap fun v=>v.cells.toList).toArray e (0,0)) I I,_,I,I,I⟩;have hm:=qF j ps 0 vs d hp;simp only[execOp,List.map_toArray,hm];simp[hr]
def Sl (g:PH)(k:Nat)(v:Value)(n:Nat)(xs:List Value):Prop :=
 ∃ p c,v = .slice p n c∧(xs.length=n * k∧n≤c)∧(xs≠[]→∃ b o cs T fr,p=some ⟨b,o,none⟩∧g b=some (.cells cs T fr)∧∀ j x,xs[j]?=some x→cs[o+j]?=some x)
section
variable {n:Nat}
theorem Sl.mono (h:Sl g k v n xs)(hl:Le g g'):Sl g' k v n xs:=by
 obtain ⟨p,c,d,e,f⟩:=h;refine⟨p,c,d,e,fun a=>?_⟩;obtain ⟨b,o,cs,T,i,j,l,m⟩:=f a;exact⟨b,o,cs,T,i,j,hl _ _ l,m⟩
theorem Sl.isSl (h:Sl g k v n xs):isSl v=true:=by obtain ⟨p,c,rfl,_⟩:=h;rfl
theorem Sl.slen (h:Sl g k v n xs):slen v=n:=by obtain ⟨p,c,rfl,_⟩:=h;rfl
theorem Sl.length (h:Sl g k v n xs):xs.length=n * k:=by obtain ⟨p,c,_,a,_⟩:=h;exact a.1
theorem Sl.based (h:Sl g k v n xs)(hn:0<n)(d:0<k):based v=true:=by
 obtain ⟨p,c,rfl,⟨a,_⟩,f⟩:=h;have:xs≠[]:=fun e=>by rw[e] at a;have:=Nat.mul_pos hn d;simp at a;omega
 obtain ⟨b,o,cs,T,i,rfl,_⟩:=f this;rfl
theorem Sl.rd (h:Sl g k v n xs):Rd g s v xs:=by
 intro E w d j x a;obtain ⟨p,c,rfl,m,f⟩:=h;obtain ⟨b,o,cs,T,q,rfl,i,l⟩:=f (fun e=>by rw[e] at a;simp at a);exact⟨_,_,_,I,I,ao.known (s:=s) i (l j x a) E w d⟩
theorem Sl.nil (g:PH)(k:Nat):Sl g k (.slice none 0 0) 0 []:=⟨_,_,rfl,⟨by simp,Nat.le_refl _⟩,fun h=>absurd rfl h⟩
theorem At.freezeRow (h:At E g (row T k v n xs::s) w):∃ g',Le g g'∧At E g' s w∧Sl g' k v n xs:=by
 obtain ⟨a,f⟩:=ia (i:=0) h rfl
 rcases f with ⟨p,rfl,rfl⟩ | ⟨b,cap,cur,rfl,hb,e,_,l,c⟩
 ·have:xs=[]:=List.eq_nil_of_length_eq_zero (by simpa using a);subst this;exact⟨g,Le.refl g,h.sublist<|List.sublist_cons_self _ _,p,0,I,⟨by simp,Nat.le_refl _⟩,fun h=>absurd I h⟩
 ·obtain ⟨m,o⟩:=h.freeze (b:=b) rfl hb;refine⟨_,o,m,some ⟨b,0,none⟩,cap+1,I,⟨a,e⟩,fun _=>⟨b,0,cur,T,(0,0),I,fw _ _ _,fun j x d=>?_⟩⟩;rw[← c,List.getElem?_take] at d;split at d
  ·simpa using d
  ·cases d
end
def bS:=@SO.buildSlice
def I7:=@ST.nilRow
def IT:=@SC.facts
def Is:=@SL.emptyRow
section
variable {f0:Fr}
def H0 (N:Nat)(E:World)(f:Fr)(g:PH)(s:Own)(a:Act)(w:World):Prop:=Ok N f a∧At E g s w
theorem SC.cutB {x y:Code}(r:Nat)(b:Bool)(c:SC P N E x (Exit.then (H0 N E ((r,.bool b)::f) g s) Q) f g s)(d:SC P N E y Q ((r,.bool b)::f) g s):SC P N E (.seq x y) Q f g s:=by
 refine sQ fun a w i j=>Code.wp_mono (fun e k w' h=>?_)<|c a w i j;cases e <;> first | exact h | exact d k w' h.1 h.2
def GT (r:Nat):Fr→Fr→Prop
 | [],_=>True
 | (t,v)::q,f=>(aU f t=some v∨t=r)∧GT r q f
theorem GT.get {r:Nat}:∀ {f0 f:Fr},GT r f0 f→∀ t v,t≠r→aU f0 t=some v→aU f t=some v
 | [],_,_,_,_,_,a=>by simp[aU] at a
 | (k,u)::q,f,h,t,v,b,a=>by
  simp only[aU] at a;by_cases c:k=t
  ·subst c;rw[if_pos rfl] at a;injection a with a
   subst a;exact h.1.resolve_right b
  ·rw[if_neg c] at a;exact GT.get h.2 t v b a
theorem ST.mid1 {r:Nat}{b:Bool}(hb:aU f r=some (.bool b))(i:GT r f0 f):ST N E (Exit.then (H0 N E ((r,.bool b)::f0) g s) Q) .normal f g s :=
 fun a _ d j=>⟨⟨d.defers,d.size,fun t v c=>by
  simp only[aU] at c;by_cases hr:r=t
  ·subst hr;rw[if_pos rfl] at c;injection c with c
   subst c;exact d.at_ _ _ hb
  ·rw[if_neg hr] at c;exact d.at_ t v<|i.get t v (fun e=>hr e.symm) c⟩,j⟩
theorem SL.split [Decidable p](a:p→SL P N E ops Q l ((d,.bool true)::f) g s)(b:¬ p→SL P N E ops Q l ((d,.bool false)::f) g s):SL P N E ops Q l ((d,.bool<|decide p)::f) g s:=by
 by_cases hp:p
 ·rw[decide_eq_true hp];exact a hp
 ·rw[decide_eq_false hp];exact b hp
theorem SP.split [Decidable p](a:p→SP P N E ops Q g0 s0 tail plan ((d,.bool true)::f) g s)(b:¬ p→SP P N E ops Q g0 s0 tail plan ((d,.bool false)::f) g s) :
  SP P N E ops Q g0 s0 tail plan ((d,.bool<|decide p)::f) g s:=by
 by_cases hp:p
 ·rw[decide_eq_true hp];exact a hp
 ·rw[decide_eq_false hp];exact b hp
end
def FW:List Value→Prop
 | []=>True
 | u::r=>u.oneCell'=true∧FW r
theorem m6:∀ {l:List Value},FW l→∀ u∈l,u.oneCell'=true
 | [],_,u,a=>by cases a
 | x::r,h,u,a=>by
  rcases List.mem_cons.1 a with rfl | a
  ·exact h.1
  ·exact m6 h.2 u a
def Szs (k:Nat):List Value→Prop
 | []=>True
 | u::r=>u.cells.size=k∧Szs k r
theorem ab {k:Nat}:∀ {l:List Value},Szs k l→∀ u∈l,u.cells.size=k
 | [],_,u,a=>by cases a
 | x::r,h,u,a=>by
  rcases List.mem_cons.1 a with rfl | a
  ·exact h.1
  ·exact ab h.2 u a
section
variable {s1:Own}
theorem Rd.pt {n c:Nat}{a:Nat×Nat}(i:Nat)(d:s[i]?=some (pt b<|.cells cs T a)):Rd g s (.slice (some ⟨b,0,none⟩) n c) cs.toList:=fun E w e j x f =>
 ⟨_,_,_,rfl,rfl,cO (g:=g) (o:=0+j) i d (by simpa using f) E w e⟩
theorem SO.drop {o:Oper}{K:Value→PH→Own→Prop}{e:Ent}(h:SO P N E o f g (e::s) fun v g' s'=>∃ s1,s'=e::s1∧K v g' s1):SO P N E o f g (e::s) K:=by
 intro a w d i Q next hn;refine h a w d i Q next fun v g' s' w' b c=>?_;obtain ⟨s1,rfl,b⟩:=b;exact hn v g' s1 w' b<|c.sublist<|List.sublist_cons_self _ _
theorem SO.mono {o:Oper}{K K':Value→PH→Own→Prop}(h:SO P N E o f g s K)(c:∀ v g' s',K v g' s'→K' v g' s'):SO P N E o f g s K' :=
 fun a w d e Q next hn=>h a w d e Q next fun v g' s' w' i b=>hn v g' s' w' (c v g' s' i) b
theorem SO.app1 {t:TypeId}{n:Nat}(i:Nat)(a:List Value)(d:Nat)(j:STy P t e k bytes z)(l:ev f x=some v)(m:ev f y=some (.slice (some ⟨b,0,none⟩) 1 1))
  (o:s=pt b (.cells cs e (0,0))::s1) (p:s1[i]?=some (row e k v n xs)) (q:cs.size=k) (r:FW cs.toList) (u:xs++cs.toList=a) (hn:n+1=d) (hb:(n+1) * bytes≤140737488355328) (c:n+1≤4611686018427387904) :
  SO P N E ⟨dst,.call ⟨.builtin .append,#[x,y],#[t,t]⟩,ty,pos,af,gd⟩ f g s fun v' g' s'=>g=g'∧s'=s1.set i (row e k v' d a):=by
 subst o;subst u;subst hn;refine SO.drop ((SO.append (i+1) j l p m I I (Rd.pt 0 I) (by simp[q,slen]) (m6 r) hb c).mono fun v' g' s' ⟨w,A⟩=>⟨s1.set i<|row e k v' (n+1)<|xs++cs.toList,A,w,I⟩)
end
theorem Sl.form {n:Nat}(h:Sl g k v n xs):∃ p c,v = .slice p n c:=by obtain ⟨p,c,a,_⟩:=h;exact⟨p,c,a⟩
def sP:=@SL.split
def za1:=@SC.condF
def za2:=@SC.condT
def za8:=@ST.ret1
def za9:=@ST.mid
def zb1:=@ST.mid1
def zb2:=@Ctr.of
def zb3:=@SP.gu
def zb4:=@Gd.off
def zb6:=@SC.nilRow
def zb8:=@Eq.trans
def zb9:=@Le.refl
def zc1:=@Sl.nil
def zc2:=@Sl.slen
def zc3:=@Sl.form
def zc4:=@List.Sublist.refl
def zc5:=@List.length_nil
def zc6:=@List.length_filter_le
def zc7:=@List.append_nil
def zc8:=@List.getElem_of_mem
def zc9:=@List.map_congr_left
def zd1:=@List.pairwise_iff_getElem
def zd2:=@Result.andThen_ok
def zd3:=@SP.facts
def zd4:=@SL.facts
def zd9:=@SU.rem
def ze1:=@SU.convert
def ze2:=@SU.addW
def ze3:=@congrArg
def ze5:=@List.length_take
def ze6:=@List.length_append
def ze7:=@List.length_map
def ze8:=@List.length_singleton
def ze9:=@List.length_cons
def zf1:=@List.length_drop
def zf2:=@List.mem_cons
def zf3:=@List.mem_map
def zf4:=@List.mem_append
def zf5:=@List.eq_nil_of_length_eq_zero
def zf6:=@List.getElem?_eq_some_iff
def zf7:=@Nat.zero_le
def zf8:=@decide_eq_false
def zf9:=@decide_eq_true
def zg1:=@if_neg
def zg2:=@if_pos
def zg3:=@List.mem_of_getElem?
def zg4:=@of_decide_eq_true
def zg5:=@List.map_cons
def zg6:=@List.map_append
def zg7:=@List.drop_eq_getElem_cons
def zg8:=@Option.some.injEq
def zg9:=@List.append_assoc
def zh1:=@Decidable.of_not_not
def zh2:=@List.getD_eq_getElem?_getD
def zh3:=@List.getElem?_append_left
def zh4:=@List.getElem?_append_right
def zh5:=@List.mem_filter
def zh6:=@List.flatMap_cons
def zh7:=@List.filter_append
def zh8:=@List.mem_singleton
def zh9:=@Option.isSome_iff_exists
def zi1:=@List.getElem?_map
def zi2:=@List.getElem?_take
def zi3:=@List.getElem?_drop
def zi4:=@List.length_set
def zi5:=@List.length_range
def zi6:=@List.map_map
def zi7:=@List.find?_cons
def zi8:=@List.filter_cons
def zi9:=@List.foldl_cons
def zj1:=@List.foldl_append
def zj2:=@List.sublist_cons_self
def zj3:=@List.take_append_drop
def zj4:=@Bool.and_eq_true
def zj5:=@Bool.or_eq_true
def zj6:=@decide_eq_true_eq
def zj7:=@decide_eq_true_iff
def zj8:=@Bool.not_eq_true
def zj9:=@List.any_eq_true
def zk1:=@List.all_eq_true
def zk2:=@List.Perm.swap
def zk3:=@List.nodup_cons
def zk4:=@List.pairwise_cons
def zk5:=@List.pairwise_map
def zk6:=@List.any_eq_false
def zk7:=@List.mem_of_find?_eq_some
def zk8:=@Nat.le_trans
def zk9:=@Nat.lt_succ_of_le
def zl1:=@IntWalk.i64_in
def BY:=@SC.cutB
def H4:=@List.flatMap_append
def IS:=@List.length_append
def Iw:=@Int.natCast_mul
def Ix:=@List.nil_append
def Ja:=@Nat.mod_lt
def Je:=@List.take_append_drop
def Jf:=@SP.split
def Jl:=@SO.app1
def bd:=@List.getElem?_eq_getElem
def dm:=@Nat.le_refl
def hP:=@decide_eq_false_iff_not
def vj:=@Array.getElem?_eq_getElem
def wb:=@List.range_succ
end Go.Sy
