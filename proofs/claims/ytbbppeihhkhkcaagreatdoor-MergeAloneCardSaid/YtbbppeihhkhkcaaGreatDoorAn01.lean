/- 1 -/
import Derived.OrdersHeld
import Derived.Tactics
import Derived.Below
import Derived.IntWalk
import Derived.Laws.AppendOwn
import Derived.Lib.SliceRun
import Derived.Laws.StructEq
import Derived.Laws.Tables
set_option linter.unusedSimpArgs false
set_option linter.unusedVariables false
namespace Go.Sy
open Go
theorem oM {p:Prop}(h:p:=by omega):p:=h
theorem dC {p:Prop}(h:p:=by decide):p:=h
theorem lN {p:Prop}(h:p:=by (first | with_reducible rfl | ((try dsimp only); (try simp only[List.length_append,List.length_cons,List.length_nil,List.length_singleton,List.length_take,List.length_drop])<;>omega))):p:=h
theorem mI {p:Prop}(h:p:=by repeat' (first | exact trivial | refine⟨.inl rfl,?_⟩ | refine⟨.inr rfl,?_⟩)):p:=h
theorem I {α:Sort _}{a:α}:a=a:=rfl
theorem sB {p:Prop}(h:p:=by repeat' (first | exact trivial | refine And.intro rfl ?_)):p:=h
abbrev Fr:=List (Nat×Value)
def aN:Fr→Nat→Option Value
 | [],_=>none
 | (k,v)::r,t=>if k=t then some v else aN r t
def ev (f:Fr):Operand→Option Value
 | .tmp t=>aN f t
 | .const v=>some v
 | .global g=>some<|.pointer<|some ⟨g,0,none⟩
 | .func n=>some<|.func (.func n) #[] #[]
structure Ok (N:Nat)(f:Fr)(a:Act):Prop where
 defers:a.defers=[]
 size:a.tmps.size=N
 at_:∀ t v,aN f t=some v→a.tmps.getD t undef=v
theorem Ok.ev {N:Nat}{f:Fr}{a:Act}(h:Ok N f a){x:Operand}{v:Value}(b:Sy.ev f x=some v):a.eval x=v:=by
 cases x with
 | tmp t=>exact h.at_ t v b
 | const c=>simpa [Sy.ev,Act.eval] using b
 | global g=>simpa [Sy.ev,Act.eval] using b
 | func n=>simpa [Sy.ev,Act.eval] using b
theorem Ok.put {N:Nat}{f:Fr}{a:Act}(h:Ok N f a){d:Nat}(c:d<N)(v:Value):Ok N ((d,v)::f) (a.put (some d) v):=by
 refine⟨h.defers,by simp[Act.put,h.size],fun t u b=>?_⟩;simp only[aN] at b;by_cases e:d=t
 ·subst e;rw[if_pos rfl] at b;injection b with b
  subst b;simp[Act.put,h.size,c]
 ·rw[if_neg e] at b;have:=h.at_ t u b;simpa [Act.put,Array.getElem?_setIfInBounds_ne e] using this
def Sub:Fr→Fr→Prop
 | [],_=>True
 | (t,v)::r,f=>aN f t=some v∧Sub r f
theorem Sub.get {g f:Fr}(h:Sub g f):∀ t v,aN g t=some v→aN f t=some v:=by
 induction g with
 | nil=>intro t v a; simp[aN] at a
 | cons p r ih =>
  obtain ⟨k,u⟩:=p;intro t v a;simp only[aN] at a;by_cases b:k=t
  ·subst b;rw[if_pos rfl] at a;injection a with a
   subst a;exact h.1
  ·rw[if_neg b] at a;exact ih h.2 t v a
theorem Ok.sub {N:Nat}{f g:Fr}{a:Act}(h:Ok N f a)(b:Sub g f):Ok N g a :=
 ⟨h.defers,h.size,fun t v c=>h.at_ t v<|b.get t v c⟩
abbrev PH:=Nat→Option Obj
def Le (g g':PH):Prop:=∀ b o,g b=some o→g' b=some o
theorem Le.refl (g:PH):Le g g:=fun _ _ h=>h
theorem Le.trans {g g' g'':PH}(h:Le g g')(k:Le g' g''):Le g g'':=fun b o e=>k b o (h b o e)
structure Ent where
 blk:Option Nat
 holds:Option Obj→Prop
abbrev Own:=List Ent
def pt (b:Nat)(o:Obj):Ent:=⟨some b,fun x=>x=some o⟩
def qp (e e':Ent):Prop:=∀ b,e.blk=some b→e'.blk≠some b
structure At (E:World)(g:PH)(s:Own)(w:World):Prop where
 os:w.os=E.os
 tape:w.tape=E.tape∧E.drawn≤w.drawn
 output:w.output=E.output
 known:∀ b o,g b=some o→w.heap[b]?=some o
 own:∀ e∈s,e.holds (e.blk.bind fun b=>w.heap[b]?)
 fresh:∀ e∈s,∀ b,e.blk=some b→g b=none∧b<w.heap.size
 apart:s.Pairwise qp
theorem At.drew {E:World}{g:PH}{s:Own}{w:World}(h:At E g s w)(n:Nat)(hn:w.drawn≤n):At E g s { w with drawn:=n } :=
 ⟨h.os,⟨h.tape.1,Nat.le_trans h.tape.2 hn⟩,h.output,h.known,h.own,h.fresh,h.apart⟩
theorem At.lt {E:World}{g:PH}{s:Own}{w:World}(h:At E g s w){b:Nat}{o:Obj}(hb:g b=some o):b<w.heap.size:=by
 have:=h.known b o hb;exact (Array.getElem?_eq_some_iff.1 this).1
theorem At.sublist {E:World}{g:PH}{s s':Own}{w:World}(h:At E g s w)(a:s'.Sublist s):At E g s' w :=
 ⟨h.os,h.tape,h.output,h.known,fun e b=>h.own e<|a.subset b,fun e b=>h.fresh e<|a.subset b,h.apart.sublist a⟩
theorem qp.symm {e e':Ent}(h:qp e e'):qp e' e:=fun b hb a=>h b a hb
theorem At.perm {E:World}{g:PH}{s s':Own}{w:World}(h:At E g s w)(a:s.Perm s'):At E g s' w :=
 ⟨h.os,h.tape,h.output,h.known,fun e b=>h.own e<|a.mem_iff.2 b,fun e b=>h.fresh e<|a.mem_iff.2 b,(a.pairwise_iff<|fun h=>h.symm).1 h.apart⟩
theorem At.less {E:World}{g g':PH}{s:Own}{w:World}(h:At E g' s w)(hl:Le g g'):At E g s w:=by
 refine⟨h.os,h.tape,h.output,fun b o hb=>h.known b o<|hl b o hb,h.own,fun e a b hb=>⟨?_,(h.fresh e a b hb).2⟩,h.apart⟩;cases hg:g b with
 | none=>rfl
 | some o=>have:=hl b o hg; rw[(h.fresh e a b hb).1] at this; cases this
def upd (g:PH)(b:Nat)(o:Obj):PH:=fun k=>if k=b then some o else g k
theorem El {g:PH}{b:Nat}{o:Obj}(h:g b=none):Le g (upd g b o):=fun k x a=>by
 unfold upd;split
 ·rename_i e; subst e; rw[h] at a; cases a
 ·exact a
theorem fc (g:PH)(b:Nat)(o:Obj):upd g b o b=some o:=by simp[upd]
theorem At.freeze {E:World}{g:PH}{e:Ent}{s:Own}{w:World}(h:At E g (e::s) w){b:Nat}{o:Obj}(hb:e.blk=some b)(f:w.heap[b]?=some o) :
  At E (upd g b o) s w∧Le g (upd g b o):=by
 have i:=h.fresh e (by simp) b hb;refine⟨⟨h.os,h.tape,h.output,fun k x a=>?_,fun e' c=>h.own e' (by simp[c]),fun e' c k a=>⟨?_,(h.fresh e' (by simp[c]) k a).2⟩,(List.pairwise_cons.1 h.apart).2⟩,El i.1⟩
 ·unfold upd at a;split at a
  ·rename_i e1; subst e1; injection a with a; subst a; exact f
  ·exact h.known k x a
 ·have d:k≠b:=fun e1=>by
   subst e1;exact (List.pairwise_cons.1 h.apart).1 e' c k hb a
  simp only[upd,d,if_false];exact (h.fresh e' (by simp[c]) k a).1
section
variable (P:Program)(N:Nat)(E:World)
def SC (c:Code)(Q:Exit→Act→World→Prop)(f:Fr)(g:PH)(s:Own):Prop:=∀ a w,Ok N f a→At E g s w→c.wp P Q a w
def ST (Q:Exit→Act→World→Prop)(e:Exit)(f:Fr)(g:PH)(s:Own):Prop:=∀ a w,Ok N f a→At E g s w→Q e a w
def SL (ops:Array Oper)(Q:Exit→Act→World→Prop)(l:List Oper)(f:Fr)(g:PH)(s:Own):Prop:=∀ a w,Ok N f a→At E g s w→wpList P ops Q l a w
def SU (o:Oper)(f:Fr)(v:Value):Prop:=∀ a w,Ok N f a→(execOp a.eval o).run P w = .ok (.value v) w
def SQ (o:Oper)(f:Fr)(g:PH)(s:Own)(v:Value):Prop:=∀ a w,Ok N f a→At E g s w→(execOp a.eval o).run P w = .ok (.value v) w
def SO (o:Oper)(f:Fr)(g:PH)(s:Own)(K:Value→PH→Own→Prop):Prop :=
 ∀ a w,Ok N f a→At E g s w→∀ (Q:Exit→Act→World→Prop) (next:Act→World→Prop),
  (∀ v g' s' w',K v g' s'→At E g' s' w'→next (a.put o.dst v) w')→o.wp P a w next Q
def Ctr (n:FuncId)(args:Array Value)(g:PH)(s:Own)(R:Value→PH→Own→Prop):Prop :=
 ∀ w,At E g s w→Calls P n args w fun e w'=>∃ v g' s',e = .returned v∧At E g' s' w'∧R v g' s'
end
def nh (E:World)(R:Value→PH→Own→Prop):Ending→World→Prop:=fun e w'=>∃ v g' s',e = .returned v∧At E g' s' w'∧R v g' s'
theorem SU.sq {P:Program}{N:Nat}{E:World}{o:Oper}{f:Fr}{g:PH}{s:Own}{v:Value}(h:SU P N o f v):SQ P N E o f g s v:=fun a w b _=>h a w b
theorem Ctr.mono {P:Program}{E:World}{n:FuncId}{args:Array Value}{g:PH}{s:Own}{R R':Value→PH→Own→Prop}(h:Ctr P E n args g s R)
  (hr:∀ v g' s',R v g' s'→R' v g' s'):Ctr P E n args g s R' :=
 fun w a=>(h w a).mono fun _ _ ⟨v,g',s',b,c,d⟩=>⟨v,g',s',b,c,hr _ _ _ d⟩
section
variable {P:Program}{N:Nat}{E:World}{Q:Exit→Act→World→Prop}{f f':Fr}{g g':PH}{s s':Own}
theorem SC.sub {c:Code}(b:Sub f' f)(h:SC P N E c Q f' g s):SC P N E c Q f g s:=fun a w d e=>h a w (d.sub b) e
theorem SC.drop {c:Code}(b:s'.Sublist s)(h:SC P N E c Q f g s'):SC P N E c Q f g s:=fun a w d e=>h a w d (e.sublist b)
theorem SC.perm {c:Code}(b:s.Perm s')(h:SC P N E c Q f g s'):SC P N E c Q f g s:=fun a w d e=>h a w d (e.perm b)
theorem ST.drop {e:Exit}(b:s'.Sublist s)(h:ST N E Q e f g s'):ST N E Q e f g s:=fun a w c d=>h a w c (d.sublist b)
theorem ST.perm {e:Exit}(b:s.Perm s')(h:ST N E Q e f g s'):ST N E Q e f g s:=fun a w c d=>h a w c (d.perm b)
theorem SC.skip (h:ST N E Q .normal f g s):SC P N E .skip Q f g s:=fun a w b c=>wp_skip (h a w b c)
theorem SC.ret (h:ST N E Q .ret f g s):SC P N E .ret Q f g s:=fun a w b c=>wp_ret (h a w b c)
theorem SC.exit {id:Nat}(h:ST N E Q (.exit id) f g s):SC P N E (.exit id) Q f g s:=fun a w b c=>wp_exit (h a w b c)
theorem SC.label {l:Nat}(h:ST N E Q .normal f g s):SC P N E (.label l) Q f g s:=fun a w b c=>wp_label (h a w b c)
theorem SC.seq {x y:Code}(h:SC P N E x (Exit.then (y.wp P Q) Q) f g s):SC P N E (.seq x y) Q f g s:=fun a w b c=>wp_seq (h a w b c)
theorem SC.block {id:Nat}{c:Code}(h:SC P N E c (Exit.inBlock id Q) f g s):SC P N E (.block id c) Q f g s:=fun a w b d=>wp_block (h a w b d)
theorem SC.cond {c:Operand}{x y:Code}{t:Bool}(d:ev f c=some (.bool t))(h:SC P N E (if t then x else y) Q f g s):SC P N E (.cond c x y) Q f g s :=
 fun a w b e=>wp_cond (b.ev d)<|h a w b e
theorem SC.condT {c:Operand}{x y:Code}(a:ev f c=some (.bool true))(h:SC P N E x Q f g s):SC P N E (.cond c x y) Q f g s:=SC.cond a h
theorem SC.condF {c:Operand}{x y:Code}(a:ev f c=some (.bool false))(h:SC P N E y Q f g s):SC P N E (.cond c x y) Q f g s:=SC.cond a h
theorem SC.ifB {c:Operand}{x y:Code}{t:Bool}(a:ev f c=some (.bool t))(b:t=true→SC P N E x Q f g s)(d:t=false→SC P N E y Q f g s) :
  SC P N E (.cond c x y) Q f g s:=by
 cases t
 ·exact SC.condF a<|d I
 ·exact SC.condT a<|b I
theorem SC.ifP {c:Operand}{x y:Code}{p:Prop}[Decidable p](a:ev f c=some (.bool<|decide p))(b:p→SC P N E x Q f g s)(d:¬ p→SC P N E y Q f g s) :
  SC P N E (.cond c x y) Q f g s :=
 SC.ifB a (fun h=>b<|of_decide_eq_true h) (fun h=>d<|of_decide_eq_false h)
theorem ST.thenN {c:Code}(h:SC P N E c Q f g s):ST N E (Exit.then (c.wp P Q) Q) .normal f g s:=h
theorem ST.thenX {K:Act→World→Prop}{id:Nat}(h:ST N E Q (.exit id) f g s):ST N E (Exit.then K Q) (.exit id) f g s:=h
theorem ST.thenR {K:Act→World→Prop}(h:ST N E Q .ret f g s):ST N E (Exit.then K Q) .ret f g s:=h
theorem ST.blockN {id:Nat}(h:ST N E Q .normal f g s):ST N E (Exit.inBlock id Q) .normal f g s:=h
theorem ST.blockR {id:Nat}(h:ST N E Q .ret f g s):ST N E (Exit.inBlock id Q) .ret f g s:=h
theorem ST.blockX {id:Nat}(h:ST N E Q .normal f g s):ST N E (Exit.inBlock id Q) (.exit id) f g s:=fun a w b c=>by
 simpa [Exit.inBlock] using h a w b c
theorem ST.blockO {id j:Nat}(b:j≠id)(h:ST N E Q (.exit j) f g s):ST N E (Exit.inBlock id Q) (.exit j) f g s:=fun a w c d=>by
 simpa [Exit.inBlock,b] using h a w c d
def Mid {ι:Type}(N:Nat)(E:World)(F:ι→Fr)(G:ι→PH)(S:ι→Own)(J:ι→Prop)(a:Act)(w:World):Prop:=∃ i,Ok N (F i) a∧At E (G i) (S i) w∧J i
theorem SC.cut {ι:Type}{x y:Code}(F:ι→Fr)(G:ι→PH)(S:ι→Own)(J:ι→Prop)(b:SC P N E x (Exit.then (Mid N E F G S J) Q) f g s)
  (c:∀ i,J i→SC P N E y Q (F i) (G i) (S i)):SC P N E (.seq x y) Q f g s:=by
 refine SC.seq fun a w d j=>Code.wp_mono (fun e a' w' h=>?_)<|b a w d j;cases e <;> first | exact h | (obtain ⟨i,k,l,m⟩:=h; exact c i m a' w' k l)
theorem ST.mid {ι:Type}{F:ι→Fr}{G:ι→PH}{S:ι→Own}{J:ι→Prop}(i:ι)(a:Sub (F i) f)(hg:G i=g)(b:S i=s)(c:J i) :
  ST N E (Exit.then (Mid N E F G S J) Q) .normal f g s:=fun _ _ d e=>⟨i,d.sub a,by rw[hg,b]; exact e,c⟩
def FQ {ι:Type}(N:Nat)(E:World)(F:ι→Fr)(G:ι→PH)(S:ι→Own)(J:ι→Prop)(μ:ι→Nat)(i:ι)(a:Act)(w:World):Prop :=
 ∃ j,Ok N (F j) a∧At E (G j) (S j) w∧J j∧μ j<μ i
theorem ST.again {ι:Type}{F:ι→Fr}{G:ι→PH}{S:ι→Own}{J:ι→Prop}{μ:ι→Nat}{i:ι}(j:ι)(a:Sub (F j) f)(hg:G j=g)(b:S j=s)(c:J j)(hμ:μ j<μ i) :
  ST N E (Exit.then (FQ N E F G S J μ i) Q) .normal f g s:=fun _ _ d e=>⟨j,d.sub a,by rw[hg,b]; exact e,c,hμ⟩
theorem SC.loop {ι:Type}{c:Code}(F:ι→Fr)(G:ι→PH)(S:ι→Own)(J:ι→Prop)(μ:ι→Nat)(i:ι)(v:Sub (F i) f)(hg:G i=g)(y:S i=s)(z:J i)
  (round:∀ i,J i→SC P N E c (Exit.then (FQ N E F G S J μ i) Q) (F i) (G i) (S i)):SC P N E (.loop c) Q f g s:=by
 intro a w o A;have key:∀ n,∀ (i:ι) (a:Act) (w:World),μ i=n→Ok N (F i) a→At E (G i) (S i) w→J i→∀ (b:Frame) (k:List Item) (cs:List Frame),
   ∃ e a' w',Q e a' w'∧Arrives P (lone (b.at a<|.code c :: .inLoop c::k) cs w) b k cs e a' w':=by
  intro n;induction n using Nat.strongRecOn with
  | _ n ih =>
   intro i a w hn o B C b k cs;obtain ⟨e,a₁,w₁,h,d⟩:=round i C a w o B b (.inLoop c::k) cs;cases e with
   | normal =>
    obtain ⟨j,p,q,r,t⟩:=h;obtain ⟨e₂,a₂,w₂,u,m⟩:=ih (μ j) (hn ▸ t) j a₁ w₁ rfl p q r b k cs;exact⟨e₂,a₂,w₂,u,.of_steps (Steps.trans d<|.one step_inLoop) m⟩
   | exit id=>exact⟨_,a₁,w₁,h,.pass (x:=.inLoop c) rfl (fun _ _=>.inl<|by simp) d⟩
   | goto l=>exact⟨_,a₁,w₁,h,.pass (x:=.inLoop c) rfl (fun _ _=>.inl<|by simp) d⟩
   | ret=>exact⟨_,a₁,w₁,h,.pass (x:=.inLoop c) rfl (fun _ _=>.inl<|by simp) d⟩
   | panic ch=>exact⟨_,a₁,w₁,h,.pass (x:=.inLoop c) rfl (fun _ _=>.inl<|by simp) d⟩
   | outgrown=>exact⟨_,a₁,w₁,h,.pass (x:=.inLoop c) rfl (fun _ _=>.inl<|by simp) d⟩
 intro b k cs;obtain ⟨e,a',w',h,d⟩:=key _ i a w rfl (o.sub v) (by rw[hg,y]; exact A) z b k cs;exact⟨e,a',w',h,.of_steps (.one step_loop) d⟩
end
def mG:Nat→List Value→Fr
 | _,[]=>[]
 | k,v::r=>(k,v)::mG (k+1) r
theorem ko:∀ (l:List Value) (k t:Nat) (v:Value),aN (mG k l) t=some v→k≤t∧l[t - k]?=some v
 | [],_,_,_,h=>by simp[mG,aN] at h
 | u::r,k,t,v,h=>by
  simp only[mG,aN] at h;by_cases a:k=t
  ·subst a;rw[if_pos rfl] at h;exact⟨Nat.le_refl _,by simpa using h⟩
  ·rw[if_neg a] at h;obtain ⟨c,b⟩:=ko r (k+1) t v h;refine⟨by omega,?_⟩;have:t - k=(t - (k+1))+1:=by omega
   rw[this];simpa using b
theorem Ctr.of {P:Program}{n:FuncId}{fn:Func}{c:Code}{N:Nat}{args:List Value}{E:World}{g:PH}{s:Own}{R:Value→PH→Own→Prop}
  (d:P.funcs[n]?=some fn) (hb:fn.body=some c) (e:fn.ntmps=N) (f:args.length≤N)
  (h:SC P N E c (bodyPost P fn<|nh E R) (mG 0 args) g s):Ctr P E n args.toArray g s R:=by
 intro w i;refine calls_of_wp d hb<|h _ w ⟨I,?_,fun t v j=>?_⟩ i
 ·simp[e]; omega
 ·obtain ⟨_,a⟩:=ko args 0 t v j;have b:t<args.length:=(List.getElem?_eq_some_iff.1<|by simpa using a).1;simp only[Nat.sub_zero] at a;obtain ⟨_,k⟩:=List.getElem?_eq_some_iff.1 a;simp[Array.getElem?_append,b,k]
section
variable {P:Program}{N:Nat}{E:World}{fn:Func}{R:Value→PH→Own→Prop}{e:Exit}{f:Fr}{g:PH}{s:Own}
theorem ST.returnsV {v:Value}(i:e = .ret∨e = .normal)
  (hr:∀ (tmps:Array Value) (w:World),(∀ t v,aN f t=some v→tmps.getD t undef=v)→At E g s w→(results fn tmps).run P w = .ok v w) (d:R v g s) :
  ST N E (bodyPost P fn<|nh E R) e f g s:=by
 intro a w b c;have h:=hr a.tmps w b.at_ c
 rcases i with rfl | rfl
 ·exact⟨b.defers,v,h,v,g,s,I,c,d⟩
 ·exact⟨b.defers,v,h,v,g,s,I,c,d⟩
theorem ST.ret1 {t:Nat}{v:Value}(b:e = .ret∨e = .normal)(hr:fn.results = #[.tmp t])(c:aN f t=some v)(d:R v g s):ST N E (bodyPost P fn<|nh E R) e f g s :=
 ST.returnsV b (fun a w h _=>by rw[results_tmp hr,h t v c]) d
theorem ST.ret0 (a:e = .ret∨e = .normal)(hr:fn.results = #[])(b:R (.tuple #[]) g s):ST N E (bodyPost P fn<|nh E R) e f g s :=
 ST.returnsV a (fun _ _ _ _=>results_none hr _ _ _) b
theorem ST.ret2 {t u:Nat}{v x:Value}(c:e = .ret∨e = .normal)(hr:fn.results = #[.tmp t,.tmp u])(d:aN f t=some v)(h:aN f u=some x)(i:R (.tuple #[v,x]) g s) :
  ST N E (bodyPost P fn<|nh E R) e f g s :=
 ST.returnsV c (fun a w b _=>by rw[results_tmp2 hr,b t v d,b u x h]) i
end
theorem cP:type_of% @SC.perm:=@SC.perm
theorem dR:type_of% @ST.drop:=@ST.drop
theorem kP:type_of% @SC.skip:=@SC.skip
theorem rE:type_of% @SC.ret:=@SC.ret
theorem xI:type_of% @SC.exit:=@SC.exit
theorem sQ:type_of% @SC.seq:=@SC.seq
theorem bK:type_of% @SC.block:=@SC.block
theorem iQ:type_of% @SC.ifB:=@SC.ifB
theorem iP:type_of% @SC.ifP:=@SC.ifP
theorem tN:type_of% @ST.thenN:=@ST.thenN
theorem tX:type_of% @ST.thenX:=@ST.thenX
theorem tR:type_of% @ST.thenR:=@ST.thenR
theorem bN:type_of% @ST.blockN:=@ST.blockN
theorem bR:type_of% @ST.blockR:=@ST.blockR
theorem bX:type_of% @ST.blockX:=@ST.blockX
theorem oP:type_of% @SC.loop:=@SC.loop
end Go.Sy
namespace Go.Sy
open Go
def Gd (N:Nat)(ops:Array Oper)(f:Fr)(o:Oper)(t:Bool):Prop:=∀ a,Ok N f a→Region.wanted o (yielded ops a.tmps)=t
section
variable {N:Nat}{ops:Array Oper}{f:Fr}{o:Oper}
theorem Gd.none (h:o.guard=none):Gd N ops f o true:=fun _ _=>by simp[Region.wanted,h]
theorem Gd.on {j t:Nat}{b c:Bool}(h:o.guard=some (j,b))(k:((ops[j]?).bind fun o:Oper=>o.dst)=some t)(l:aN f t=some (.bool c))(m:t<N):Gd N ops f o (c == b):=by
 intro a i;have d:t<a.tmps.size:=by rw[i.size]; exact m
 have g:=i.at_ t _ l;have e:a.tmps[t]?=some (.bool c):=by
  rw[Array.getElem?_eq_getElem d];simpa [d] using g
 simp only[Region.wanted,h];unfold yielded;simp only[k,Option.bind_some,e];cases c <;> cases b <;> rfl
theorem Gd.onT {j t:Nat}{b:Bool}(h:o.guard=some (j,b))(a:((ops[j]?).bind fun o:Oper=>o.dst)=some t)(c:aN f t=some (.bool b))(d:t<N):Gd N ops f o true:=by
 have:=Gd.on (N:=N) h a c d;simpa using this
theorem Gd.onF {j t:Nat}{b:Bool}(h:o.guard=some (j,b))(a:((ops[j]?).bind fun o:Oper=>o.dst)=some t)(c:aN f t=some (.bool<|!b))(d:t<N):Gd N ops f o false:=by
 have:=Gd.on (N:=N) h a c d;cases b <;> simpa using this
theorem Gd.off {j t:Nat}{b:Bool}(h:o.guard=some (j,b))(i:((ops[j]?).bind fun o:Oper=>o.dst)=some t)(k:aN f t=some undef)(l:t<N):Gd N ops f o false:=by
 intro a g;have c:t<a.tmps.size:=by rw[g.size]; exact l
 have e:=g.at_ t _ k;have d:a.tmps[t]?=some undef:=by
  rw[Array.getElem?_eq_getElem c];simpa [c] using e
 simp only[Region.wanted,h];unfold yielded;simp only[i,Option.bind_some,d];cases b <;> rfl
end
section
variable {P:Program}{N:Nat}{E:World}{ops:Array Oper}{Q:Exit→Act→World→Prop}{f f':Fr}{g:PH}{s s':Own}{rest:List Oper}
theorem SL.drop {l:List Oper}(b:s'.Sublist s)(h:SL P N E ops Q l f g s'):SL P N E ops Q l f g s:=fun a w c d=>h a w c (d.sublist b)
theorem SC.region {id:Nat}{l:List Oper}(h:SL P N E l.toArray Q l f g s):SC P N E (.region id l.toArray false) Q f g s:=fun a w b c=>wp_region_lit (h a w b c)
theorem SL.nil (h:ST N E Q .normal f g s):SL P N E ops Q [] f g s:=fun a w b c=>wpList_nil (h a w b c)
theorem SL.gq {d:Nat}{op:Op}{ty:TypeId}{pos:String}{af:Array Edge}{gd:Option (Nat×Bool)}{v:Value}(c:Gd N ops f ⟨some d,op,ty,pos,af,gd⟩ true)
  (e:SQ P N E ⟨some d,op,ty,pos,af,gd⟩ f g s v) (hd:d<N) (h:SL P N E ops Q rest ((d,v)::f) g s):SL P N E ops Q (⟨some d,op,ty,pos,af,gd⟩::rest) f g s:=by
 intro a w b hm;unfold wpList;rw[if_pos<|c a b];refine .inl ?_;unfold Oper.wp;rw[e a w b hm];exact h _ w (b.put hd v) hm
theorem SL.q {d:Nat}{op:Op}{ty:TypeId}{pos:String}{af:Array Edge}{v:Value}
  (a:SQ P N E ⟨some d,op,ty,pos,af,none⟩ f g s v) (hd:d<N) (h:SL P N E ops Q rest ((d,v)::f) g s):SL P N E ops Q (⟨some d,op,ty,pos,af,none⟩::rest) f g s :=
 SL.gq (Gd.none rfl) a hd h
theorem SL.gu {d:Nat}{op:Op}{ty:TypeId}{pos:String}{af:Array Edge}{gd:Option (Nat×Bool)}{v:Value}(a:Gd N ops f ⟨some d,op,ty,pos,af,gd⟩ true)
  (b:SU P N ⟨some d,op,ty,pos,af,gd⟩ f v) (hd:d<N) (h:SL P N E ops Q rest ((d,v)::f) g s):SL P N E ops Q (⟨some d,op,ty,pos,af,gd⟩::rest) f g s:=SL.gq a b.sq hd h
theorem SL.u {d:Nat}{op:Op}{ty:TypeId}{pos:String}{af:Array Edge}{v:Value}
  (a:SU P N ⟨some d,op,ty,pos,af,none⟩ f v) (hd:d<N) (h:SL P N E ops Q rest ((d,v)::f) g s):SL P N E ops Q (⟨some d,op,ty,pos,af,none⟩::rest) f g s:=SL.q a.sq hd h
theorem SL.go {d:Nat}{op:Op}{ty:TypeId}{pos:String}{af:Array Edge}{gd:Option (Nat×Bool)}{K:Value→PH→Own→Prop}(e:Gd N ops f ⟨some d,op,ty,pos,af,gd⟩ true)
  (i:SO P N E ⟨some d,op,ty,pos,af,gd⟩ f g s K) (hd:d<N) (h:∀ v g' s',K v g' s'→SL P N E ops Q rest ((d,v)::f) g' s'):SL P N E ops Q (⟨some d,op,ty,pos,af,gd⟩::rest) f g s:=by
 intro a w b hm;unfold wpList;rw[if_pos<|e a b];exact .inl (i a w b hm Q _ fun v g' s' w' j c=>h v g' s' j _ w' (b.put hd v) c)
theorem SL.o {d:Nat}{op:Op}{ty:TypeId}{pos:String}{af:Array Edge}{K:Value→PH→Own→Prop}
  (a:SO P N E ⟨some d,op,ty,pos,af,none⟩ f g s K) (hd:d<N) (h:∀ v g' s',K v g' s'→SL P N E ops Q rest ((d,v)::f) g' s'):SL P N E ops Q (⟨some d,op,ty,pos,af,none⟩::rest) f g s :=
 SL.go (Gd.none rfl) a hd h
theorem SL.gon {op:Op}{ty:TypeId}{pos:String}{af:Array Edge}{gd:Option (Nat×Bool)}{K:Value→PH→Own→Prop}(d:Gd N ops f ⟨none,op,ty,pos,af,gd⟩ true)
  (e:SO P N E ⟨none,op,ty,pos,af,gd⟩ f g s K) (h:∀ v g' s',K v g' s'→SL P N E ops Q rest f g' s'):SL P N E ops Q (⟨none,op,ty,pos,af,gd⟩::rest) f g s:=by
 intro a w b hm;unfold wpList;rw[if_pos<|d a b];exact .inl (e a w b hm Q _ fun v g' s' w' i c=>h v g' s' i _ w' b c)
theorem SL.on {op:Op}{ty:TypeId}{pos:String}{af:Array Edge}{K:Value→PH→Own→Prop}
  (a:SO P N E ⟨none,op,ty,pos,af,none⟩ f g s K) (h:∀ v g' s',K v g' s'→SL P N E ops Q rest f g' s'):SL P N E ops Q (⟨none,op,ty,pos,af,none⟩::rest) f g s :=
 SL.gon (Gd.none rfl) a h
theorem SL.off {d:Nat}{op:Op}{ty:TypeId}{pos:String}{af:Array Edge}{gd:Option (Nat×Bool)}(c:Gd N ops f ⟨some d,op,ty,pos,af,gd⟩ false)
  (hd:d<N) (h:SL P N E ops Q rest ((d,undef)::f) g s):SL P N E ops Q (⟨some d,op,ty,pos,af,gd⟩::rest) f g s:=by
 intro a w b hm;unfold wpList;rw[if_neg (by rw[c a b]; simp)];exact h _ w (b.put hd undef) hm
theorem SQ.so {o:Oper}{v:Value}(h:SQ P N E o f g s v):SO P N E o f g s fun v' g' s'=>v'=v∧g'=g∧s'=s:=by
 intro a w b hm Q next hn;unfold Oper.wp;rw[h a w b hm];exact hn v g s w ⟨I,I,I⟩ hm
end
class Quiet (Q:Exit→Act→World→Prop):Prop where
 out:∀ c a a' w,a.defers=a'.defers→Q (.panic c) a w→Q (.panic c) a' w
instance quiet_then {K:Act→World→Prop}{Q:Exit→Act→World→Prop}[h:Quiet Q]:Quiet (Exit.then K Q):=⟨fun c a a' w hd hq=>h.out c a a' w hd hq⟩
instance quiet_block {id:Nat}{Q:Exit→Act→World→Prop}[h:Quiet Q]:Quiet (Exit.inBlock id Q):=⟨fun c a a' w hd hq=>h.out c a a' w hd hq⟩
instance quiet_body {P:Program}{fn:Func}{R:Ending→World→Prop}:Quiet (bodyPost P fn R):=⟨fun _ _ _ _ hd hq=>⟨hd ▸ hq.1,hq.2⟩⟩
def fz (tail:List Nat)(L:Array Bool):Bool:=tail.any fun j=>L.getD j false
def kU (P:Program)(ops:Array Oper)(Q:Exit→Act→World→Prop)(S:World→Prop)(tail:List Nat):Nat→Array Bool→Act→World→Prop
 | 0,L,a,w=>Region.ready .any ops L=[]∧Q .normal a w
 | n+1,L,a,w=>(Region.ready .any ops L=[]→Q .normal a w) ∧
  ∀ i∈Region.ready .any ops L,wpOp P ops Q i (fun a' w'=>(fz tail (L.setIfInBounds i true)=false→S w')∧kU P ops Q S tail n (L.setIfInBounds i true) a' w') a w
section
variable {P:Program}{ops:Array Oper}{Q:Exit→Act→World→Prop}{S:World→Prop}{tail:List Nat}
theorem iV:∀ (n:Nat) (L:Array Bool) (a:Act) (w:World),kU P ops Q S tail n L a w→wpAny P .any ops Q n L a w
 | 0,_,_,_,h=>h
 | n+1,_,_,_,h=>⟨h.1,fun i b=>wpOp_mono (fun a' w' c=>iV n _ a' w' c.2)<|h.2 i b⟩
theorem ek {L:Array Bool}{i:Nat}(a:i ∉ tail):fz tail (L.setIfInBounds i true)=fz tail L:=by
 unfold fz;induction tail with
 | nil=>rfl
 | cons j t ih =>
  simp only[List.mem_cons,not_or] at a;simp only[List.any_cons,getD_set_ne false a.1,ih a.2]
def mQ (ops:Array Oper)(L:Array Bool):Prop:=∀ (q:Nat) (oq:Oper),ops[q]?=some oq→L.getD q false=true→∀ e∈oq.after,Region.binds .any e=true→L.getD e.on false=true
theorem cg {L:Array Bool}{i:Nat}(h:mQ ops L)(f:i∈Region.ready .any ops L):mQ ops (L.setIfInBounds i true):=by
 intro q oq a hl e d hb;by_cases b:i=q
 ·subst b;obtain ⟨_,o,g,c⟩:=mem_ready.1 f;rw[g] at a;injection a with a
  subst a;exact getD_set_true<|c e d hb
 ·rw[getD_set_ne false b] at hl;exact getD_set_true<|h q oq a hl e d hb
theorem jp (n:Nat):mQ ops (Array.replicate n false):=by
 intro q oq _ hl;exfalso
 rcases Nat.lt_or_ge q n with h | h
 ·simp[h] at hl
 ·simp[Nat.not_lt.2 h] at hl
def uX (ops:Array Oper):Nat→Nat→Nat→Bool
 | 0,_,_=>false
 | n+1,j,i=>match ops[j]? with
  | some oj=>oj.after.any fun e=>Region.binds .any e&&(e.on == i||uX ops n e.on i)
  | none=>false
theorem qK {L:Array Bool}{i:Nat}(f:mQ ops L)(g:L.getD i false=false):∀ (n j:Nat),uX ops n j i=true→j ∉ Region.ready .any ops L∧L.getD j false=false
 | 0,j,h=>by simp[uX] at h
 | n+1,j,h=>by
  unfold uX at h;split at h
  ·rename_i oj a;obtain ⟨e,k,hb⟩:=Array.any_eq_true'.1 h;simp only[Bool.and_eq_true,Bool.or_eq_true,beq_iff_eq] at hb;have b:L.getD e.on false=false:=by
    rcases hb.2 with d | d
    ·rw[d]; exact g
    ·exact (qK f g n e.on d).2
   refine⟨fun hr=>?_,?_⟩
   ·obtain ⟨_,o,l,c⟩:=mem_ready.1 hr;rw[l] at a;injection a with a
    subst a;have:=c e k hb.1;rw[b] at this;cases this
   ·cases hl:L.getD j false with
    | false=>rfl
    | true =>
     have:=f j oj a hl e k hb.1;rw[b] at this;cases this
  ·cases h
theorem j5 {i:Nat}{oi:Oper}{v:Value}(J:ops[i]?=some oi)(m:∀ (j:Nat) (o:Oper) cs b,ops[j]?=some o→o.op ≠ .select cs b)
  (V:∀ c a w,Q (.panic c) (a.put oi.dst v) w→Q (.panic c) a w) (K:i ∉ tail)
  (q:∀ j∈tail,∃ n,uX ops n j i=true) :
  ∀ (n:Nat) (L:Array Bool) (a:Act) (w:World),mQ ops L →
   (∀ j oj,ops[j]?=some oj→j≠i→L.getD j true=false→(∀ e∈oj.after,Region.binds .any e=true→e.on≠i)→oi.apart ops oj=true) →
   i∈Region.ready .any ops L→YieldsIf P ops S oi v a→fz tail L=false→S w →
   kU P ops Q S tail n (L.setIfInBounds i true) (a.put oi.dst v) w→kU P ops Q S tail (n+1) L a w:=by
 intro n;induction n with
 | zero =>
  intro L a w _ _ hr G hb x H;refine⟨fun h=>(by rw[h] at hr; cases hr),fun j u=>?_⟩;by_cases d:j=i
  ·subst d; exact G.wpOp J x ⟨fun _=>x,H⟩
  ·have:=ready_mono u d;rw[H.1] at this;cases this
 | succ n ih =>
  intro L a w y f hr G hb x H;refine⟨fun h=>(by rw[h] at hr; cases hr),fun j u=>?_⟩;by_cases d:j=i
  ·subst d; exact G.wpOp J x ⟨fun _=>x,H⟩
  ·have r:=H.2 j<|ready_mono u d;obtain ⟨p,oj,s,z⟩:=mem_ready.1 u;have A:∀ e∈oj.after,Region.binds .any e=true→e.on≠i:=fun e W hb M=>by
    have r:=z e W hb;have B:=(mem_ready.1 hr).1;rw[M] at r
    rcases Nat.lt_or_ge i L.size with t | t
    ·simp[t] at B r; rw[B] at r; cases r
    ·simp[Array.getElem?_eq_none t] at r
   have C:L.getD i false=false:=by
    have B:=(mem_ready.1 hr).1
    rcases Nat.lt_or_ge i L.size with t | t
    ·simpa [t] using B
    ·simp[Array.getElem?_eq_none t] at B
   have g:j ∉ tail:=fun g=>by
    obtain ⟨n',N⟩:=q j g;exact (qK y C n' j N).1 u
   have X:=wpOp_putIf s (f j oj s d p A) (fun cs b=>m i oi cs b J) (fun cs b=>m j oj cs b s) V G r;have l:∀ k ok,ops[k]?=some ok→k≠i→(L.setIfInBounds j true).getD k true=false →
     (∀ e∈ok.after,Region.binds .any e=true→e.on≠i)→oi.apart ops ok=true:=fun k ok Y O D R=>by
    refine f k ok Y O ?_ R;by_cases E:j=k
    ·subst E; exact p
    ·rw[getD_set_ne true E] at D; exact D
   have T:fz tail (L.setIfInBounds j true)=false:=by rw[ek g]; exact hb
   refine wpOp_mono (fun a' w' U=>?_) X;have F:S w':=U.2.1 (by rw[ek g,ek K]; exact hb);refine⟨fun _=>F,ih (L.setIfInBounds j true) a' w' (cg y u) l (ready_mono hr<|Ne.symm d) U.1 T F ?_⟩;rw[Array.setIfInBounds_comm _ _ d];exact U.2.2
theorem gY {i:Nat}{oi:Oper}{v:Value}(B:ops[i]?=some oi)(l:∀ (j:Nat) (o:Oper) cs b,ops[j]?=some o→o.op ≠ .select cs b)
  (M:∀ c a w,Q (.panic c) (a.put oi.dst v) w→Q (.panic c) a w) (p:i ∉ tail) :
  ∀ (n:Nat) (L:Array Bool) (a:Act) (w:World),
   (∀ j oj,ops[j]?=some oj→j≠i→L.getD j true=false→(∀ e∈oj.after,Region.binds .any e=true→e.on≠i)→oi.apart ops oj=true) →
   i∈Region.ready .any ops L→Yields P ops oi v a→(fz tail L=false→S w) →
   kU P ops Q S tail n (L.setIfInBounds i true) (a.put oi.dst v) w→kU P ops Q S tail (n+1) L a w:=by
 intro n;induction n with
 | zero =>
  intro L a w _ hr z C H;refine⟨fun h=>(by rw[h] at hr; cases hr),fun j A=>?_⟩;by_cases d:j=i
  ·subst d; exact z.wpOp B ⟨fun hb=>C (by rwa [ek p] at hb),H⟩
  ·have:=ready_mono A d;rw[H.1] at this;cases this
 | succ n ih =>
  intro L a w f hr z C H;refine⟨fun h=>(by rw[h] at hr; cases hr),fun j A=>?_⟩;by_cases d:j=i
  ·subst d; exact z.wpOp B ⟨fun hb=>C (by rwa [ek p] at hb),H⟩
  ·have q:=H.2 j<|ready_mono A d;obtain ⟨m,oj,r,s⟩:=mem_ready.1 A;have t:∀ e∈oj.after,Region.binds .any e=true→e.on≠i:=fun e N hb D=>by
    have q:=s e N hb;have K:=(mem_ready.1 hr).1;rw[D] at q
    rcases Nat.lt_or_ge i L.size with E | E
    ·simp[E] at K q; rw[K] at q; cases q
    ·simp[Array.getElem?_eq_none E] at q
   have O:=wpOp_put r (f j oj r d m t) (fun cs b=>l i oi cs b B) (fun cs b=>l j oj cs b r) M z q;have g:∀ k ok,ops[k]?=some ok→k≠i→(L.setIfInBounds j true).getD k true=false →
     (∀ e∈ok.after,Region.binds .any e=true→e.on≠i)→oi.apart ops ok=true:=fun k ok R F u G=>by
    refine f k ok R F ?_ G;by_cases x:j=k
    ·subst x; exact m
    ·rw[getD_set_ne true x] at u; exact u
   refine wpOp_mono (fun a' w' J=>?_) O;have y:fz tail (L.setIfInBounds j true)=false→S w':=fun hb=>J.2.1 (by
    have e1:fz tail ((L.setIfInBounds i true).setIfInBounds j true)=fz tail (L.setIfInBounds j true):=by
     rw[Array.setIfInBounds_comm _ _<|Ne.symm d,ek p]
    rw[e1]; exact hb)
   refine⟨y,ih (L.setIfInBounds j true) a' w' g (ready_mono hr<|Ne.symm d) J.1 y ?_⟩;rw[Array.setIfInBounds_comm _ _ d];exact J.2.2
def lX (ops:Array Oper)(tail:List Nat)(i:Nat):Bool:=tail.all fun j=>uX ops 8 j i
theorem iE {i:Nat}(h:lX ops tail i=true):∀ j∈tail,∃ n,uX ops n j i=true:=by
 intro j a;unfold lX at h;rw[List.all_eq_true] at h;exact⟨8,h j a⟩
def i6 (ops:Array Oper)(tail:List Nat):List (Nat×Nat)→Array Bool→Bool
 | [],L=>(Region.ready .any ops L).isEmpty
 | (i,2)::r,L=>(Region.ready .any ops L).contains i&&Region.free .any ops L i && !tail.contains i&&i6 ops tail r (L.setIfInBounds i true)
 | (i,1)::r,L=>(Region.ready .any ops L).contains i&&Region.free .any ops L i&&lX ops tail i && !tail.contains i && !fz tail L&&i6 ops tail r (L.setIfInBounds i true)
 | (i,_)::r,L=>(Region.ready .any ops L == [i])&&i6 ops tail r (L.setIfInBounds i true)
def wm (ops:Array Oper)(tail:List Nat)(plan:List (Nat×Nat)):Bool :=
 Region.noSelect ops&&(plan.length == ops.size)&&i6 ops tail plan (Array.replicate ops.size false)
end
section
variable (P:Program)(N:Nat)(E:World)(ops:Array Oper)(Q:Exit→Act→World→Prop)(g0:PH)(s0:Own)(tail:List Nat)
def SP (plan:List (Nat×Nat))(f:Fr)(g:PH)(s:Own):Prop :=
 ∀ L a w,Region.noSelect ops=true→mQ ops L→i6 ops tail plan L=true→Ok N f a→At E g s w→(fz tail L=false→At E g0 s0 w)→kU P ops Q (At E g0 s0) tail plan.length L a w
end
section
variable {P:Program}{N:Nat}{E:World}{ops:Array Oper}{Q:Exit→Act→World→Prop}{g0:PH}{s0:Own}{tail:List Nat}{f f':Fr}{g:PH}{s s':Own}{plan:List (Nat×Nat)}
theorem SC.draw {id:Nat}(tail:List Nat)(plan:List (Nat×Nat))(hm:P.follows .mixedOrders=true)(b:wm ops tail plan=true)
  (h:SP P N E ops Q g s tail plan f g s):SC P N E (.region id ops true) Q f g s:=by
 intro a w d c;unfold wm at b;simp only[Bool.and_eq_true,beq_iff_eq] at b;refine wp_region_any hm<|iV _ _ _ _ (S:=At E g s) (tail:=tail) ?_;have:=h (Array.replicate ops.size false) a { w with drawn:=w.drawn+1 } b.1.1 (jp _) b.2 d (c.drew _<|Nat.le_succ _) (fun _=>c.drew _<|Nat.le_succ _);rw[b.1.2] at this;exact this
theorem SP.drop (c:s'.Sublist s)(h:SP P N E ops Q g0 s0 tail plan f g s'):SP P N E ops Q g0 s0 tail plan f g s:=fun L a w d b e i j hb=>h L a w d b e i (j.sublist c) hb
theorem SP.nil (h:ST N E Q .normal f g s):SP P N E ops Q g0 s0 tail [] f g s:=by
 intro L a w _ _ b c d _;simp only[i6,List.isEmpty_iff] at b;exact⟨b,h a w c d⟩
theorem cY (a:Act)(d:Nat)(v:Value):(a.put (some d) v).defers=a.defers:=rfl
theorem SP.gq [p:Quiet Q]{i d:Nat}{op:Op}{ty:TypeId}{pos:String}{af:Array Edge}{gd:Option (Nat×Bool)}{v:Value}(l:ops[i]?=some ⟨some d,op,ty,pos,af,gd⟩)
  (hg:Gd N ops f ⟨some d,op,ty,pos,af,gd⟩ true) (q:SQ P N E ⟨some d,op,ty,pos,af,gd⟩ f g0 s0 v) (hd:d<N)
  (h:SP P N E ops Q g0 s0 tail plan ((d,v)::f) g s):SP P N E ops Q g0 s0 tail ((i,1)::plan) f g s:=by
 intro L a w m b n e r hb;simp only[i6,Bool.and_eq_true,Bool.not_eq_true'] at n;obtain ⟨⟨⟨⟨⟨o,t⟩,u⟩,x⟩,j⟩,y⟩:=n;refine j5 l (Region.noSelect_spec m) (fun c a w z=>p.out c _ _ w (cY a d v) z) (by simpa using x) (iE u) _ L a w b (Region.free_spec l t) (by simpa using o)
  (.inl ⟨hg a e,fun w' k=>q a w' e k⟩) j (hb j) ?_
 exact h _ _ w m (cg b<|by simpa using o) y (e.put hd v) r (fun A=>hb j)
theorem SP.q [c:Quiet Q]{i d:Nat}{op:Op}{ty:TypeId}{pos:String}{af:Array Edge}{v:Value}(a:ops[i]?=some ⟨some d,op,ty,pos,af,none⟩)
  (b:SQ P N E ⟨some d,op,ty,pos,af,none⟩ f g0 s0 v) (hd:d<N)
  (h:SP P N E ops Q g0 s0 tail plan ((d,v)::f) g s):SP P N E ops Q g0 s0 tail ((i,1)::plan) f g s:=SP.gq a (Gd.none rfl) b hd h
theorem SP.gu [p:Quiet Q]{i d:Nat}{op:Op}{ty:TypeId}{pos:String}{af:Array Edge}{gd:Option (Nat×Bool)}{v:Value}(l:ops[i]?=some ⟨some d,op,ty,pos,af,gd⟩)
  (hg:Gd N ops f ⟨some d,op,ty,pos,af,gd⟩ true) (q:SU P N ⟨some d,op,ty,pos,af,gd⟩ f v) (hd:d<N)
  (h:SP P N E ops Q g0 s0 tail plan ((d,v)::f) g s):SP P N E ops Q g0 s0 tail ((i,2)::plan) f g s:=by
 intro L a w m e n j r hb;simp only[i6,Bool.and_eq_true,Bool.not_eq_true'] at n;obtain ⟨⟨⟨o,t⟩,u⟩,x⟩:=n;have b:i ∉ tail:=by simpa using u
 refine gY l (Region.noSelect_spec m) (fun c a w y=>p.out c _ _ w (cY a d v) y) b _ L a w (Region.free_spec l t) (by simpa using o)
  (.inl ⟨hg a j,fun w'=>q a w' j⟩) hb ?_
 exact h _ _ w m (cg e<|by simpa using o) x (j.put hd v) r (fun k=>hb<|by rwa [ek b] at k)
theorem SP.u [c:Quiet Q]{i d:Nat}{op:Op}{ty:TypeId}{pos:String}{af:Array Edge}{v:Value}(a:ops[i]?=some ⟨some d,op,ty,pos,af,none⟩)
  (b:SU P N ⟨some d,op,ty,pos,af,none⟩ f v) (hd:d<N)
  (h:SP P N E ops Q g0 s0 tail plan ((d,v)::f) g s):SP P N E ops Q g0 s0 tail ((i,2)::plan) f g s:=SP.gu a (Gd.none rfl) b hd h
theorem SP.off [p:Quiet Q]{i d:Nat}{op:Op}{ty:TypeId}{pos:String}{af:Array Edge}{gd:Option (Nat×Bool)}(k:ops[i]?=some ⟨some d,op,ty,pos,af,gd⟩)
  (hg:Gd N ops f ⟨some d,op,ty,pos,af,gd⟩ false) (hd:d<N)
  (h:SP P N E ops Q g0 s0 tail plan ((d,undef)::f) g s):SP P N E ops Q g0 s0 tail ((i,2)::plan) f g s:=by
 intro L a w l e m n q hb;simp only[i6,Bool.and_eq_true,Bool.not_eq_true'] at m;obtain ⟨⟨⟨o,r⟩,t⟩,u⟩:=m;have b:i ∉ tail:=by simpa using t
 refine gY k (Region.noSelect_spec l) (fun c a w v=>p.out c _ _ w (cY a d undef) v) b _ L a w (Region.free_spec k r) (by simpa using o)
  (.inr ⟨hg a n,rfl⟩) hb ?_
 exact h _ _ w l (cg e<|by simpa using o) u (n.put hd undef) q (fun j=>hb<|by rwa [ek b] at j)
theorem SP.off1 [m:Quiet Q]{i d:Nat}{op:Op}{ty:TypeId}{pos:String}{af:Array Edge}{gd:Option (Nat×Bool)}(e:ops[i]?=some ⟨some d,op,ty,pos,af,gd⟩)
  (hg:Gd N ops f ⟨some d,op,ty,pos,af,gd⟩ false) (hd:d<N)
  (h:SP P N E ops Q g0 s0 tail plan ((d,undef)::f) g s):SP P N E ops Q g0 s0 tail ((i,1)::plan) f g s:=by
 intro L a w j c b k l hb;refine SP.off e hg hd h L a w j c ?_ k l hb;simp only[i6,Bool.and_eq_true] at b ⊢;exact⟨⟨⟨b.1.1.1.1.1,b.1.1.1.1.2⟩,b.1.1.2⟩,b.2⟩
theorem SP.step {i:Nat}{o:Oper}{K:Value→PH→Own→Prop}(u:ops[i]?=some o)(hg:Gd N ops f o true)(x:SO P N E o f g s K)
  (d:i∈tail∨∀ v g' s',K v g' s'→Le g0 g'∧s0.Sublist s')
  (h:∀ v g' s' a,K v g' s'→Ok N f a→∃ f',Ok N f' (a.put o.dst v)∧SP P N E ops Q g0 s0 tail plan f' g' s'):SP P N E ops Q g0 s0 tail ((i,0)::plan) f g s:=by
 intro L a w y l b m z hb;simp only[i6,Bool.and_eq_true,beq_iff_eq] at b;refine⟨fun c=>(by rw[b.1] at c; cases c),fun j n=>?_⟩;rw[b.1] at n;simp only[List.mem_singleton] at n;subst n;unfold wpOp;simp only[u];rw[if_pos<|hg a m];refine .inl (x a w m z Q _ fun v g' s' w' t e=>?_);have k:fz tail (L.setIfInBounds j true)=false→At E g0 s0 w':=by
  intro c
  rcases d with d | d
  ·exfalso;have hr:j∈Region.ready .any ops L:=by rw[b.1]; simp
   have p:j<L.size:=by
    rcases Nat.lt_or_ge j L.size with q | q
    ·exact q
    ·have:=(mem_ready.1 hr).1;simp[Array.getElem?_eq_none q] at this
   unfold fz at c;rw[List.any_eq_false] at c;have:=c j d;simp[p] at this
  ·obtain ⟨A,B⟩:=d v g' s' t;exact (e.less A).sublist B
 obtain ⟨f',r,hn⟩:=h v g' s' a t m;exact⟨k,hn _ _ w' y (cg l (by rw[b.1]; simp)) b.2 r e k⟩
theorem SP.o {i d:Nat}{op:Op}{ty:TypeId}{pos:String}{af:Array Edge}{K:Value→PH→Own→Prop}(a:ops[i]?=some ⟨some d,op,ty,pos,af,none⟩)
  (b:SO P N E ⟨some d,op,ty,pos,af,none⟩ f g s K) (hd:d<N) (c:i∈tail∨∀ v g' s',K v g' s'→Le g0 g'∧s0.Sublist s')
  (h:∀ v g' s',K v g' s'→SP P N E ops Q g0 s0 tail plan ((d,v)::f) g' s'):SP P N E ops Q g0 s0 tail ((i,0)::plan) f g s :=
 SP.step a (Gd.none rfl) b c fun v g' s' _ e j=>⟨_,j.put hd v,h v g' s' e⟩
theorem SP.on {i:Nat}{op:Op}{ty:TypeId}{pos:String}{af:Array Edge}{K:Value→PH→Own→Prop}(a:ops[i]?=some ⟨none,op,ty,pos,af,none⟩)
  (b:SO P N E ⟨none,op,ty,pos,af,none⟩ f g s K) (c:i∈tail∨∀ v g' s',K v g' s'→Le g0 g'∧s0.Sublist s')
  (h:∀ v g' s',K v g' s'→SP P N E ops Q g0 s0 tail plan f g' s'):SP P N E ops Q g0 s0 tail ((i,0)::plan) f g s :=
 SP.step a (Gd.none rfl) b c fun v g' s' _ d e=>⟨f,e,h v g' s' d⟩
theorem SP.go {i d:Nat}{op:Op}{ty:TypeId}{pos:String}{af:Array Edge}{gd:Option (Nat×Bool)}{K:Value→PH→Own→Prop}(a:ops[i]?=some ⟨some d,op,ty,pos,af,gd⟩)
  (hg:Gd N ops f ⟨some d,op,ty,pos,af,gd⟩ true)
  (b:SO P N E ⟨some d,op,ty,pos,af,gd⟩ f g s K) (hd:d<N) (c:i∈tail∨∀ v g' s',K v g' s'→Le g0 g'∧s0.Sublist s')
  (h:∀ v g' s',K v g' s'→SP P N E ops Q g0 s0 tail plan ((d,v)::f) g' s'):SP P N E ops Q g0 s0 tail ((i,0)::plan) f g s :=
 SP.step a hg b c fun v g' s' _ e j=>⟨_,j.put hd v,h v g' s' e⟩
theorem SP.oq {i d:Nat}{op:Op}{ty:TypeId}{pos:String}{af:Array Edge}{v:Value}(b:ops[i]?=some ⟨some d,op,ty,pos,af,none⟩)
  (c:SQ P N E ⟨some d,op,ty,pos,af,none⟩ f g s v) (hd:d<N) (a:i∈tail∨(Le g0 g∧s0.Sublist s))
  (h:SP P N E ops Q g0 s0 tail plan ((d,v)::f) g s):SP P N E ops Q g0 s0 tail ((i,0)::plan) f g s :=
 SP.o b c.so hd (a.imp id fun a v g' s' ⟨_,e1,e2⟩=>by subst e1; subst e2; exact a) fun v' g' s' ⟨e1,e2,e3⟩=>by subst e1; subst e2; subst e3; exact h
theorem SP.ou {i d:Nat}{op:Op}{ty:TypeId}{pos:String}{af:Array Edge}{v:Value}(a:ops[i]?=some ⟨some d,op,ty,pos,af,none⟩)
  (b:SU P N ⟨some d,op,ty,pos,af,none⟩ f v) (hd:d<N) (c:i∈tail∨(Le g0 g∧s0.Sublist s))
  (h:SP P N E ops Q g0 s0 tail plan ((d,v)::f) g s):SP P N E ops Q g0 s0 tail ((i,0)::plan) f g s:=SP.oq a b.sq hd c h
theorem SP.offo {i d:Nat}{op:Op}{ty:TypeId}{pos:String}{af:Array Edge}{gd:Option (Nat×Bool)}(p:ops[i]?=some ⟨some d,op,ty,pos,af,gd⟩)
  (hg:Gd N ops f ⟨some d,op,ty,pos,af,gd⟩ false) (hd:d<N) (l:Le g0 g∧s0.Sublist s)
  (h:SP P N E ops Q g0 s0 tail plan ((d,undef)::f) g s):SP P N E ops Q g0 s0 tail ((i,0)::plan) f g s:=by
 intro L a w q e b m n hb;simp only[i6,Bool.and_eq_true,beq_iff_eq] at b;refine⟨fun o=>(by rw[b.1] at o; cases o),fun j k=>?_⟩;rw[b.1] at k;simp only[List.mem_singleton] at k;subst k;unfold wpOp;simp only[p];rw[if_neg (by rw[hg a m]; simp)];have c:fz tail (L.setIfInBounds j true)=false→At E g0 s0 w:=fun _=>(n.less l.1).sublist l.2;exact⟨c,h _ _ w q (cg e (by rw[b.1]; simp)) b.2 (m.put hd undef) n c⟩
end
theorem gT:type_of% @Gd.onT:=@Gd.onT
theorem gZ:type_of% @Gd.onF:=@Gd.onF
theorem rG:type_of% @SC.region:=@SC.region
theorem lO:type_of% @SL.on:=@SL.on
theorem dW:type_of% @SC.draw:=@SC.draw
theorem pN:type_of% @SP.nil:=@SP.nil
theorem pQ:type_of% @SP.q:=@SP.q
theorem vZ:type_of% @SP.u:=@SP.u
theorem fP:type_of% @SP.off:=@SP.off
theorem oQ:type_of% @SP.oq:=@SP.oq
theorem oU:type_of% @SP.ou:=@SP.ou
theorem fO:type_of% @SP.offo:=@SP.offo
end Go.Sy
namespace Go.Sy
open Go
abbrev pp (b o:Nat):Value:=.pointer (some ⟨b,o,none⟩)
abbrev vi (n:Int):Value:=.int .i64 n
abbrev vb (b:Bool):Value:=.bool b
section
variable {P:Program}{N:Nat}{E:World}{f:Fr}{g:PH}{s:Own}{dst:Option Tmp}{ty:TypeId}{pos:String}{af:Array Edge}{gd:Option (Nat×Bool)}
theorem SU.move {x:Operand}{v:Value}(b:ev f x=some v):SU P N ⟨dst,.move x,ty,pos,af,gd⟩ f v:=fun a w c=>by
 simp only[execOp,c.ev b]; rfl
theorem SU.assign {x:Operand}{v:Value}(b:ev f x=some v):SU P N ⟨dst,.assign x,ty,pos,af,gd⟩ f v:=fun a w c=>by
 simp only[execOp,c.ev b]; rfl
theorem SU.pickT {c x y:Operand}{v:Value}(d:ev f c=some (.bool true))(e:ev f x=some v):SU P N ⟨dst,.pick c x y,ty,pos,af,gd⟩ f v:=fun a w b=>by
 simp only[execOp,b.ev d,b.ev e]; rfl
theorem SU.pickF {c x y:Operand}{v:Value}(d:ev f c=some (.bool false))(e:ev f y=some v):SU P N ⟨dst,.pick c x y,ty,pos,af,gd⟩ f v:=fun a w b=>by
 simp only[execOp,b.ev d,b.ev e]; rfl
theorem SU.extract {x:Operand}{vs:Array Value}{v:Value}{i:Nat}(b:ev f x=some (.tuple vs))(c:vs[i]?=some v):SU P N ⟨dst,.extract x i,ty,pos,af,gd⟩ f v:=fun a w d=>by
 simp only[execOp,d.ev b,Instr.extract,c]; rfl
theorem SU.nilCheck {x:Operand}{ad:Addr}(b:ev f x=some (.pointer<|some ad)):SU P N ⟨dst,.nilCheck x,ty,pos,af,gd⟩ f (.pointer<|some ad):=fun a w c=>by
 simp only[execOp,c.ev b]; rfl
theorem SU.not {x:Operand}{T:TypeId}{b:Bool}(c:ev f x=some (.bool b)):SU P N ⟨dst,.unOp .not T x,ty,pos,af,gd⟩ f (.bool !b):=fun a w d=>by
 simp only[execOp,d.ev c]; rfl
theorem SU.notP {x:Operand}{T:TypeId}{p:Prop}[Decidable p](a:ev f x=some (.bool<|decide p)):SU P N ⟨dst,.unOp .not T x,ty,pos,af,gd⟩ f (.bool<|decide (¬ p)):=by
 have:decide (¬ p) = !decide p:=by simp
 rw[this];exact SU.not a
theorem SU.neg {x:Operand}{T:TypeId}{n:Int}(b:ev f x=some (vi n)):SU P N ⟨dst,.unOp .neg T x,ty,pos,af,gd⟩ f (vi<|IntKind.i64.wrap<|0 - n):=fun a w c=>by
 simp only[execOp,c.ev b]; rfl
theorem SU.addW {x y:Operand}{T U:TypeId}{k:IntKind}{m n:Int}(c:ev f x=some (.int k m))(d:ev f y=some (.int k n)) :
  SU P N ⟨dst,.binOp .add T x y U,ty,pos,af,gd⟩ f (.int k<|k.wrap<|m+n):=fun a w b=>by
 simp only[execOp,b.ev c,b.ev d,eqGuard,binOp,ne_eq,not_true_eq_false,if_false,Op.intArith]; rfl
theorem SU.subW {x y:Operand}{T U:TypeId}{k:IntKind}{m n:Int}(c:ev f x=some (.int k m))(d:ev f y=some (.int k n)) :
  SU P N ⟨dst,.binOp .sub T x y U,ty,pos,af,gd⟩ f (.int k<|k.wrap<|m - n):=fun a w b=>by
 simp only[execOp,b.ev c,b.ev d,eqGuard,binOp,ne_eq,not_true_eq_false,if_false,Op.intArith]; rfl
theorem SU.mulW {x y:Operand}{T U:TypeId}{k:IntKind}{m n:Int}(c:ev f x=some (.int k m))(d:ev f y=some (.int k n)) :
  SU P N ⟨dst,.binOp .mul T x y U,ty,pos,af,gd⟩ f (.int k<|k.wrap<|m * n):=fun a w b=>by
 simp only[execOp,b.ev c,b.ev d,eqGuard,binOp,ne_eq,not_true_eq_false,if_false,Op.intArith]; rfl
theorem SU.add {x y:Operand}{T U:TypeId}{m n:Int}(a:ev f x=some (vi m))(b:ev f y=some (vi n))(h : -9223372036854775808≤m+n∧m+n≤9223372036854775807) :
  SU P N ⟨dst,.binOp .add T x y U,ty,pos,af,gd⟩ f (vi<|m+n):=by
 have:=SU.addW (P:=P) (N:=N) (dst:=dst) (ty:=ty) (pos:=pos) (af:=af) (gd:=gd) (T:=T) (U:=U) a b;rwa [IntWalk.i64_in _ h] at this
theorem SU.sub {x y:Operand}{T U:TypeId}{m n:Int}(a:ev f x=some (vi m))(b:ev f y=some (vi n))(h : -9223372036854775808≤m - n∧m - n≤9223372036854775807) :
  SU P N ⟨dst,.binOp .sub T x y U,ty,pos,af,gd⟩ f (vi<|m - n):=by
 have:=SU.subW (P:=P) (N:=N) (dst:=dst) (ty:=ty) (pos:=pos) (af:=af) (gd:=gd) (T:=T) (U:=U) a b;rwa [IntWalk.i64_in _ h] at this
theorem SU.mul {x y:Operand}{T U:TypeId}{m n:Int}(a:ev f x=some (vi m))(b:ev f y=some (vi n))(h : -9223372036854775808≤m * n∧m * n≤9223372036854775807) :
  SU P N ⟨dst,.binOp .mul T x y U,ty,pos,af,gd⟩ f (vi<|m * n):=by
 have:=SU.mulW (P:=P) (N:=N) (dst:=dst) (ty:=ty) (pos:=pos) (af:=af) (gd:=gd) (T:=T) (U:=U) a b;rwa [IntWalk.i64_in _ h] at this
theorem SU.quo {x y:Operand}{T U:TypeId}{k:IntKind}{m n:Int}(c:ev f x=some (.int k m))(d:ev f y=some (.int k n))(h:n≠0) :
  SU P N ⟨dst,.binOp .quo T x y U,ty,pos,af,gd⟩ f (.int k<|k.wrap<|m.tdiv n):=fun a w b=>by
 simp only[execOp,b.ev c,b.ev d,eqGuard,binOp,ne_eq,not_true_eq_false,if_false,Op.intDiv,h]; rfl
theorem SU.rem {x y:Operand}{T U:TypeId}{k:IntKind}{m n:Int}(c:ev f x=some (.int k m))(d:ev f y=some (.int k n))(h:n≠0) :
  SU P N ⟨dst,.binOp .rem T x y U,ty,pos,af,gd⟩ f (.int k<|m.tmod n):=fun a w b=>by
 simp only[execOp,b.ev c,b.ev d,eqGuard,binOp,ne_eq,not_true_eq_false,if_false,Op.intDiv,h]; rfl
theorem SU.and {x y:Operand}{T U:TypeId}{k:IntKind}{m n:Int}(c:ev f x=some (.int k m))(d:ev f y=some (.int k n)) :
  SU P N ⟨dst,.binOp .and T x y U,ty,pos,af,gd⟩ f (.int k<|k.wrap (BitVec.ofInt k.bits m &&& BitVec.ofInt k.bits n).toNat):=fun a w b=>by
 simp only[execOp,b.ev c,b.ev d,eqGuard,binOp,ne_eq,not_true_eq_false,if_false,Op.intBits]; rfl
theorem SU.shl {x y:Operand}{T U:TypeId}{k k':IntKind}{m n:Int}(c:ev f x=some (.int k m))(d:ev f y=some (.int k' n))(h:0≤n) :
  SU P N ⟨dst,.binOp .shl T x y U,ty,pos,af,gd⟩ f (.int k<|k.wrap<|m * 2 ^ min n.toNat k.bits):=fun a w b=>by
 simp only[execOp,b.ev c,b.ev d,eqGuard,binOp,Op.shift,if_neg<|Int.not_lt.2 h]; rfl
theorem SU.shr {x y:Operand}{T U:TypeId}{k k':IntKind}{m n:Int}(c:ev f x=some (.int k m))(d:ev f y=some (.int k' n))(h:0≤n) :
  SU P N ⟨dst,.binOp .shr T x y U,ty,pos,af,gd⟩ f (.int k<|m.fdiv<|2 ^ min n.toNat k.bits):=fun a w b=>by
 simp only[execOp,b.ev c,b.ev d,eqGuard,binOp,Op.shift,if_neg<|Int.not_lt.2 h]; rfl
theorem SU.lss {x y:Operand}{T U:TypeId}{k:IntKind}{m n:Int}(c:ev f x=some (.int k m))(d:ev f y=some (.int k n)) :
  SU P N ⟨dst,.binOp .lss T x y U,ty,pos,af,gd⟩ f (.bool<|decide (m<n)):=fun a w b=>by
 simp only[execOp,b.ev c,b.ev d,eqGuard,binOp,ne_eq,not_true_eq_false,if_false,Op.intCmp]; rfl
theorem SU.leq {x y:Operand}{T U:TypeId}{k:IntKind}{m n:Int}(c:ev f x=some (.int k m))(d:ev f y=some (.int k n)) :
  SU P N ⟨dst,.binOp .leq T x y U,ty,pos,af,gd⟩ f (.bool<|decide (m≤n)):=fun a w b=>by
 simp only[execOp,b.ev c,b.ev d,eqGuard,binOp,ne_eq,not_true_eq_false,if_false,Op.intCmp]; rfl
theorem SU.gtr {x y:Operand}{T U:TypeId}{k:IntKind}{m n:Int}(c:ev f x=some (.int k m))(d:ev f y=some (.int k n)) :
  SU P N ⟨dst,.binOp .gtr T x y U,ty,pos,af,gd⟩ f (.bool<|decide (n<m)):=fun a w b=>by
 simp only[execOp,b.ev c,b.ev d,eqGuard,binOp,ne_eq,not_true_eq_false,if_false,Op.intCmp]; rfl
theorem SU.geq {x y:Operand}{T U:TypeId}{k:IntKind}{m n:Int}(c:ev f x=some (.int k m))(d:ev f y=some (.int k n)) :
  SU P N ⟨dst,.binOp .geq T x y U,ty,pos,af,gd⟩ f (.bool<|decide (n≤m)):=fun a w b=>by
 simp only[execOp,b.ev c,b.ev d,eqGuard,binOp,ne_eq,not_true_eq_false,if_false,Op.intCmp]; rfl
theorem SU.eql {x y:Operand}{T U:TypeId}{k:IntKind}{m n:Int}(c:ev f x=some (.int k m))(d:ev f y=some (.int k n)) :
  SU P N ⟨dst,.binOp .eql T x y U,ty,pos,af,gd⟩ f (.bool<|decide (m=n)):=fun a w b=>by
 have:(m == n)=decide (m=n):=rfl;rw[← this];simp only[execOp,b.ev c,b.ev d,eqGuard,binOp,ne_eq,not_true_eq_false,if_false,Op.intCmp]; rfl
theorem SU.neq {x y:Operand}{T U:TypeId}{k:IntKind}{m n:Int}(c:ev f x=some (.int k m))(d:ev f y=some (.int k n)) :
  SU P N ⟨dst,.binOp .neq T x y U,ty,pos,af,gd⟩ f (.bool<|decide (m≠n)):=fun a w b=>by
 have:(m != n)=decide (m≠n):=by rw[Bool.eq_iff_iff]; simp
 rw[← this];simp only[execOp,b.ev c,b.ev d,eqGuard,binOp,ne_eq,not_true_eq_false,if_false,Op.intCmp]; rfl
theorem SU.convert {x:Operand}{T U:TypeId}{k k':IntKind}{d:TypeDesc}{n:Int}(b:P.underlying T=some d)(c:P.underlying U=some (.int k'))(e:ev f x=some (.int k n)) :
  SU P N ⟨dst,.convert T U x,ty,pos,af,gd⟩ f (.int k'<|k'.wrap n):=fun a w g=>by
 simp[execOp,g.ev e,Go.convert,run_underlying b,run_underlying c,Conv.intToInt]
theorem SU.fieldAddr {x:Operand}{S:TypeId}{fields:Array Field}{fd:Field}{i b o k:Nat}(d:P.underlying S=some (.struct fields))(e:fields[i]?=some fd)
  (g:∀ w,(sizeOf fd.type).run P w = .ok (k+1) w) (h:ev f x=some (pp b o)):SU P N ⟨dst,.fieldAddr S x i,ty,pos,af,gd⟩ f (pp b<|o+fd.offset):=fun a w j=>by
 have c:(⟨b,o,none⟩:Addr).add fd.offset=⟨b,o+fd.offset,none⟩:=by unfold Addr.add; split <;> simp_all
 simp[execOp,j.ev h,Instr.fieldAt,run_underlying d,e,Instr.sureAddr,fieldPlace,g w,c]
theorem SU.field {x:Operand}{S:TypeId}{fields:Array Field}{fd:Field}{i:Nat}{cs:Array Value}{v:Value}(b:P.underlying S=some (.struct fields))(c:fields[i]?=some fd)
  (d:∀ w,(isAgg fd.type).run P w = .ok false w) (e:ev f x=some (.agg cs)) (g:cs[fd.offset]?=some v):SU P N ⟨dst,.field S x i,ty,pos,af,gd⟩ f v:=fun a w h=>by
 simp[execOp,h.ev e,Instr.field,run_underlying b,c,part,d w,asAgg,g]
theorem SU.makeFunc {n:FuncId}{c:Array Operand}{cv:Array Value}(b:∀ a,Ok N f a→c.map a.eval=cv):SU P N ⟨dst,.makeFunc (.func n) #[] c,ty,pos,af,gd⟩ f (.func (.func n) #[] cv):=fun a w d=>by
 simp[execOp,Instr.makeFunc,b a d]
def slen:Value→Nat
 | .slice _ n _=>n
 | _=>0
def isSl:Value→Bool
 | .slice ..=>true
 | _=>false
def nE (v:Value)(o:Nat):Value :=
 match v with
 | .slice (some a) _ _=>.pointer<|some ⟨a.block,a.off+o,none⟩
 | _=>.pointer none
def based:Value→Bool
 | .slice (some a) _ _=>a.spot.isNone
 | _=>false
theorem SU.len {x:Operand}{T e:TypeId}{v:Value}(b:P.underlying T=some (.slice e))(c:ev f x=some v)(d:isSl v=true) :
  SU P N ⟨dst,.call ⟨.builtin .len,#[x],#[T]⟩,ty,pos,af,gd⟩ f (vi<|slen v):=fun a w g=>by
 cases v <;> simp[isSl] at d
 simp[execOp,resolve,invoke,builtin,g.ev c,Builtin.len_,run_underlying b,goInt,slen]
theorem SU.lenN {x:Operand}{T e:TypeId}{p:Option Addr}{n c:Nat}(a:P.underlying T=some (.slice e))(b:ev f x=some (.slice p n c)) :
  SU P N ⟨dst,.call ⟨.builtin .len,#[x],#[T]⟩,ty,pos,af,gd⟩ f (vi n):=SU.len a b rfl
theorem SU.eqlNil {x y:Operand}{T U e:TypeId}{p:Option Addr}{n c:Nat}(d:P.underlying T=some (.slice e))(g:ev f x=some (.slice p n c))(h:ev f y=some (.slice none 0 0)) :
  SU P N ⟨dst,.binOp .eql T x y U,ty,pos,af,gd⟩ f (.bool p.isNone):=fun a w b=>by
 have hg:(eqGuard .eql T x y (.slice p n c)<|.slice none 0 0).run P w = .ok () w:=by simp[eqGuard]
 have hb:=Lib.run_eql_slice_nil (P:=P) w T e p n c 0 0 d;simp only[execOp,b.ev g,b.ev h,Sem.run_bind,hg,Result.andThen_ok,hb];rfl
theorem SU.indexAddr {x y:Operand}{T e:TypeId}{k:Nat}{v:Value}{i:Int}(j:P.underlying T=some (.slice e))(l:∀ w,(sizeOf e).run P w = .ok k w)
  (m:ev f x=some v) (q:ev f y=some (vi i)) (hb:based v=true) (r:0≤i) (g:i<slen v) :
  SU P N ⟨dst,.indexAddr T x y,ty,pos,af,gd⟩ f (nE v<|i.toNat * k):=fun a w h=>by
 cases v <;> simp[based] at hb
 rename_i p n c;cases p <;> simp at hb
 rename_i ad;obtain ⟨b,o,sp⟩:=ad;simp at hb;subst hb;simp only[slen] at g;have d:(⟨b,o,none⟩:Addr).add (i.toNat * k)=⟨b,o+i.toNat * k,none⟩:=by unfold Addr.add; split <;> simp_all
 simp[execOp,h.ev m,h.ev q,Instr.indexAt,asIntOf,run_underlying j,r,g,l w,nE,d]
theorem SU.indexAddrA {x y:Operand}{T e:TypeId}{k n b o:Nat}{i:Int}(g:P.underlying T=some (.array n e))(h:∀ w,(sizeOf e).run P w = .ok k w)
  (j:ev f x=some (pp b o)) (l:ev f y=some (vi i)) (m:0≤i) (p:i<n) :
  SU P N ⟨dst,.indexAddr T x y,ty,pos,af,gd⟩ f (pp b<|o+i.toNat * k):=fun a w d=>by
 have c:(⟨b,o,none⟩:Addr).add (i.toNat * k)=⟨b,o+i.toNat * k,none⟩:=by unfold Addr.add; split <;> simp_all
 simp[execOp,d.ev j,d.ev l,Instr.indexAt,asIntOf,run_underlying g,Instr.sureAddr,m,p,h w,c]
theorem SU.fieldAddrC {x:Operand}{S:TypeId}{fields:Array Field}{fd:Field}{i o k:Nat}{v:Value}(b:P.underlying S=some (.struct fields))(d:fields[i]?=some fd)
  (e:∀ w,(sizeOf fd.type).run P w = .ok (k+1) w) (a:ev f x=some (nE v o)) (hb:based v=true):SU P N ⟨dst,.fieldAddr S x i,ty,pos,af,gd⟩ f (nE v<|o+fd.offset):=by
 cases v <;> simp[based] at hb
 rename_i p n c;cases p <;> simp at hb
 simp only[nE] at a ⊢;have:=SU.fieldAddr (P:=P) (N:=N) (dst:=dst) (ty:=ty) (pos:=pos) (af:=af) (gd:=gd) b d e a;rwa [Nat.add_assoc] at this
end
def iq (g:PH)(s:Own)(ad:Addr)(v:Value):Prop:=∀ E w,At E g s w→w.cell? ad=some v
theorem iq.own {g:PH}{s:Own}{b o:Nat}{cs:Array Value}{T:TypeId}{fr:Nat×Nat}{v:Value}(i:Nat)(a:s[i]?=some (pt b<|.cells cs T fr))(c:cs[o]?=some v):iq g s ⟨b,o,none⟩ v:=fun E w d=>by
 have:=d.own _<|List.mem_of_getElem? a;simp only[pt,Option.bind_some] at this;simp[World.cell?,this,c]
theorem iq.known {g:PH}{s:Own}{b o:Nat}{cs:Array Value}{T:TypeId}{fr:Nat×Nat}{v:Value}(hg:g b=some (.cells cs T fr))(a:cs[o]?=some v):iq g s ⟨b,o,none⟩ v:=fun E w c=>by
 simp[World.cell?,c.known _ _ hg,a]
def Rd (g:PH)(s:Own)(v:Value)(xs:List Value):Prop:=∀ E w,At E g s w→∀ j x,xs[j]?=some x→∃ a n c,v = .slice (some a) n c∧a.spot=none∧w.cell? ⟨a.block,a.off+j,none⟩=some x
section
variable {P:Program}{N:Nat}{E:World}{f:Fr}{g:PH}{s:Own}{dst:Option Tmp}{ty:TypeId}{pos:String}{af:Array Edge}{gd:Option (Nat×Bool)}
theorem SQ.loadAt {x:Operand}{T:TypeId}{ad:Addr}{v:Value}(b:∀ w,(isAgg T).run P w = .ok false w)(c:ev f x=some (.pointer<|some ad))(d:iq g s ad v) :
  SQ P N E ⟨dst,.load T x,ty,pos,af,gd⟩ f g s v:=fun a w e h=>by
 have:=d E w h;simp[execOp,e.ev c,Instr.loadAt,Instr.sureAddr,loadVar,b w,load,Sem.run,this]
theorem SQ.load {x:Operand}{T:TypeId}{b o:Nat}{v:Value}(a:∀ w,(isAgg T).run P w = .ok false w)(c:ev f x=some (pp b o))(d:iq g s ⟨b,o,none⟩ v) :
  SQ P N E ⟨dst,.load T x,ty,pos,af,gd⟩ f g s v:=SQ.loadAt a c d
theorem SQ.loadC {x:Operand}{T:TypeId}{u:Value}{o:Nat}{xs:List Value}{v:Value}(d:∀ w,(isAgg T).run P w = .ok false w)(b:ev f x=some (nE u o))(hr:Rd g s u xs)(e:xs[o]?=some v) :
  SQ P N E ⟨dst,.load T x,ty,pos,af,gd⟩ f g s v:=fun a w h i=>by
 obtain ⟨ad,n,c,rfl,_,j⟩:=hr E w i o v e;simp only[nE] at b;simp[execOp,h.ev b,Instr.loadAt,Instr.sureAddr,loadVar,d w,load,Sem.run,j]
theorem de {w:World}{b o:Nat}:∀ (k i:Nat) (vs:List Value) (acc:Array Value),vs.length=k→(∀ j x,vs[j]?=some x→w.cell? ⟨b,o+(i+j),none⟩=some x) →
  (loadCellsFrom ⟨b,o,none⟩ i k acc).run P w = .ok (acc++vs.toArray) w
 | 0,_,vs,acc,hl,_=>by
  have:vs=[]:=List.eq_nil_of_length_eq_zero hl;subst this;simp[loadCellsFrom]
 | k+1,i,vs,acc,hl,c=>by
  cases vs with
  | nil=>simp at hl
  | cons x r =>
   have d:=c 0 x (by simp);have a:(⟨b,o,none⟩:Addr).add i=⟨b,o+(i+0),none⟩:=by unfold Addr.add; split <;> simp_all
   have:=de k (i+1) r (acc.push x) (by simpa using hl) (fun j y e=>by have:=c (j+1) y (by simpa using e); rwa [show i+(j+1)=i+1+j by omega] at this);simp only[loadCellsFrom,load,a,Sem.run_bind,Sem.run,d,Result.andThen_ok,this];simp
theorem SQ.loadAggAt {x:Operand}{T:TypeId}{b o k:Nat}{vs:List Value}(c:∀ w,(isAgg T).run P w = .ok true w)(d:∀ w,(sizeOf T).run P w = .ok k w)(e:ev f x=some (pp b o))(hl:vs.length=k)
  (h:∀ j v,vs[j]?=some v→iq g s ⟨b,o+j,none⟩ v):SQ P N E ⟨dst,.load T x,ty,pos,af,gd⟩ f g s (.agg vs.toArray):=fun a w i l=>by
 have:=de (P:=P) (w:=w) (b:=b) (o:=o) k 0 vs #[] hl (fun j y m=>by simpa using h j y m E w l);simp[execOp,i.ev e,Instr.loadAt,Instr.sureAddr,loadVar,c w,d w,loadCells,this]
theorem SQ.loadVar {x:Operand}{T U:TypeId}{b:Nat}{cs:Array Value}{fr:Nat×Nat}(i:Nat)(a:∀ w,(isAgg T).run P w = .ok true w)(c:∀ w,(sizeOf T).run P w = .ok cs.size w)(d:ev f x=some (pp b 0))
  (e:s[i]?=some (pt b<|.cells cs U fr)):SQ P N E ⟨dst,.load T x,ty,pos,af,gd⟩ f g s (.agg cs):=by
 have:=SQ.loadAggAt (P:=P) (N:=N) (E:=E) (g:=g) (s:=s) (dst:=dst) (ty:=ty) (pos:=pos) (af:=af) (gd:=gd) (vs:=cs.toList) a c d (by simp)
  (fun j v h=>iq.own (o:=0+j) i e<|by simpa using h)
 simpa using this
theorem SQ.loadAggC {x:Operand}{T:TypeId}{u:Value}{o k:Nat}{xs vs:List Value}(m:∀ w,(isAgg T).run P w = .ok true w)(p:∀ w,(sizeOf T).run P w = .ok k w)(e:ev f x=some (nE u o))(hr:Rd g s u xs)
  (hl:vs.length=k) (h:0<k) (i:∀ j v,vs[j]?=some v→xs[o+j]?=some v):SQ P N E ⟨dst,.load T x,ty,pos,af,gd⟩ f g s (.agg vs.toArray):=fun a w q l=>by
 have t:∃ v,vs[0]?=some v:=by
  cases vs with
  | nil=>simp at hl; omega
  | cons y r=>exact⟨y,rfl⟩
 obtain ⟨v0,d⟩:=t;obtain ⟨ad,n,c,rfl,z,_⟩:=hr E w l (o+0) v0 (i 0 v0 d);simp only[nE] at e;have:=de (P:=P) (w:=w) (b:=ad.block) (o:=ad.off+o) k 0 vs #[] hl (fun j y A=>by
  obtain ⟨a',n',c',B,_,C⟩:=hr E w l (o+j) y (i j y A);cases B;rw[Nat.zero_add,Nat.add_assoc];exact C)
 simp[execOp,q.ev e,Instr.loadAt,Instr.sureAddr,Go.loadVar,m w,p w,loadCells,this]
end
section
variable {P:Program}{N:Nat}{E:World}{ops:Array Oper}{Q:Exit→Act→World→Prop}{f:Fr}{g:PH}{s:Own}{rest:List Oper}{d:Nat}{op:Op}{ty:TypeId}{pos:String}{af:Array Edge}{gd:Option (Nat×Bool)}{v:Value}{g0:PH}{s0:Own}{tail:List Nat}{plan:List (Nat×Nat)}
theorem SL.U (a:SU P N ⟨some d,op,ty,pos,af,none⟩ f v)(h:SL P N E ops Q rest ((d,v)::f) g s)(hd:d<N:=by decide):SL P N E ops Q (⟨some d,op,ty,pos,af,none⟩::rest) f g s:=SL.u a hd h
theorem SL.K (a:SQ P N E ⟨some d,op,ty,pos,af,none⟩ f g s v)(h:SL P N E ops Q rest ((d,v)::f) g s)(hd:d<N:=by decide):SL P N E ops Q (⟨some d,op,ty,pos,af,none⟩::rest) f g s:=SL.q a hd h
theorem SL.W {K:Value→PH→Own→Prop}(a:SO P N E ⟨some d,op,ty,pos,af,none⟩ f g s K)(h:∀ v g' s',K v g' s'→SL P N E ops Q rest ((d,v)::f) g' s')(hd:d<N:=by decide):SL P N E ops Q (⟨some d,op,ty,pos,af,none⟩::rest) f g s:=SL.o a hd h
theorem SL.Z {j t:Nat}{b:Bool}(a:gd=some (j,b))(c:((ops[j]?).bind fun o:Oper=>o.dst)=some t)(e:aN f t=some (.bool<|!b))(h:SL P N E ops Q rest ((d,undef)::f) g s)(i:t<N:=by decide)(hd:d<N:=by decide):SL P N E ops Q (⟨some d,op,ty,pos,af,gd⟩::rest) f g s:=SL.off (Gd.onF a c e i) hd h
theorem SL.Y {j t:Nat}{b:Bool}(a:gd=some (j,b))(c:((ops[j]?).bind fun o:Oper=>o.dst)=some t)(e:aN f t=some (.bool b))(i:SU P N ⟨some d,op,ty,pos,af,gd⟩ f v)(h:SL P N E ops Q rest ((d,v)::f) g s)(k:t<N:=by decide)(hd:d<N:=by decide):SL P N E ops Q (⟨some d,op,ty,pos,af,gd⟩::rest) f g s:=SL.gu (Gd.onT a c e k) i hd h
theorem SP.U [Quiet Q]{i:Nat}(a:ops[i]?=some ⟨some d,op,ty,pos,af,none⟩)(b:SU P N ⟨some d,op,ty,pos,af,none⟩ f v)(h:SP P N E ops Q g0 s0 tail plan ((d,v)::f) g s)(hd:d<N:=by decide):SP P N E ops Q g0 s0 tail ((i,2)::plan) f g s:=SP.u a b hd h
theorem SP.K [Quiet Q]{i:Nat}(a:ops[i]?=some ⟨some d,op,ty,pos,af,none⟩)(b:SQ P N E ⟨some d,op,ty,pos,af,none⟩ f g0 s0 v)(h:SP P N E ops Q g0 s0 tail plan ((d,v)::f) g s)(hd:d<N:=by decide):SP P N E ops Q g0 s0 tail ((i,1)::plan) f g s:=SP.q a b hd h
theorem SL.M {x:Operand}(a:ev f x=some v)(h:SL P N E ops Q rest ((d,v)::f) g s)(hd:d<N:=by decide):SL P N E ops Q (⟨some d,.move x,ty,pos,af,none⟩::rest) f g s:=SL.u (SU.move a) hd h
theorem SL.A {x:Operand}(a:ev f x=some v)(h:SL P N E ops Q rest ((d,v)::f) g s)(hd:d<N:=by decide):SL P N E ops Q (⟨some d,.assign x,ty,pos,af,none⟩::rest) f g s:=SL.u (SU.assign a) hd h
end
theorem sL {p:Prop}(h:p:=by simp only[slen]; omega):p:=h
theorem kD {p:Prop}(h:p:=by decide +kernel):p:=h
theorem kR {p:Prop}(h:p:=by kernel_rfl):p:=h
theorem uR {p:Prop}(h:p:=by repeat (first | exact List.Sublist.refl _ | apply List.Sublist.cons)):p:=h
theorem iR {p:Prop}(h:p:=by
 intro _ _ _ h
 repeat (obtain ⟨_,h⟩:=h)
 subst_vars
 constructor
 first | exact Le.refl _ | assumption
 repeat (first | exact List.Sublist.refl _ | apply List.Sublist.cons)
 done):p:=h
theorem mV:type_of% @SU.move:=@SU.move
theorem aS:type_of% @SU.assign:=@SU.assign
theorem wT:type_of% @SU.pickT:=@SU.pickT
theorem wF:type_of% @SU.pickF:=@SU.pickF
theorem xT:type_of% @SU.extract:=@SU.extract
theorem nC:type_of% @SU.nilCheck:=@SU.nilCheck
theorem aD:type_of% @SU.add:=@SU.add
theorem sU:type_of% @SU.sub:=@SU.sub
theorem lS:type_of% @SU.lss:=@SU.lss
theorem gR:type_of% @SU.gtr:=@SU.gtr
theorem gQ:type_of% @SU.geq:=@SU.geq
theorem eQ:type_of% @SU.eql:=@SU.eql
theorem nQ:type_of% @SU.neq:=@SU.neq
theorem fA:type_of% @SU.fieldAddr:=@SU.fieldAddr
theorem eM:type_of% @SU.len:=@SU.len
theorem eN:type_of% @SU.lenN:=@SU.lenN
theorem iA:type_of% @SU.indexAddr:=@SU.indexAddr
theorem iB:type_of% @SU.indexAddrA:=@SU.indexAddrA
theorem fC:type_of% @SU.fieldAddrC:=@SU.fieldAddrC
theorem cO:type_of% @iq.own:=@iq.own
theorem cK:type_of% @iq.known:=@iq.known
theorem qL:type_of% @SQ.load:=@SQ.load
theorem lU:type_of% @SL.U:=@SL.U
theorem lW:type_of% @SL.W:=@SL.W
theorem lZ:type_of% @SL.Z:=@SL.Z
theorem lY:type_of% @SL.Y:=@SL.Y
theorem pU:type_of% @SP.U:=@SP.U
theorem pK:type_of% @SP.K:=@SP.K
theorem lM:type_of% @SL.M:=@SL.M
theorem lA:type_of% @SL.A:=@SL.A
theorem bE:type_of% @Nat.le_of_ble_eq_true:=@Nat.le_of_ble_eq_true
theorem tL:type_of% @List.take_of_length_le:=@List.take_of_length_le
theorem tS:type_of% @List.take_succ_eq_append_getElem:=@List.take_succ_eq_append_getElem
theorem gM:type_of% @List.getElem_mem:=@List.getElem_mem
end Go.Sy
namespace Go.Sy
open Go
theorem At.alloc {E:World}{g:PH}{s:Own}{w:World}(h:At E g s w){e:Ent}{o:Obj}(hb:e.blk=some w.heap.size)(n:e.holds (some o)):At E g (e::s) { w with heap:=w.heap.push o }:=by
 have c:∀ k,k<w.heap.size→(w.heap.push o)[k]?=w.heap[k]?:=fun k p=>by
  rw[Array.getElem?_push];split
  ·omega
  ·rfl
 have hg:g w.heap.size=none:=by
  cases hg:g w.heap.size with
  | none=>rfl
  | some x=>exact absurd (h.lt hg)<|Nat.lt_irrefl _
 refine⟨h.os,h.tape,h.output,fun b x m=>?_,fun e' a=>?_,fun e' a b d=>?_,List.pairwise_cons.2 ⟨fun e' a b i j=>?_,h.apart⟩⟩
 ·show (w.heap.push o)[b]?=some x;rw[c b<|h.lt m];exact h.known b x m
 ·rcases List.mem_cons.1 a with rfl | a
  ·simp only[hb,Option.bind_some];simpa using n
  ·have l:=h.own e' a;cases f:e'.blk with
   | none=>simpa [f] using l
   | some b =>
    have:=(h.fresh e' a b f).2;simp only[f,Option.bind_some] at l ⊢;rw[c b this];exact l
 ·rcases List.mem_cons.1 a with rfl | a
  ·rw[hb] at d;cases d;exact⟨hg,by simp⟩
  ·have:=h.fresh e' a b d;exact⟨this.1,by simp; omega⟩
 ·rw[hb] at i;cases i;exact absurd (h.fresh e' a _ j).2<|Nat.lt_irrefl _
theorem nx {e e':Ent}:∀ {s:Own} {i:Nat},s.Pairwise qp→s[i]?=some e→(∀ x∈s,qp e x→qp e' x)→(s.set i e').Pairwise qp
 | [],_,_,h,_=>by simp at h
 | x::r,0,d,h,b=>by
  simp only[List.getElem?_cons_zero,Option.some.injEq] at h;subst h;obtain ⟨c,f⟩:=List.pairwise_cons.1 d;exact List.pairwise_cons.2 ⟨fun y a=>b y (List.mem_cons_of_mem _ a)<|c y a,f⟩
 | x::r,i+1,d,h,b=>by
  simp only[List.getElem?_cons_succ] at h;obtain ⟨c,f⟩:=List.pairwise_cons.1 d;refine List.pairwise_cons.2 ⟨fun y a=>?_,nx f h (fun y a=>b y<|List.mem_cons_of_mem _ a)⟩
  rcases List.mem_or_eq_of_mem_set a with a | rfl
  ·exact c y a
  ·exact (b x (by simp) (c e<|List.mem_of_getElem? h).symm).symm
theorem At.turn {E:World}{g:PH}{s:Own}{w w':World}{e e':Ent}{i:Nat}(h:At E g s w)(f:s[i]?=some e)(A:w'.os=w.os)(c:w'.tape=w.tape∧w.drawn≤w'.drawn)(q:w'.output=w.output)
  (B:w.heap.size≤w'.heap.size) (C:∀ k,k<w.heap.size→some k≠e.blk→w'.heap[k]?=w.heap[k]?) (F:e'.holds (e'.blk.bind fun b=>w'.heap[b]?))
  (hb:∀ b,e'.blk=some b→b<w'.heap.size∧(e.blk=some b∨w.heap.size≤b)):At E g (s.set i e') w':=by
 have t:=List.mem_of_getElem? f;have m:∀ x∈s.set i e',x=e'∨(x∈s∧qp e x):=by
  clear F hb;have G:=h.apart;clear h C;induction s generalizing i with
  | nil=>simp at f
  | cons y r ih =>
   obtain ⟨n,d⟩:=List.pairwise_cons.1 G;cases i with
   | zero =>
    simp only[List.getElem?_cons_zero,Option.some.injEq] at f;subst f;intro x a;simp only[List.set_cons_zero,List.mem_cons] at a
    rcases a with rfl | a
    ·exact .inl I
    ·exact .inr ⟨by simp[a],n x a⟩
   | succ i =>
    simp only[List.getElem?_cons_succ] at f;intro x a;simp only[List.set_cons_succ,List.mem_cons] at a
    rcases a with rfl | a
    ·exact .inr ⟨by simp,(n e<|List.mem_of_getElem? f).symm⟩
    ·rcases ih f (List.mem_of_getElem? f) d x a with a | ⟨a,u⟩
     ·exact .inl a
     ·exact .inr ⟨by simp[a],u⟩
 refine⟨A.trans h.os,⟨c.1.trans h.tape.1,Nat.le_trans h.tape.2 c.2⟩,q.trans h.output,fun b o hg=>?_,fun x a=>?_,fun x a b v=>?_,nx h.apart f fun x a u b D z=>?_⟩
 ·rw[C b (h.lt hg) (fun p=>by rw[(h.fresh e t b p.symm).1] at hg; cases hg)];exact h.known b o hg
 ·rcases m x a with rfl | ⟨j,u⟩
  ·exact F
  ·have n:=h.own x j;cases l:x.blk with
   | none=>simpa [l] using n
   | some b =>
    simp only[l,Option.bind_some] at n ⊢;rw[C b (h.fresh x j b l).2 (fun p=>u b p.symm l)];exact n
 ·rcases m x a with rfl | ⟨j,_⟩
  ·obtain ⟨n,d⟩:=hb b v;refine⟨?_,n⟩
   rcases d with d | d
   ·exact (h.fresh e t b d).1
   ·cases hg:g b with
    | none=>rfl
    | some o=>exact absurd (h.lt hg)<|Nat.not_lt.2 d
  ·have:=h.fresh x j b v;exact⟨this.1,Nat.lt_of_lt_of_le this.2 B⟩
 ·rcases (hb b D).2 with d | d
  ·exact u b d z
  ·exact absurd (h.fresh x a b z).2<|Nat.not_lt.2 d
section
variable {P:Program}{N:Nat}{E:World}{f:Fr}{g:PH}{s:Own}{dst:Option Tmp}{ty:TypeId}{pos:String}{af:Array Edge}{gd:Option (Nat×Bool)}
theorem SO.of_run {o:Oper}{K:Value→PH→Own→Prop}(h:∀ a w,Ok N f a→At E g s w→∃ v w' g' s',(execOp a.eval o).run P w = .ok (.value v) w'∧At E g' s' w'∧K v g' s'):SO P N E o f g s K:=by
 intro a w c d Q next hn;obtain ⟨v,w',g',s',hr,b,e⟩:=h a w c d;unfold Oper.wp;rw[hr];exact hn v g' s' w' e b
theorem SO.of_skip {o:Oper}{K:Value→PH→Own→Prop}(h:∀ a w,Ok N f a→At E g s w→∃ w' g' s',(execOp a.eval o).run P w = .ok .skip w'∧At E g' s' w'∧K undef g' s'):SO P N E o f g s K:=by
 intro a w c d Q next hn;obtain ⟨w',g',s',hr,b,e⟩:=h a w c d;unfold Oper.wp;rw[hr];exact hn _ g' s' w' e b
theorem SO.alloc {T:TypeId}{z:Value}(hz:∀ w,(zeroValue T).run P w = .ok z w) :
  SO P N E ⟨dst,.alloc T,ty,pos,af,gd⟩ f g s fun v g' s'=>∃ b,v=pp b 0∧g=g'∧s'=pt b (.cells z.cells T (0,0))::s :=
 SO.of_run fun a w _ c=>⟨pp w.heap.size 0,_,g,_,by simp[execOp,Instr.alloc,hz w,newVar,newRow],c.alloc (e:=pt w.heap.size<|.cells z.cells T (0,0)) rfl rfl,_,rfl,rfl,rfl⟩
theorem SO.box {T:TypeId}{x:Operand}{v:Value}(c:ev f x=some v) :
  SO P N E ⟨dst,.box T x,ty,pos,af,gd⟩ f g s fun u g' s'=>∃ b,u=pp b 0∧g=g'∧s'=pt b (.cells v.cells T (0,0))::s :=
 SO.of_run fun a w d h=>⟨pp w.heap.size 0,_,g,_,by simp[execOp,Instr.box,d.ev c,newVar,newRow],h.alloc (e:=pt w.heap.size<|.cells v.cells T (0,0)) rfl rfl,_,rfl,rfl,rfl⟩
def spl (cs:Array Value)(o:Nat)(vs:List Value):Array Value:=(cs.toList.take o++vs++cs.toList.drop (o+vs.length)).toArray
theorem At.setRow {w:World}{b i:Nat}{cs cs':Array Value}{T:TypeId}(h:At E g s w)(c:s[i]?=some (pt b<|.cells cs T (0,0))):At E g (s.set i<|pt b<|.cells cs' T (0,0)) (w.setRow b cs'):=by
 have d:=h.own _<|List.mem_of_getElem? c;have f:=h.fresh _ (List.mem_of_getElem? c) b rfl;simp only[pt,Option.bind_some] at d;refine h.turn c I ⟨I,(by exact Nat.le_refl _)⟩ I (by simp) (fun k _ j=>setRow_other w b k cs'<|fun e=>j<|by simp[pt,e]) ?_ (fun b' a=>?_)
 ·simp only[pt,Option.bind_some];exact setRow_heap w b cs cs' T (0,0) d
 ·simp only[pt,Option.some.injEq] at a;subst a;exact⟨by simpa using f.2,.inl I⟩
theorem SO.storeAt {T U:TypeId}{x y:Operand}{b o i k:Nat}{cs:Array Value}{v:Value}(m:∀ w,(sizeOf T).run P w = .ok k w)(n:ev f x=some (pp b o))(p:ev f y=some v)(d:s[i]?=some (pt b<|.cells cs U (0,0)))
  (e:v.cells.size=k) (hl:o+k≤cs.size) (q:∀ u∈v.cells.toList,u.oneCell'=true) :
  SO P N E ⟨dst,.store T x y,ty,pos,af,gd⟩ f g s fun _ g' s'=>g=g'∧s'=s.set i (pt b<|.cells (spl cs o v.cells.toList) U (0,0)) :=
 SO.of_skip fun a w h j=>by
  have l:=j.own _<|List.mem_of_getElem? d;simp only[pt,Option.bind_some] at l;have c:=run_storeCells_at P b o U v.cells.toList 0 cs w l (by simp[e]; omega) q;refine⟨_,g,_,?_,j.setRow (cs':=spl cs o v.cells.toList) d,I,I⟩;simp[execOp,h.ev n,h.ev p,Instr.storeAt,Instr.sureAddr,storeVar,m w,e,c,spl]
theorem SO.store1 {T U:TypeId}{x y:Operand}{b o:Nat}{cs:Array Value}{v:Value}(i:Nat)(c:∀ w,(sizeOf T).run P w = .ok 1 w)(d:ev f x=some (pp b o))(e:ev f y=some v)(h:s[i]?=some (pt b<|.cells cs U (0,0)))
  (a:v.cells = #[v]) (hl:o<cs.size) (j:v.oneCell'=true) :
  SO P N E ⟨dst,.store T x y,ty,pos,af,gd⟩ f g s fun _ g' s'=>g=g'∧s'=s.set i (pt b<|.cells (cs.setIfInBounds o v) U (0,0)):=by
 have:=SO.storeAt (P:=P) (N:=N) (E:=E) (g:=g) (dst:=dst) (ty:=ty) (pos:=pos) (af:=af) (gd:=gd) c d e h (by rw[a]; rfl) oM (by rw[a]; simpa using j);have k:spl cs o v.cells.toList=cs.setIfInBounds o v:=by
  rw[a];unfold spl;apply Array.ext';simp only[Array.toList_setIfInBounds];rw[List.set_eq_take_append_cons_drop];simp[hl]
 rwa [k] at this
theorem SO.storeAll {T U:TypeId}{x y:Operand}{b:Nat}{cs:Array Value}{v:Value}(i:Nat)(c:∀ w,(sizeOf T).run P w = .ok cs.size w)(d:ev f x=some (pp b 0))(e:ev f y=some v)(h:s[i]?=some (pt b<|.cells cs U (0,0)))
  (a:v.cells.size=cs.size) (j:∀ u∈v.cells.toList,u.oneCell'=true) :
  SO P N E ⟨dst,.store T x y,ty,pos,af,gd⟩ f g s fun _ g' s'=>g=g'∧s'=s.set i (pt b<|.cells v.cells U (0,0)):=by
 have:=SO.storeAt (P:=P) (N:=N) (E:=E) (g:=g) (dst:=dst) (ty:=ty) (pos:=pos) (af:=af) (gd:=gd) c d e h a oM j;have k:spl cs 0 v.cells.toList=v.cells:=by
  unfold spl;apply Array.ext';simp[a]
 rwa [k] at this
def evs (f:Fr):List Operand→Option (List Value)
 | []=>some []
 | x::r=>match ev f x with
  | some v=>match evs f r with
   | some vs=>some<|v::vs
   | none=>none
  | none=>none
theorem Ok.evs {a:Act}(h:Ok N f a):∀ {l:List Operand} {vs:List Value},Sy.evs f l=some vs→l.map a.eval=vs
 | [],vs,b=>by simp only[Sy.evs,Option.some.injEq] at b; subst b; rfl
 | x::r,vs,b=>by
  simp only[Sy.evs] at b;split at b
  ·rename_i v c;split at b
   ·rename_i vs' hr;simp only[Option.some.injEq] at b;subst b;simp[h.ev c,Ok.evs h hr]
   ·cases b
  ·cases b
theorem SU.mkFunc {n:FuncId}{l:List Operand}{vs:List Value}(hl:evs f l=some vs):SU P N ⟨dst,.makeFunc (.func n) #[] l.toArray,ty,pos,af,gd⟩ f (.func (.func n) #[] vs.toArray) :=
 SU.makeFunc fun a b=>by simp[b.evs hl]
def cz (P:Program)(E:World)(v:Value)(args:List Value)(g:PH)(s:Own)(R:Value→PH→Own→Prop):Prop :=
 ∃ n cap,v = .func (.func n) #[] cap∧(∀ args w,(callFunc n args).run P w = .ok (.enter n args) w)∧Ctr P E n (args.toArray++cap) g s R
theorem SO.callV {x:Operand}{l:List Operand}{tys:Array TypeId}{v:Value}{vs:List Value}{R:Value→PH→Own→Prop}(i:ev f x=some v)(hl:evs f l=some vs)(j:cz P E v vs g s R) :
  SO P N E ⟨dst,.call ⟨.value x,l.toArray,tys⟩,ty,pos,af,gd⟩ f g s R:=by
 intro a w h k Q next hn;obtain ⟨n,cap,rfl,b,c⟩:=j;unfold Oper.wp;have hr:(execOp a.eval ⟨dst,.call ⟨.value x,l.toArray,tys⟩,ty,pos,af,gd⟩).run P w = .ok (.enter n<|vs.toArray++cap) w:=by
  simp[execOp,resolve,h.ev i,Deferred.ofValue,invoke,b,h.evs hl]
 rw[hr];refine (c w k).mono fun e w' m=>?_;obtain ⟨u,g',s',rfl,d,o⟩:=m;exact hn u g' s' w' o d
theorem SO.call {n:FuncId}{l:List Operand}{tys:Array TypeId}{vs:List Value}{R:Value→PH→Own→Prop}(a:∀ args w,(callFunc n args).run P w = .ok (.enter n args) w)(hl:evs f l=some vs)(b:Ctr P E n vs.toArray g s R) :
  SO P N E ⟨dst,.call ⟨.value<|.func n,l.toArray,tys⟩,ty,pos,af,gd⟩ f g s R :=
 SO.callV rfl hl ⟨n,#[],rfl,a,by simpa using b⟩
theorem cz.mk {n:FuncId}{args cap:List Value}{R:Value→PH→Own→Prop}(a:∀ args w,(callFunc n args).run P w = .ok (.enter n args) w)(b:Ctr P E n (args++cap).toArray g s R) :
  cz P E (.func (.func n) #[] cap.toArray) args g s R:=⟨n,cap.toArray,rfl,a,by simpa using b⟩
end
section
variable {P:Program}{N:Nat}{E:World}{fn:Func}{R:Value→PH→Own→Prop}{e:Exit}{f:Fr}{g:PH}{s:Own}
theorem cd {w:World}{T U:TypeId}{b i:Nat}{cs:Array Value}{fr:Nat×Nat}(a:At E g s w)(c:∀ w,(isAgg T).run P w = .ok true w)(d:∀ w,(sizeOf T).run P w = .ok cs.size w)(e:s[i]?=some (pt b<|.cells cs U fr)) :
  (Go.loadVar T ⟨b,0,none⟩).run P w = .ok (.agg cs) w:=by
 have:=de (P:=P) (w:=w) (b:=b) (o:=0) cs.size 0 cs.toList #[] (by simp) (fun j y f=>by
  have:=cO (g:=g) (o:=0+(0+j)) i e (v:=y) (by simpa using f);exact this E w a)
 simp[Go.loadVar,c w,d w,loadCells,this]
end
section
variable {P:Program}{N:Nat}{E:World}{ops:Array Oper}{Q:Exit→Act→World→Prop}{f:Fr}{g:PH}{s:Own}{rest:List Oper}{d:Nat}{op:Op}{ty:TypeId}{pos:String}{af:Array Edge}
theorem SL.bx {o:Obj}(a:SO P N E ⟨some d,op,ty,pos,af,none⟩ f g s fun u g' s'=>∃ b,u=pp b 0∧g=g'∧s'=pt b o::s)(h:∀ b,SL P N E ops Q rest ((d,pp b 0)::f) g<|pt b o::s)(hd:d<N:=by decide):SL P N E ops Q (⟨some d,op,ty,pos,af,none⟩::rest) f g s:=SL.o a hd (by rintro _ _ _ ⟨b,rfl,rfl,rfl⟩; exact h b)
theorem SL.O2 {S:Own}(a:SO P N E ⟨none,op,ty,pos,af,none⟩ f g s fun _ g' s'=>g=g'∧s'=S)(h:SL P N E ops Q rest f g S):SL P N E ops Q (⟨none,op,ty,pos,af,none⟩::rest) f g s:=SL.on a (by rintro _ _ _ ⟨rfl,rfl⟩; exact h)
theorem SL.nT {c:Code}(h:SC P N E c Q f g s):SL P N E ops (Exit.then (c.wp P Q) Q) [] f g s:=SL.nil (ST.thenN h)
theorem SL.AT {x:Operand}{v:Value}{c:Code}(a:ev f x=some v)(h:SC P N E c Q ((d,v)::f) g s)(hd:d<N:=by decide):SL P N E ops (Exit.then (c.wp P Q) Q) [⟨some d,.assign x,ty,pos,af,none⟩] f g s:=SL.A a (SL.nT h) hd
theorem SC.sR {id:Nat}{l:List Oper}{y:Code}(h:SL P N E l.toArray (Exit.then (y.wp P Q) Q) l f g s):SC P N E (.seq (.region id l.toArray false) y) Q f g s:=SC.seq (SC.region h)
theorem SC.sM {id:Nat}{l:List Oper}{x:Operand}{v:Value}{y:Code}(a:ev f x=some v)(h:SL P N E (⟨some d,.move x,ty,pos,af,none⟩::l).toArray (Exit.then (y.wp P Q) Q) l ((d,v)::f) g s)(hd:d<N:=by decide):SC P N E (.seq (.region id (⟨some d,.move x,ty,pos,af,none⟩::l).toArray false) y) Q f g s:=SC.sR (SL.M a h hd)
end
section
variable {P:Program}{N:Nat}{E:World}{ops:Array Oper}{Q:Exit→Act→World→Prop}{f:Fr}{g:PH}{s:Own}{rest:List Oper}{d:Nat}{op:Op}{ty:TypeId}{pos:String}{af:Array Edge}{v:Value}{g0:PH}{s0:Own}{tail:List Nat}{plan:List (Nat×Nat)}{i j t:Nat}{b:Bool}{c x y:Operand}{m n:Int}{k:IntKind}{T U:TypeId}
theorem SL.za (h:(((ops[j]?).bind fun o:Oper=>o.dst),aN f t)=(some t,some<|.bool<|!b))(a:SL P N E ops Q rest ((d,undef)::f) g s)(c:t<N:=by decide)(hd:d<N:=by decide):SL P N E ops Q (⟨some d,op,ty,pos,af,some (j,b)⟩::rest) f g s:=by
 simp only[Prod.mk.injEq] at h; exact lZ I h.1 h.2 a c hd
theorem SL.zb (h:(((ops[j]?).bind fun o:Oper=>o.dst),aN f t)=(some t,some undef))(a:SL P N E ops Q rest ((d,undef)::f) g s)(c:t<N:=by decide)(hd:d<N:=by decide):SL P N E ops Q (⟨some d,op,ty,pos,af,some (j,b)⟩::rest) f g s:=by
 simp only[Prod.mk.injEq] at h; exact SL.off (Gd.off I h.1 h.2 c) hd a
theorem SL.yc (h:(((ops[j]?).bind fun o:Oper=>o.dst),aN f t,ev f x)=(some t,some<|.bool b,some v))(a:SL P N E ops Q rest ((d,v)::f) g s)(c:t<N:=by decide)(hd:d<N:=by decide):SL P N E ops Q (⟨some d,.move x,ty,pos,af,some (j,b)⟩::rest) f g s:=by
 simp only[Prod.mk.injEq] at h; exact lY I h.1 h.2.1 (mV h.2.2) a c hd
theorem SL.ad (h:(ev f x,ev f y)=(some<|vi m,some<|vi n))(a:SL P N E ops Q rest ((d,vi<|m+n)::f) g s)(hr : -9223372036854775808≤m+n∧m+n≤9223372036854775807:=by omega)(hd:d<N:=by decide):SL P N E ops Q (⟨some d,.binOp .add T x y U,ty,pos,af,none⟩::rest) f g s:=by
 simp only[Prod.mk.injEq] at h; exact lU (aD h.1 h.2 hr) a hd
theorem SL.ls (h:(ev f x,ev f y)=(some<|.int k m,some<|.int k n))(a:SL P N E ops Q rest ((d,.bool<|decide (m<n))::f) g s)(hd:d<N:=by decide):SL P N E ops Q (⟨some d,.binOp .lss T x y U,ty,pos,af,none⟩::rest) f g s:=by
 simp only[Prod.mk.injEq] at h; exact lU (lS h.1 h.2) a hd
theorem SL.ql (h:(ev f x,ev f y)=(some<|.int k m,some<|.int k n))(a:SL P N E ops Q rest ((d,.bool<|decide (m=n))::f) g s)(hd:d<N:=by decide):SL P N E ops Q (⟨some d,.binOp .eql T x y U,ty,pos,af,none⟩::rest) f g s:=by
 simp only[Prod.mk.injEq] at h; exact lU (eQ h.1 h.2) a hd
theorem SL.kp (h:(ev f c,ev f x)=(some<|.bool true,some v))(a:SL P N E ops Q rest ((d,v)::f) g s)(hd:d<N:=by decide):SL P N E ops Q (⟨some d,.pick c x y,ty,pos,af,none⟩::rest) f g s:=by
 simp only[Prod.mk.injEq] at h; exact lU (wT h.1 h.2) a hd
theorem SL.pf (h:(ev f c,ev f y)=(some<|.bool false,some v))(a:SL P N E ops Q rest ((d,v)::f) g s)(hd:d<N:=by decide):SL P N E ops Q (⟨some d,.pick c x y,ty,pos,af,none⟩::rest) f g s:=by
 simp only[Prod.mk.injEq] at h; exact lU (wF h.1 h.2) a hd
theorem SL.xt {vs:Array Value}(h:(ev f x,vs[i]?)=(some<|.tuple vs,some v))(a:SL P N E ops Q rest ((d,v)::f) g s)(hd:d<N:=by decide):SL P N E ops Q (⟨some d,.extract x i,ty,pos,af,none⟩::rest) f g s:=by
 simp only[Prod.mk.injEq] at h; exact lU (xT h.1 h.2) a hd
theorem SP.mv [Quiet Q](h:(ops[i]?,ev f x)=(some ⟨some d,.move x,ty,pos,af,none⟩,some v))(a:SP P N E ops Q g0 s0 tail plan ((d,v)::f) g s)(hd:d<N:=by decide):SP P N E ops Q g0 s0 tail ((i,2)::plan) f g s:=by
 simp only[Prod.mk.injEq] at h; exact pU h.1 (mV h.2) a hd
theorem SP.za [Quiet Q](h:(ops[i]?,((ops[j]?).bind fun o:Oper=>o.dst),aN f t)=(some ⟨some d,op,ty,pos,af,some (j,b)⟩,some t,some<|.bool<|!b))(a:SP P N E ops Q g0 s0 tail plan ((d,undef)::f) g s)(c:t<N:=by decide)(hd:d<N:=by decide):SP P N E ops Q g0 s0 tail ((i,2)::plan) f g s:=by
 simp only[Prod.mk.injEq] at h; exact fP h.1 (gZ I h.2.1 h.2.2 c) hd a
theorem SP.zb [Quiet Q](h:(ops[i]?,((ops[j]?).bind fun o:Oper=>o.dst),aN f t)=(some ⟨some d,op,ty,pos,af,some (j,b)⟩,some t,some undef))(a:SP P N E ops Q g0 s0 tail plan ((d,undef)::f) g s)(c:t<N:=by decide)(hd:d<N:=by decide):SP P N E ops Q g0 s0 tail ((i,2)::plan) f g s:=by
 simp only[Prod.mk.injEq] at h; exact fP h.1 (Gd.off I h.2.1 h.2.2 c) hd a
theorem SP.zc [Quiet Q](h:(ops[i]?,((ops[j]?).bind fun o:Oper=>o.dst),aN f t)=(some ⟨some d,op,ty,pos,af,some (j,b)⟩,some t,some<|.bool<|!b))(a:SP P N E ops Q g0 s0 tail plan ((d,undef)::f) g s)(c:t<N:=by decide)(hd:d<N:=by decide):SP P N E ops Q g0 s0 tail ((i,1)::plan) f g s:=by
 simp only[Prod.mk.injEq] at h; exact SP.off1 h.1 (gZ I h.2.1 h.2.2 c) hd a
theorem SP.yc [Quiet Q](h:(ops[i]?,((ops[j]?).bind fun o:Oper=>o.dst),aN f t,ev f x)=(some ⟨some d,.move x,ty,pos,af,some (j,b)⟩,some t,some<|.bool b,some v))(a:SP P N E ops Q g0 s0 tail plan ((d,v)::f) g s)(c:t<N:=by decide)(hd:d<N:=by decide):SP P N E ops Q g0 s0 tail ((i,2)::plan) f g s:=by
 simp only[Prod.mk.injEq] at h; exact SP.gu h.1 (gT I h.2.1 h.2.2.1 c) (mV h.2.2.2) hd a
end
theorem aL:type_of% @SO.alloc:=@SO.alloc
theorem bO:type_of% @SO.box:=@SO.box
theorem bW:type_of% @SL.bx:=@SL.bx
theorem oZ:type_of% @SL.O2:=@SL.O2
theorem tZ:type_of% @SL.nT:=@SL.nT
theorem aT:type_of% @SL.AT:=@SL.AT
theorem rZ:type_of% @SC.sR:=@SC.sR
theorem sW:type_of% @SC.sM:=@SC.sM
theorem yA:type_of% @SL.za:=@SL.za
theorem yB:type_of% @SL.zb:=@SL.zb
theorem yC:type_of% @SL.yc:=@SL.yc
theorem yD:type_of% @SL.ad:=@SL.ad
theorem yL:type_of% @SL.ls:=@SL.ls
theorem yE:type_of% @SL.ql:=@SL.ql
theorem yP:type_of% @SL.kp:=@SL.kp
theorem yF:type_of% @SL.pf:=@SL.pf
theorem yX:type_of% @SL.xt:=@SL.xt
theorem yM:type_of% @SP.mv:=@SP.mv
theorem yG:type_of% @SP.za:=@SP.za
theorem yH:type_of% @SP.zb:=@SP.zb
theorem yI:type_of% @SP.zc:=@SP.zc
theorem yJ:type_of% @SP.yc:=@SP.yc
end Go.Sy
namespace Go.Sy
open Go
structure STy (P:Program)(t e:TypeId)(k bytes:Nat)(z:Value):Prop where
 und:P.underlying t=some (.slice e)
 info:∃ i,P.info? e=some i∧i.zero=some z∧i.size=k∧i.bytes=bytes
 zs:z.cells.size=k
 pos:0<k
theorem STy.size {P:Program}{t e:TypeId}{k bytes:Nat}{z:Value}(h:STy P t e k bytes z)(w:World):(sizeOf e).run P w = .ok k w:=by
 obtain ⟨i,a,_,b,_⟩:=h.info;simp[sizeOf,typeInfo,a,b]
theorem STy.zero {P:Program}{t e:TypeId}{k bytes:Nat}{z:Value}(h:STy P t e k bytes z)(w:World):(zeroValue e).run P w = .ok z w:=by
 obtain ⟨i,a,b,_,_⟩:=h.info;simp[zeroValue,typeInfo,a,b]
def nA:Value→Option Nat
 | .slice (some a) _ (_+1)=>some a.block
 | _=>none
def row (T:TypeId)(k:Nat)(v:Value)(n:Nat)(xs:List Value):Ent :=
 ⟨nA v,fun oo=>xs.length=n * k∧((∃ p,v = .slice p 0 0∧n=0) ∨
  ∃ b cap cur,v = .slice (some ⟨b,0,none⟩) n (cap+1)∧oo=some (.cells cur T (0,0))∧n≤cap+1∧cap+1≤maxLen∧cur.size=(cap+1) * k∧cur.toList.take (n * k)=xs)⟩
theorem gX {E:World}{g:PH}{s:Own}{w:World}{T:TypeId}{k n i:Nat}{v:Value}{xs:List Value}(h:At E g s w)(d:s[i]?=some (row T k v n xs)):xs.length=n * k∧((∃ p,v = .slice p 0 0∧n=0) ∨
  ∃ b cap a,v = .slice (some ⟨b,0,none⟩) n (cap+1)∧w.heap[b]?=some (.cells a T (0,0))∧n≤cap+1∧cap+1≤maxLen∧a.size=(cap+1) * k∧a.toList.take (n * k)=xs):=by
 obtain ⟨e,c⟩:=h.own _<|List.mem_of_getElem? d;refine⟨e,?_⟩
 rcases c with c | ⟨b,cap,a,rfl,f,j⟩
 ·exact .inl c
 ·refine .inr ⟨b,cap,a,I,?_,j⟩;simpa [row,nA] using f
theorem ei {w:World}{T:TypeId}{k n b cap:Nat}{xs:List Value}{cur:Array Value}(a:xs.length=n * k)(hb:w.heap[b]?=some (.cells cur T (0,0)))(hn:n≤cap+1)(c:cap+1≤maxLen)(d:cur.size=(cap+1) * k)(e:cur.toList.take (n * k)=xs) :
  (row T k (.slice (some ⟨b,0,none⟩) n<|cap+1) n xs).holds ((row T k (.slice (some ⟨b,0,none⟩) n<|cap+1) n xs).blk.bind fun b=>w.heap[b]?) :=
 ⟨a,.inr ⟨b,cap,cur,rfl,by simpa [row,nA] using hb,hn,c,d,e⟩⟩
theorem Dp {E:World}{g:PH}{s:Own}{w:World}{T:TypeId}{k n i:Nat}{v:Value}{xs:List Value}(h:At E g s w)(a:s[i]?=some (row T k v n xs)):(∃ p c,v = .slice p n c)∧xs.length=n * k:=by
 obtain ⟨d,e⟩:=gX h a;refine⟨?_,d⟩
 rcases e with ⟨p,rfl,rfl⟩ | ⟨b,cap,f,rfl,_⟩
 ·exact⟨_,_,I⟩
 ·exact⟨_,_,I⟩
section
variable {P:Program}{N:Nat}{E:World}{ops:Array Oper}{Q:Exit→Act→World→Prop}{f:Fr}{g:PH}{s:Own}{dst:Option Tmp}{ty:TypeId}{pos:String}{af:Array Edge}{gd:Option (Nat×Bool)}
theorem At.emptyRow {w:World}(h:At E g s w)(T:TypeId)(k:Nat)(p:Option Addr):At E g (row T k (.slice p 0 0) 0 []::s) w:=by
 have hr:nA (.slice p 0 0)=none:=by cases p <;> rfl
 refine⟨h.os,h.tape,h.output,h.known,fun e a=>?_,fun e a b hb=>?_,List.pairwise_cons.2 ⟨fun e _ b hb=>by simp[row,hr] at hb,h.apart⟩⟩
 ·rcases List.mem_cons.1 a with rfl | a
  ·exact⟨by simp,.inl ⟨p,I,I⟩⟩
  ·exact h.own e a
 ·rcases List.mem_cons.1 a with rfl | a
  ·simp[row,hr] at hb
  ·exact h.fresh e a b hb
theorem At.nilRow {w:World}(h:At E g s w)(T:TypeId)(k:Nat):At E g (row T k (.slice none 0 0) 0 []::s) w:=h.emptyRow T k none
theorem SL.emptyRow {l:List Oper}(T:TypeId)(k:Nat)(p:Option Addr)(h:SL P N E ops Q l f g (row T k (.slice p 0 0) 0 []::s)):SL P N E ops Q l f g s:=fun a w b c=>h a w b (c.emptyRow T k p)
theorem SC.nilRow {c:Code}(T:TypeId)(k:Nat)(h:SC P N E c Q f g (row T k (.slice none 0 0) 0 []::s)):SC P N E c Q f g s:=fun a w b d=>h a w b (d.nilRow T k)
theorem ST.nilRow {e:Exit}(T:TypeId)(k:Nat)(h:ST N E Q e f g (row T k (.slice none 0 0) 0 []::s)):ST N E Q e f g s:=fun a w b c=>h a w b (c.nilRow T k)
theorem Rd.row {T:TypeId}{k n:Nat}{v:Value}{xs:List Value}(i:Nat)(d:s[i]?=some (row T k v n xs)):Rd g s v xs:=by
 intro E w e j x a;obtain ⟨c,f⟩:=gX e d
 rcases f with ⟨p,rfl,hn⟩ | ⟨b,cap,h,rfl,hb,_,_,_,l⟩
 ·subst hn;have:xs=[]:=List.eq_nil_of_length_eq_zero (by simpa using c);subst this;simp at a
 ·refine⟨⟨b,0,none⟩,n,cap+1,I,I,?_⟩;rw[← l,List.getElem?_take] at a;split at a
  ·simp[World.cell?,hb];simpa using a
  ·cases a
theorem SC.facts {c:Code}(h:(∃ w,At E g s w)→SC P N E c Q f g s):SC P N E c Q f g s:=fun a w d b=>h ⟨w,b⟩ a w d b
theorem SL.facts {l:List Oper}(h:(∃ w,At E g s w)→SL P N E ops Q l f g s):SL P N E ops Q l f g s:=fun a w c b=>h ⟨w,b⟩ a w c b
theorem SP.facts {g0:PH}{s0:Own}{tail:List Nat}{plan:List (Nat×Nat)}(h:(∃ w,At E g s w)→SP P N E ops Q g0 s0 tail plan f g s):SP P N E ops Q g0 s0 tail plan f g s :=
 fun L a w d b e i c hb=>h ⟨w,c⟩ L a w d b e i c hb
theorem At.newRow {w w':World}{T:TypeId}{k n i cap:Nat}{v:Value}{xs ys:List Value}{zs:List Value}{m:Nat}(h:At E g s w)(o:s[i]?=some (row T k v n xs))(d:w'=w.drew.alloc (.cells (xs.toArray++ys.toArray++zs.toArray) T))
  (e:xs.length=n * k) (f:ys.length=m * k) (p:n+m≤cap) (l:0<n+m) (j:cap≤maxLen) (hz:zs.length=(cap - (n+m)) * k) :
  At E g (s.set i<|row T k (.slice (some ⟨w.heap.size,0,none⟩) (n+m) cap) (n+m)<|xs++ys) w':=by
 subst d;obtain ⟨cap,rfl⟩:∃ c,cap=c+1:=⟨cap - 1,oM⟩;have a:(w.drew.alloc<|.cells (xs.toArray++ys.toArray++zs.toArray) T).heap[w.heap.size]?=some (.cells (xs.toArray++ys.toArray++zs.toArray) T (0,0)):=heap_alloc_new w.drew _;refine h.turn o I ⟨I,(by exact Nat.le_add_right _ _)⟩ I (by simp) (fun k q _=>heap_alloc_old w.drew _ k q) (ei (by simp[e,f,Nat.add_mul]) a p j ?_ ?_) (fun b hb=>?_)
 ·simp only[Array.size_append,List.size_toArray,e,f,hz,← Nat.add_mul];congr 1;omega
 ·have:(n+m) * k=(xs++ys).length:=by simp[e,f,Nat.add_mul]
  rw[this];simp only[Array.toList_append,List.append_assoc];rw[← List.append_assoc];exact List.take_left
 ·simp only[row,nA,Option.some.injEq] at hb;subst hb;exact⟨by simp,.inr<|Nat.le_refl _⟩
theorem SO.append {x y:Operand}{t e:TypeId}{k bytes n m:Nat}{z v u:Value}{xs ys:List Value}(i:Nat)(B:STy P t e k bytes z)(hx:ev f x=some v)(M:s[i]?=some (row e k v n xs))(hy:ev f y=some u)
  (hu:isSl u=true) (hm:slen u=m) (hr:Rd g s u ys) (hl:ys.length=m * k) (h1:∀ q∈ys,q.oneCell'=true) (hb:(n+m) * bytes≤140737488355328) (b5:n+m≤4611686018427387904) :
  SO P N E ⟨dst,.call ⟨.builtin .append,#[x,y],#[t,t]⟩,ty,pos,af,gd⟩ f g s fun v' g' s'=>g=g'∧s'=s.set i (row e k v' (n+m)<|xs++ys) :=
 SO.of_run fun a w ha G=>by
  obtain ⟨A,C⟩:=gX G M;obtain ⟨ti,H,O,o,Q⟩:=B.info;have W:s.set i (row e k v n xs)=s:=by
   apply List.ext_getElem?;intro q;rw[List.getElem?_set];split
   ·rename_i e1; subst e1;split
    ·exact M.symm
    ·rename_i h2; simp at h2; rw[List.getElem?_eq_none oM]
   ·rfl
  have key:∃ v' w',(Builtin.append_ #[t,t] ty #[v,u]).run P w = .ok v' w'∧At E g (s.set i<|row e k v' (n+m)<|xs++ys) w':=by
   cases u <;> simp[isSl] at hu
   rename_i p m' c;simp only[slen] at hm;subst hm;have X:ys=[]→m'=0:=fun e=>by
    rw[e] at hl;have:=B.pos
    rcases Nat.mul_eq_zero.1 hl.symm with h | h <;> omega
   have h0:m'=0→ys=[]:=fun e=>List.eq_nil_of_length_eq_zero (by rw[hl,e]; simp)
   -- nothing is appended
   by_cases R:m'=0
   ·have S:=h0 R;subst R;subst S;refine⟨v,w,?_,by simpa [W] using G⟩
    rcases C with ⟨q,rfl,rfl⟩ | ⟨b,cap,J,rfl,_,Y,_⟩
    ·cases p <;> cases q <;> simp[Builtin.append_,run_underlying B.und,B.size w,Builtin.lenOf,Builtin.firstCells,loadCells,loadCellsFrom,storeCells]
    ·cases p <;> simp[Builtin.append_,run_underlying B.und,B.size w,Builtin.lenOf,Y,Builtin.firstCells,loadCells,loadCellsFrom,storeCells]
   ·have a3:ys≠[]:=fun e=>R<|X e;obtain ⟨y0,S⟩:∃ y0,ys[0]?=some y0:=by
     cases ys with
     | nil=>exact absurd rfl a3
     | cons y r=>exact⟨y,rfl⟩
    obtain ⟨ad,_,_,he,Z,_⟩:=hr E w G 0 y0 S;cases he;have d:∀ j q,ys[j]?=some q→w.cell? (ad.add j)=some q:=fun j q V=>by
     obtain ⟨a',_,_,he,_,hc⟩:=hr E w G j q V;cases he;have D:ad.add j=⟨ad.block,ad.off+j,none⟩:=by
      obtain ⟨b1,o1,s1⟩:=ad;simp only at Z;subst Z;unfold Addr.add;split <;> simp_all
     rw[D];exact hc
    have a4:m' * bytes≤140737488355328:=Nat.le_trans (Nat.mul_le_mul_right _ oM) hb;have T:∀ c,(Builtin.zeroCells z.cells c).toList.length=c * k:=fun c=>by simp[size_zeroCells,B.zs]
    rcases C with ⟨q,rfl,rfl⟩ | ⟨b,cap,J,rfl,hg,Y,K,a0,F⟩
    ·have a5:xs=[]:=List.eq_nil_of_length_eq_zero (by simpa using A);subst a5;have L:=grownCap_ge w (0+m') 0 e;have K:=grownCap_le_maxLen w (0+m') 0 e (by unfold maxLen; omega);cases q with
     | none =>
      have U:=run_append_nil (P:=P) w t ty e ti z B.und H O ad m' c ys (by rw[o]; exact hl) d oM oM (by rw[Q]; omega);have h6:=G.newRow (zs:=(Builtin.zeroCells z.cells<|grownCap w (0+m') 0 e - (0+m')).toList) M rfl A hl L oM K (by rw[T]);refine⟨_,_,U,?_⟩;simpa using h6
     | some q =>
      have U:=run_append_grow (P:=P) w t ty e ti z B.und H O q 0 0 [] (by simp) (by simp) ad m' c ys (by rw[o]; exact hl) d oM oM (by rw[Q]; exact growslice_fits oM<|by simpa using a4);have h6:=G.newRow (zs:=(Builtin.zeroCells z.cells<|grownCap w (0+m') 0 e - (0+m')).toList) M rfl A hl L oM K (by rw[T]);refine⟨_,_,U,?_⟩;simpa using h6
    ·by_cases l:n+m'≤cap+1
     ·have U:=run_append_room (P:=P) w t ty e ti B.und H b n (cap+1) J hg ad m' c ys (by rw[o]; exact hl) d h1 l (by rw[hl,a0,o,← Nat.add_mul]; exact Nat.mul_le_mul_right _ l);refine⟨_,_,U,?_⟩;have a9:n * k+ys.length≤J.size:=by rw[hl,a0,← Nat.add_mul]; exact Nat.mul_le_mul_right _ l
      have b0:=G.fresh _ (List.mem_of_getElem? M) b rfl;refine G.turn M I ⟨I,(by exact Nat.le_refl _)⟩ I (by simp) (fun k' _ b2=>setRow_other w b k' _<|fun e1=>b2<|by simp[row,nA,e1]) (ei (by simp[A,hl,Nat.add_mul]) (setRow_heap w b J _ e _ hg) l K ?_ ?_) (fun b' a1=>?_)
      ·rw[o];simp only[List.size_toArray,List.length_append,List.length_take,List.length_drop,Array.length_toList];omega
      ·rw[o,F];have:(n+m') * k=(xs++ys).length:=by simp[A,hl,Nat.add_mul]
       rw[this];exact List.take_left
      ·simp only[row,nA,Option.some.injEq] at a1;subst a1;exact⟨by simpa using b0.2,.inl I⟩
     ·have holds:∀ j q,xs[j]?=some q→w.cell? ((⟨b,0,none⟩:Addr).add j)=some q:=fun j q V=>by
       have D:(⟨b,0,none⟩:Addr).add j=⟨b,j,none⟩:=by unfold Addr.add; split <;> simp_all
       rw[← F,List.getElem?_take] at V;split at V
       ·rw[D]; simp[World.cell?,hg]; simpa using V
       ·cases V
      have L:=grownCap_ge w (n+m') (cap+1) e;have a2:=grownCap_le_maxLen w (n+m') (cap+1) e (by unfold maxLen; omega);have U:=run_append_grow (P:=P) w t ty e ti z B.und H O ⟨b,0,none⟩ n (cap+1) xs (by rw[o]; exact A) holds ad m' c ys (by rw[o]; exact hl) d oM oM (by rw[Q]; exact growslice_fits oM hb);have h6:=G.newRow (zs:=(Builtin.zeroCells z.cells<|grownCap w (n+m') (cap+1) e - (n+m')).toList) M rfl A hl L oM a2 (by rw[T]);refine⟨_,_,U,?_⟩;simpa using h6
  obtain ⟨v',w',b3,b4⟩:=key;refine⟨v',w',g,_,?_,b4,I,I⟩;simp[execOp,resolve,invoke,builtin,ha.ev hx,ha.ev hy,b3]
end
theorem yq:∀ (l:List Value) (m off:Nat) (cs:List Value),off+m+l.length≤cs.length →
  ((l.zipIdx m).foldl (fun (a:Array Value) p=>a.setIfInBounds (off+p.2) p.1) cs.toArray)=(cs.take (off+m)++l++cs.drop (off+m+l.length)).toArray
 | [],m,off,cs,_=>by simp
 | x::r,m,off,cs,h=>by
  simp only[List.zipIdx_cons,List.foldl_cons,List.setIfInBounds_toArray];have b:off+(m+1)+r.length≤(cs.set (off+m) x).length:=by simp at h ⊢; omega
  rw[yq r (m+1) off (cs.set (off+m) x) b];have c:off+m<cs.length:=by simp at h; omega
  congr 1;rw[← Nat.add_assoc];rw[tS (by simpa using c)];simp only[List.getElem_set_self,List.take_set_of_le<|Nat.le_refl _];rw[List.drop_set_of_lt oM];simp only[List.append_assoc,List.cons_append,List.nil_append,List.length_cons];rw[show off+m+1+r.length=off+m+(r.length+1) by omega]
theorem yv (k:Nat):∀ (vs:List Value) (i:Nat) (cs:List Value),(∀ v∈vs,v.cells.size=k)→cs.length=(i+vs.length) * k →
  Instr.fill (fun i=>some (i * k,k)) cs.toArray ((vs.zipIdx i).map fun p=>(p.2,p.1))=some (cs.take (i * k)++vs.flatMap fun v=>v.cells.toList).toArray
 | [],i,cs,_,hl=>by
  simp only[List.zipIdx_nil,List.map_nil,Instr.fill,List.flatMap_nil,List.append_nil];rw[tL (by simp at hl; omega)]
 | v::r,i,cs,f,hl=>by
  have d:=f v (by simp);have e:i * k+k≤cs.length:=by rw[hl,← Nat.succ_mul]; exact Nat.mul_le_mul_right k (by simp)
  simp only[List.zipIdx_cons,List.map_cons,Instr.fill];rw[if_neg (by simp[d]; omega)];have g:v.cells.zipIdx.foldl (fun cs (c,j)=>cs.setIfInBounds (i * k+j) c) cs.toArray=(cs.take (i * k)++v.cells.toList++cs.drop (i * k+k)).toArray:=by
   have:=yq v.cells.toList 0 (i * k) cs (by simp[d]; omega);rw[← Array.foldl_toList,Array.toList_zipIdx];simpa [d] using this
  rw[g];have b:(cs.take (i * k)++v.cells.toList++cs.drop (i * k+k)).length=(i+1+r.length) * k:=by
   simp[d];rw[Nat.min_eq_left oM];rw[hl] at e ⊢;simp only[List.length_cons] at *;rw[show i+(r.length+1)=i+1+r.length by omega] at *;omega
  rw[yv k r (i+1) _ (fun u h=>f u<|by simp[h]) b];congr 2;have a:(cs.take (i * k)++v.cells.toList).length=(i+1) * k:=by simp[d,Nat.succ_mul,Nat.min_eq_left (show i * k≤cs.length by omega)]
  rw[List.take_append_of_le_length<|Nat.le_of_eq a.symm,tL<|Nat.le_of_eq a];simp
theorem qD {P:Program}{w:World}{t e:TypeId}{k bytes:Nat}{z:Value}(a:STy P t e k bytes z)(vs:List Value)(d:∀ v∈vs,v.cells.size=k)(hb:vs.length * k≤16777216) :
  (Instr.buildSlice t vs.length ((vs.zipIdx).map fun p=>(p.2,p.1)).toArray).run P w = .ok (.slice (some ⟨w.heap.size,0,none⟩) vs.length vs.length) { w with heap:=w.heap.push (.cells (vs.flatMap fun v=>v.cells.toList).toArray e (0,0)) }:=by
 have hz:∀ (zs:Array Value),Instr.fill (fun i=>some (i * k,k)) ((Array.range<|vs.length * k).map (zs[· % zs.size]!)) ((vs.zipIdx).map fun p=>(p.2,p.1))=some (vs.flatMap fun v=>v.cells.toList).toArray:=by
  intro zs;have:=yv k vs 0 ((Array.range<|vs.length * k).map (zs[· % zs.size]!)).toList d (by simp);simp only[Array.toArray_toList,Nat.zero_mul,List.take_zero,List.nil_append] at this;exact this
 have hn:¬ (vs.length * k>16777216):=oM;by_cases c:vs.length * k=0
 ·have b:=hz #[];simp only[c] at b;simp[Instr.buildSlice,run_underlying a.und,a.size w,c,newRow];simp at b;simp[b]
 ·have b:=hz z.cells;simp only[Instr.buildSlice,Sem.run_bind,run_underlying a.und,a.size w,Result.andThen_ok,c,if_false,Sem.run_pure,a.zero w];simp[b,newRow,hn,a.zero]
section
variable {P:Program}{N:Nat}{E:World}{f:Fr}{g:PH}{s:Own}{dst:Option Tmp}{ty:TypeId}{pos:String}{af:Array Edge}{gd:Option (Nat×Bool)}
def rX:Nat→List (Nat×Operand)→Bool
 | _,[]=>true
 | i,(j,_)::r=>i == j&&rX (i+1) r
theorem pI {a:Act}(d:Ok N f a):∀ (ps:List (Nat×Operand)) (i:Nat) (vs:List Value),rX i ps=true→evs f (ps.map (·.2))=some vs→(ps.map fun p=>(p.1,a.eval p.2))=(vs.zipIdx i).map fun p=>(p.2,p.1)
 | [],_,vs,_,b=>by
  simp only[List.map_nil,evs,Option.some.injEq] at b;subst b;rfl
 | (j,x)::r,i,vs,c,b=>by
  simp only[rX,Bool.and_eq_true,beq_iff_eq] at c;obtain ⟨rfl,c⟩:=c;simp only[List.map_cons,evs] at b;split at b
  ·rename_i v e;split at b
   ·rename_i vs' hr;simp only[Option.some.injEq] at b;subst b;simp only[List.map_cons,List.zipIdx_cons,d.ev e];rw[pI d r (i+1) vs' c hr]
   ·cases b
  ·cases b
theorem SO.buildSlice {t e:TypeId}{k bytes n:Nat}{z:Value}{ps:List (Nat×Operand)}{vs:List Value}(c:STy P t e k bytes z)(d:rX 0 ps=true)(h:evs f (ps.map (·.2))=some vs)(hn:vs.length=n)(i:∀ v∈vs,v.cells.size=k)(hb:n * k≤16777216) :
  SO P N E ⟨dst,.buildSlice t n ps.toArray,ty,pos,af,gd⟩ f g s fun u g' s'=>∃ b,u = .slice (some ⟨b,0,none⟩) n n∧g=g'∧s'=pt b (.cells (vs.flatMap fun v=>v.cells.toList).toArray e (0,0))::s :=
 SO.of_run fun a w j l=>by
  subst hn;have hr:=qD (P:=P) (w:=w) c vs i hb;refine⟨_,_,g,_,?_,l.alloc (e:=pt w.heap.size<|.cells (vs.flatMap fun v=>v.cells.toList).toArray e (0,0)) I I,_,I,I,I⟩;have hm:=pI j ps 0 vs d h;simp only[execOp,List.map_toArray,hm];simp[hr]
end
def Sl (g:PH)(k:Nat)(v:Value)(n:Nat)(xs:List Value):Prop :=
 ∃ p c,v = .slice p n c∧(xs.length=n * k∧n≤c)∧(xs≠[]→∃ b o cs T fr,p=some ⟨b,o,none⟩∧g b=some (.cells cs T fr)∧∀ j x,xs[j]?=some x→cs[o+j]?=some x)
section
variable {g g':PH}{s:Own}{k n:Nat}{v:Value}{xs:List Value}
theorem Sl.mono (h:Sl g k v n xs)(hl:Le g g'):Sl g' k v n xs:=by
 obtain ⟨p,c,d,e,f⟩:=h;refine⟨p,c,d,e,fun a=>?_⟩;obtain ⟨b,o,cs,T,fr,i,j,l⟩:=f a;exact⟨b,o,cs,T,fr,i,hl _ _ j,l⟩
theorem Sl.isSl (h:Sl g k v n xs):isSl v=true:=by obtain ⟨p,c,rfl,_⟩:=h; rfl
theorem Sl.slen (h:Sl g k v n xs):slen v=n:=by obtain ⟨p,c,rfl,_⟩:=h; rfl
theorem Sl.length (h:Sl g k v n xs):xs.length=n * k:=by obtain ⟨p,c,_,a,_⟩:=h; exact a.1
theorem Sl.based (h:Sl g k v n xs)(hn:0<n)(d:0<k):based v=true:=by
 obtain ⟨p,c,rfl,⟨a,_⟩,f⟩:=h;have:xs≠[]:=fun e=>by rw[e] at a; have:=Nat.mul_pos hn d; simp at a; omega
 obtain ⟨b,o,cs,T,fr,rfl,_⟩:=f this;rfl
theorem Sl.rd (h:Sl g k v n xs):Rd g s v xs:=by
 intro E w d j x a;obtain ⟨p,c,rfl,m,f⟩:=h;obtain ⟨b,o,cs,T,fr,rfl,i,l⟩:=f (fun e=>by rw[e] at a; simp at a);exact⟨_,_,_,I,I,cK (s:=s) i (l j x a) E w d⟩
theorem Sl.nil (g:PH)(k:Nat):Sl g k (.slice none 0 0) 0 []:=⟨_,_,rfl,⟨by simp,Nat.le_refl _⟩,fun h=>absurd rfl h⟩
theorem At.freezeRow {E:World}{w:World}{T:TypeId}(h:At E g (row T k v n xs::s) w):∃ g',Le g g'∧At E g' s w∧Sl g' k v n xs:=by
 obtain ⟨a,l⟩:=gX (i:=0) h rfl
 rcases l with ⟨p,rfl,rfl⟩ | ⟨b,cap,e,rfl,hb,f,_,m,c⟩
 ·have:xs=[]:=List.eq_nil_of_length_eq_zero (by simpa using a);subst this;exact⟨g,Le.refl g,h.sublist<|List.sublist_cons_self _ _,p,0,I,⟨by simp,Nat.le_refl _⟩,fun h=>absurd I h⟩
 ·obtain ⟨o,q⟩:=h.freeze (b:=b) rfl hb;refine⟨_,q,o,some ⟨b,0,none⟩,cap+1,I,⟨a,f⟩,fun _=>⟨b,0,e,T,(0,0),I,fc _ _ _,fun j x d=>?_⟩⟩;rw[← c,List.getElem?_take] at d;split at d
  ·simpa using d
  ·cases d
end
theorem bS:type_of% @SO.buildSlice:=@SO.buildSlice
end Go.Sy
namespace Go.Sy
open Go
section
variable {P:Program}{N:Nat}{E:World}{ops:Array Oper}{Q:Exit→Act→World→Prop}{f f0:Fr}{g g':PH}{s:Own}
def GR (N:Nat)(E:World)(f:Fr)(g:PH)(s:Own)(a:Act)(w:World):Prop:=Ok N f a∧At E g s w
theorem SC.cutB {x y:Code}(r:Nat)(b:Bool)(c:SC P N E x (Exit.then (GR N E ((r,.bool b)::f) g s) Q) f g s)(d:SC P N E y Q ((r,.bool b)::f) g s):SC P N E (.seq x y) Q f g s:=by
 refine sQ fun a w i j=>Code.wp_mono (fun e a' w' h=>?_)<|c a w i j;cases e <;> first | exact h | exact d a' w' h.1 h.2
def FA (r:Nat):Fr→Fr→Prop
 | [],_=>True
 | (t,v)::q,f=>(aN f t=some v∨t=r)∧FA r q f
theorem FA.get {r:Nat}:∀ {f0 f:Fr},FA r f0 f→∀ t v,t≠r→aN f0 t=some v→aN f t=some v
 | [],_,_,_,_,_,a=>by simp[aN] at a
 | (k,u)::q,f,h,t,v,b,a=>by
  simp only[aN] at a;by_cases c:k=t
  ·subst c;rw[if_pos rfl] at a;injection a with a
   subst a;exact h.1.resolve_right b
  ·rw[if_neg c] at a;exact FA.get h.2 t v b a
theorem ST.mid1 {r:Nat}{b:Bool}(hb:aN f r=some (.bool b))(h:FA r f0 f):ST N E (Exit.then (GR N E ((r,.bool b)::f0) g s) Q) .normal f g s :=
 fun a _ d i=>⟨⟨d.defers,d.size,fun t v c=>by
  simp only[aN] at c;by_cases hr:r=t
  ·subst hr;rw[if_pos rfl] at c;injection c with c
   subst c;exact d.at_ _ _ hb
  ·rw[if_neg hr] at c;exact d.at_ t v (h.get t v (fun e=>hr e.symm) c)⟩,i⟩
theorem SL.split {l:List Oper}{d:Nat}{p:Prop}[Decidable p](b:p→SL P N E ops Q l ((d,.bool true)::f) g s)(c:¬ p→SL P N E ops Q l ((d,.bool false)::f) g s):SL P N E ops Q l ((d,.bool<|decide p)::f) g s:=by
 by_cases a:p
 ·rw[decide_eq_true a]; exact b a
 ·rw[decide_eq_false a]; exact c a
theorem SP.split {g0:PH}{s0:Own}{tail:List Nat}{plan:List (Nat×Nat)}{d:Nat}{p:Prop}[Decidable p](b:p→SP P N E ops Q g0 s0 tail plan ((d,.bool true)::f) g s)(c:¬ p→SP P N E ops Q g0 s0 tail plan ((d,.bool false)::f) g s) :
  SP P N E ops Q g0 s0 tail plan ((d,.bool<|decide p)::f) g s:=by
 by_cases a:p
 ·rw[decide_eq_true a]; exact b a
 ·rw[decide_eq_false a]; exact c a
end
def EH:List Value→Prop
 | []=>True
 | u::r=>u.oneCell'=true∧EH r
theorem mD:∀ {l:List Value},EH l→∀ u∈l,u.oneCell'=true
 | [],_,u,a=>by cases a
 | x::r,h,u,a=>by
  rcases List.mem_cons.1 a with rfl | a
  ·exact h.1
  ·exact mD h.2 u a
def Szs (k:Nat):List Value→Prop
 | []=>True
 | u::r=>u.cells.size=k∧Szs k r
theorem ab {k:Nat}:∀ {l:List Value},Szs k l→∀ u∈l,u.cells.size=k
 | [],_,u,a=>by cases a
 | x::r,h,u,a=>by
  rcases List.mem_cons.1 a with rfl | a
  ·exact h.1
  ·exact ab h.2 u a
section
variable {P:Program}{N:Nat}{E:World}{f:Fr}{g:PH}{s s1:Own}{dst:Option Tmp}{ty:TypeId}{pos:String}{af:Array Edge}{gd:Option (Nat×Bool)}
theorem Rd.pt {b n c:Nat}{cs:Array Value}{T:TypeId}{fr:Nat×Nat}(i:Nat)(a:s[i]?=some (pt b<|.cells cs T fr)):Rd g s (.slice (some ⟨b,0,none⟩) n c) cs.toList:=fun E w d j x e =>
 ⟨_,_,_,rfl,rfl,cO (g:=g) (o:=0+j) i a (by simpa using e) E w d⟩
theorem SO.drop {o:Oper}{K:Value→PH→Own→Prop}{e:Ent}(h:SO P N E o f g (e::s) fun v g' s'=>∃ s1,s'=e::s1∧K v g' s1):SO P N E o f g (e::s) K:=by
 intro a w d i Q next hn;refine h a w d i Q next fun v g' s' w' b c=>?_;obtain ⟨s1,rfl,b⟩:=b;exact hn v g' s1 w' b<|c.sublist<|List.sublist_cons_self _ _
theorem SO.mono {o:Oper}{K K':Value→PH→Own→Prop}(h:SO P N E o f g s K)(c:∀ v g' s',K v g' s'→K' v g' s'):SO P N E o f g s K' :=
 fun a w d e Q next hn=>h a w d e Q next fun v g' s' w' i b=>hn v g' s' w' (c v g' s' i) b
theorem SO.app1 {x y:Operand}{t e:TypeId}{k bytes n b:Nat}{z v:Value}{xs:List Value}{cs:Array Value}(i:Nat)(xs':List Value)(n':Nat)(c:STy P t e k bytes z)(d:ev f x=some v)(h:ev f y=some (.slice (some ⟨b,0,none⟩) 1 1))
  (j:s=pt b (.cells cs e (0,0))::s1) (l:s1[i]?=some (row e k v n xs)) (m:cs.size=k) (o:EH cs.toList) (p:xs++cs.toList=xs') (hn:n+1=n') (hb:(n+1) * bytes≤140737488355328) (a:n+1≤4611686018427387904) :
  SO P N E ⟨dst,.call ⟨.builtin .append,#[x,y],#[t,t]⟩,ty,pos,af,gd⟩ f g s fun v' g' s'=>g=g'∧s'=s1.set i (row e k v' n' xs'):=by
 subst j;subst p;subst hn;refine SO.drop ((SO.append (i+1) c d l h I I (Rd.pt 0 I) (by simp[m,slen]) (mD o) hb a).mono fun v' g' s' ⟨q,r⟩=>⟨s1.set i<|row e k v' (n+1)<|xs++cs.toList,r,q,I⟩)
end
theorem Sl.form {g:PH}{k n:Nat}{v:Value}{xs:List Value}(h:Sl g k v n xs):∃ p c,v = .slice p n c:=by obtain ⟨p,c,a,_⟩:=h; exact⟨p,c,a⟩
theorem sP:type_of% @SL.split:=@SL.split
theorem za1:type_of% @SC.condF:=@SC.condF
theorem za2:type_of% @SC.condT:=@SC.condT
theorem za8:type_of% @ST.ret1:=@ST.ret1
theorem za9:type_of% @ST.mid:=@ST.mid
theorem zb1:type_of% @ST.mid1:=@ST.mid1
theorem zb2:type_of% @Ctr.of:=@Ctr.of
theorem zb3:type_of% @SP.gu:=@SP.gu
theorem zb4:type_of% @Gd.off:=@Gd.off
theorem zb6:type_of% @SC.nilRow:=@SC.nilRow
theorem zb8:type_of% @Eq.trans:=@Eq.trans
theorem zb9:type_of% @Le.refl:=@Le.refl
theorem zc1:type_of% @Sl.nil:=@Sl.nil
theorem zc2:type_of% @Sl.slen:=@Sl.slen
theorem zc3:type_of% @Sl.form:=@Sl.form
theorem zc4:type_of% @List.Sublist.refl:=@List.Sublist.refl
theorem zc5:type_of% @List.length_nil:=@List.length_nil
theorem zc6:type_of% @List.length_filter_le:=@List.length_filter_le
theorem zc7:type_of% @List.append_nil:=@List.append_nil
theorem zc8:type_of% @List.getElem_of_mem:=@List.getElem_of_mem
theorem zc9:type_of% @List.map_congr_left:=@List.map_congr_left
theorem zd1:type_of% @List.pairwise_iff_getElem:=@List.pairwise_iff_getElem
theorem zd2:type_of% @Result.andThen_ok:=@Result.andThen_ok
theorem zd3:type_of% @SP.facts:=@SP.facts
theorem zd4:type_of% @SL.facts:=@SL.facts
theorem zd9:type_of% @SU.rem:=@SU.rem
theorem ze1:type_of% @SU.convert:=@SU.convert
theorem ze2:type_of% @SU.addW:=@SU.addW
theorem ze3:type_of% @SL.go:=@SL.go
theorem ze4:type_of% @congrArg:=@congrArg
theorem ze6:type_of% @List.length_take:=@List.length_take
theorem ze7:type_of% @List.length_append:=@List.length_append
theorem ze8:type_of% @List.length_map:=@List.length_map
theorem ze9:type_of% @List.length_singleton:=@List.length_singleton
theorem zf1:type_of% @List.length_cons:=@List.length_cons
theorem zf2:type_of% @List.length_drop:=@List.length_drop
theorem zf3:type_of% @List.mem_cons:=@List.mem_cons
theorem zf4:type_of% @List.mem_map:=@List.mem_map
theorem zf5:type_of% @List.mem_append:=@List.mem_append
theorem zf6:type_of% @List.eq_nil_of_length_eq_zero:=@List.eq_nil_of_length_eq_zero
theorem zf7:type_of% @List.getElem?_eq_some_iff:=@List.getElem?_eq_some_iff
theorem zf8:type_of% @Nat.zero_le:=@Nat.zero_le
theorem zf9:type_of% @decide_eq_false:=@decide_eq_false
theorem zg1:type_of% @decide_eq_true:=@decide_eq_true
theorem zg2:type_of% @if_neg:=@if_neg
theorem zg3:type_of% @if_pos:=@if_pos
theorem zg4:type_of% @List.mem_of_getElem?:=@List.mem_of_getElem?
theorem zg5:type_of% @of_decide_eq_true:=@of_decide_eq_true
theorem zg6:type_of% @List.map_cons:=@List.map_cons
theorem zg7:type_of% @List.map_append:=@List.map_append
theorem zg8:type_of% @List.drop_eq_getElem_cons:=@List.drop_eq_getElem_cons
theorem zg9:type_of% @Option.some.injEq:=@Option.some.injEq
theorem zh1:type_of% @List.append_assoc:=@List.append_assoc
theorem zh2:type_of% @Decidable.of_not_not:=@Decidable.of_not_not
theorem zh3:type_of% @List.getD_eq_getElem?_getD:=@List.getD_eq_getElem?_getD
theorem zh4:type_of% @List.getElem?_append_left:=@List.getElem?_append_left
theorem zh5:type_of% @List.getElem?_append_right:=@List.getElem?_append_right
theorem zh6:type_of% @List.mem_filter:=@List.mem_filter
theorem zh7:type_of% @List.flatMap_cons:=@List.flatMap_cons
theorem zh8:type_of% @List.filter_append:=@List.filter_append
theorem zh9:type_of% @List.mem_singleton:=@List.mem_singleton
theorem zi1:type_of% @Option.isSome_iff_exists:=@Option.isSome_iff_exists
theorem zi2:type_of% @List.getElem?_map:=@List.getElem?_map
theorem zi3:type_of% @List.getElem?_take:=@List.getElem?_take
theorem zi4:type_of% @List.getElem?_drop:=@List.getElem?_drop
theorem zi5:type_of% @List.length_set:=@List.length_set
theorem zi6:type_of% @List.length_range:=@List.length_range
theorem zi7:type_of% @List.map_map:=@List.map_map
theorem zi8:type_of% @List.find?_cons:=@List.find?_cons
theorem zi9:type_of% @List.filter_cons:=@List.filter_cons
theorem zj1:type_of% @List.foldl_cons:=@List.foldl_cons
theorem zj2:type_of% @List.foldl_append:=@List.foldl_append
theorem zj3:type_of% @List.sublist_cons_self:=@List.sublist_cons_self
theorem zj4:type_of% @List.take_append_drop:=@List.take_append_drop
theorem zj5:type_of% @Bool.and_eq_true:=@Bool.and_eq_true
theorem zj6:type_of% @Bool.or_eq_true:=@Bool.or_eq_true
theorem zj7:type_of% @decide_eq_true_eq:=@decide_eq_true_eq
theorem zj8:type_of% @decide_eq_true_iff:=@decide_eq_true_iff
theorem zj9:type_of% @Bool.not_eq_true:=@Bool.not_eq_true
theorem zk1:type_of% @List.any_eq_true:=@List.any_eq_true
theorem zk2:type_of% @List.all_eq_true:=@List.all_eq_true
theorem zk3:type_of% @List.Perm.swap:=@List.Perm.swap
theorem zk4:type_of% @List.nodup_cons:=@List.nodup_cons
theorem zk5:type_of% @List.pairwise_cons:=@List.pairwise_cons
theorem zk6:type_of% @List.pairwise_map:=@List.pairwise_map
theorem zk7:type_of% @List.any_eq_false:=@List.any_eq_false
theorem zk8:type_of% @List.mem_of_find?_eq_some:=@List.mem_of_find?_eq_some
theorem zk9:type_of% @Nat.le_trans:=@Nat.le_trans
theorem zl1:type_of% @Nat.lt_succ_of_le:=@Nat.lt_succ_of_le
theorem zl2:type_of% @IntWalk.i64_in:=@IntWalk.i64_in
end Go.Sy
