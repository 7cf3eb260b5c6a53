/- 1 -/
import Derived.OrdersHeld
import Derived.Tactics
import Derived.Below
import Derived.IntWalk
import Derived.Laws.AppendOwn
import Derived.Lib.SliceRun
import Derived.Laws.StructEq
import Derived.Laws.Tables
set_option linter.unusedSimpArgs false
set_option linter.unusedVariables false
namespace Go.Sy
open Go
theorem oM {p:Prop}(h:p:=by omega):p:=h
theorem dC {p:Prop}(h:p:=by decide):p:=h
theorem lN {p:Prop}(h:p:=by (first | with_reducible rfl | ((try dsimp only); (try simp only[List.length_append,List.length_cons,List.length_nil,List.length_singleton,List.length_take,List.length_drop])<;>omega))):p:=h
theorem mI {p:Prop}(h:p:=by repeat' (first | exact trivial | refine⟨.inl rfl,?_⟩ | refine⟨.inr rfl,?_⟩)):p:=h
theorem I {α:Sort _}{a:α}:a=a:=rfl
theorem sB {p:Prop}(h:p:=by repeat' (first | exact trivial | refine And.intro rfl ?_)):p:=h
abbrev Fr:=List (Nat×Value)
def bk:Fr→Nat→Option Value
 | [],_=>none
 | (k,v)::r,t=>if k=t then some v else bk r t
def ev (f:Fr):Operand→Option Value
 | .tmp t=>bk f t
 | .const v=>some v
 | .global g=>some (.pointer (some ⟨g,0,none⟩))
 | .func n=>some (.func (.func n) #[] #[])
structure Ok (N:Nat)(f:Fr)(a:Act):Prop where
 defers:a.defers=[]
 size:a.tmps.size=N
 at_:∀ t v,bk f t=some v→a.tmps.getD t undef=v
theorem Ok.ev {N:Nat}{f:Fr}{a:Act}(h:Ok N f a){x:Operand}{v:Value}(hx:Sy.ev f x=some v):a.eval x=v:=by
 cases x with
 | tmp t=>exact h.at_ t v hx
 | const c=>simpa [Sy.ev,Act.eval] using hx
 | global g=>simpa [Sy.ev,Act.eval] using hx
 | func n=>simpa [Sy.ev,Act.eval] using hx
theorem Ok.put {N:Nat}{f:Fr}{a:Act}(h:Ok N f a){d:Nat}(hlt:d<N)(v:Value):Ok N ((d,v)::f) (a.put (some d) v):=by
 refine⟨h.defers,by simp[Act.put,h.size],fun t u hu=>?_⟩;simp only[bk] at hu;by_cases ht:d=t
 ·subst ht;rw[if_pos rfl] at hu;injection hu with hu
  subst hu;simp[Act.put,h.size,hlt]
 ·rw[if_neg ht] at hu;have:=h.at_ t u hu;simpa [Act.put,Array.getElem?_setIfInBounds_ne ht] using this
def Sub:Fr→Fr→Prop
 | [],_=>True
 | (t,v)::r,f=>bk f t=some v∧Sub r f
theorem Sub.get {g f:Fr}(h:Sub g f):∀ t v,bk g t=some v→bk f t=some v:=by
 induction g with
 | nil=>intro t v hv; simp[bk] at hv
 | cons p r ih =>
  obtain ⟨k,u⟩:=p;intro t v hv;simp only[bk] at hv;by_cases hk:k=t
  ·subst hk;rw[if_pos rfl] at hv;injection hv with hv
   subst hv;exact h.1
  ·rw[if_neg hk] at hv;exact ih h.2 t v hv
theorem Ok.sub {N:Nat}{f g:Fr}{a:Act}(h:Ok N f a)(hs:Sub g f):Ok N g a :=
 ⟨h.defers,h.size,fun t v hv=>h.at_ t v (hs.get t v hv)⟩
abbrev PH:=Nat→Option Obj
def Le (g g':PH):Prop:=∀ b o,g b=some o→g' b=some o
theorem Le.refl (g:PH):Le g g:=fun _ _ h=>h
theorem Le.trans {g g' g'':PH}(h:Le g g')(k:Le g' g''):Le g g'':=fun b o e=>k b o (h b o e)
structure Ent where
 blk:Option Nat
 holds:Option Obj→Prop
abbrev Own:=List Ent
def pt (b:Nat)(o:Obj):Ent:=⟨some b,fun x=>x=some o⟩
def qm (e e':Ent):Prop:=∀ b,e.blk=some b→e'.blk≠some b
structure At (E:World)(g:PH)(s:Own)(w:World):Prop where
 os:w.os=E.os
 tape:w.tape=E.tape∧E.drawn≤w.drawn
 output:w.output=E.output
 known:∀ b o,g b=some o→w.heap[b]?=some o
 own:∀ e∈s,e.holds (e.blk.bind fun b=>w.heap[b]?)
 fresh:∀ e∈s,∀ b,e.blk=some b→g b=none∧b<w.heap.size
 apart:s.Pairwise qm
theorem At.drew {E:World}{g:PH}{s:Own}{w:World}(h:At E g s w)(n:Nat)(hn:w.drawn≤n):At E g s { w with drawn:=n } :=
 ⟨h.os,⟨h.tape.1,Nat.le_trans h.tape.2 hn⟩,h.output,h.known,h.own,h.fresh,h.apart⟩
theorem At.lt {E:World}{g:PH}{s:Own}{w:World}(h:At E g s w){b:Nat}{o:Obj}(hb:g b=some o):b<w.heap.size:=by
 have:=h.known b o hb;exact (Array.getElem?_eq_some_iff.1 this).1
theorem At.sublist {E:World}{g:PH}{s s':Own}{w:World}(h:At E g s w)(hs:s'.Sublist s):At E g s' w :=
 ⟨h.os,h.tape,h.output,h.known,fun e he=>h.own e (hs.subset he),fun e he=>h.fresh e (hs.subset he),h.apart.sublist hs⟩
theorem qm.symm {e e':Ent}(h:qm e e'):qm e' e:=fun b hb he=>h b he hb
theorem At.perm {E:World}{g:PH}{s s':Own}{w:World}(h:At E g s w)(hs:s.Perm s'):At E g s' w :=
 ⟨h.os,h.tape,h.output,h.known,fun e he=>h.own e (hs.mem_iff.2 he),fun e he=>h.fresh e (hs.mem_iff.2 he),(hs.pairwise_iff (fun h=>h.symm)).1 h.apart⟩
theorem At.less {E:World}{g g':PH}{s:Own}{w:World}(h:At E g' s w)(hl:Le g g'):At E g s w:=by
 refine⟨h.os,h.tape,h.output,fun b o hb=>h.known b o (hl b o hb),h.own,fun e he b hb=>⟨?_,(h.fresh e he b hb).2⟩,h.apart⟩;cases hg:g b with
 | none=>rfl
 | some o=>have:=hl b o hg; rw[(h.fresh e he b hb).1] at this; cases this
def upd (g:PH)(b:Nat)(o:Obj):PH:=fun k=>if k=b then some o else g k
theorem Fh {g:PH}{b:Nat}{o:Obj}(h:g b=none):Le g (upd g b o):=fun k x hk=>by
 unfold upd;split
 ·rename_i e; subst e; rw[h] at hk; cases hk
 ·exact hk
theorem fw (g:PH)(b:Nat)(o:Obj):upd g b o b=some o:=by simp[upd]
theorem At.freeze {E:World}{g:PH}{e:Ent}{s:Own}{w:World}(h:At E g (e::s) w){b:Nat}{o:Obj}(hb:e.blk=some b)(ho:w.heap[b]?=some o) :
  At E (upd g b o) s w∧Le g (upd g b o):=by
 have hf:=h.fresh e (by simp) b hb;refine⟨⟨h.os,h.tape,h.output,fun k x hk=>?_,fun e' he=>h.own e' (by simp[he]),fun e' he k hk=>⟨?_,(h.fresh e' (by simp[he]) k hk).2⟩,(List.pairwise_cons.1 h.apart).2⟩,Fh hf.1⟩
 ·unfold upd at hk;split at hk
  ·rename_i e1; subst e1; injection hk with hk; subst hk; exact ho
  ·exact h.known k x hk
 ·have hne:k≠b:=fun e1=>by
   subst e1;exact (List.pairwise_cons.1 h.apart).1 e' he k hb hk
  simp only[upd,hne,if_false];exact (h.fresh e' (by simp[he]) k hk).1
section
variable (P:Program)(N:Nat)(E:World)
def SC (c:Code)(Q:Exit→Act→World→Prop)(f:Fr)(g:PH)(s:Own):Prop:=∀ a w,Ok N f a→At E g s w→c.wp P Q a w
def ST (Q:Exit→Act→World→Prop)(e:Exit)(f:Fr)(g:PH)(s:Own):Prop:=∀ a w,Ok N f a→At E g s w→Q e a w
def SL (ops:Array Oper)(Q:Exit→Act→World→Prop)(l:List Oper)(f:Fr)(g:PH)(s:Own):Prop:=∀ a w,Ok N f a→At E g s w→wpList P ops Q l a w
def SU (o:Oper)(f:Fr)(v:Value):Prop:=∀ a w,Ok N f a→(execOp a.eval o).run P w = .ok (.value v) w
def SQ (o:Oper)(f:Fr)(g:PH)(s:Own)(v:Value):Prop:=∀ a w,Ok N f a→At E g s w→(execOp a.eval o).run P w = .ok (.value v) w
def SO (o:Oper)(f:Fr)(g:PH)(s:Own)(K:Value→PH→Own→Prop):Prop :=
 ∀ a w,Ok N f a→At E g s w→∀ (Q:Exit→Act→World→Prop) (next:Act→World→Prop),
  (∀ v g' s' w',K v g' s'→At E g' s' w'→next (a.put o.dst v) w')→o.wp P a w next Q
def Ctr (n:FuncId)(args:Array Value)(g:PH)(s:Own)(R:Value→PH→Own→Prop):Prop :=
 ∀ w,At E g s w→Calls P n args w fun e w'=>∃ v g' s',e = .returned v∧At E g' s' w'∧R v g' s'
end
def qA (E:World)(R:Value→PH→Own→Prop):Ending→World→Prop:=fun e w'=>∃ v g' s',e = .returned v∧At E g' s' w'∧R v g' s'
theorem SU.sq {P:Program}{N:Nat}{E:World}{o:Oper}{f:Fr}{g:PH}{s:Own}{v:Value}(h:SU P N o f v):SQ P N E o f g s v:=fun a w ha _=>h a w ha
theorem Ctr.mono {P:Program}{E:World}{n:FuncId}{args:Array Value}{g:PH}{s:Own}{R R':Value→PH→Own→Prop}(h:Ctr P E n args g s R)
  (hr:∀ v g' s',R v g' s'→R' v g' s'):Ctr P E n args g s R' :=
 fun w hw=>(h w hw).mono fun _ _ ⟨v,g',s',he,ha,hR⟩=>⟨v,g',s',he,ha,hr _ _ _ hR⟩
section
variable {P:Program}{N:Nat}{E:World}{Q:Exit→Act→World→Prop}{f f':Fr}{g g':PH}{s s':Own}
theorem SC.sub {c:Code}(hs:Sub f' f)(h:SC P N E c Q f' g s):SC P N E c Q f g s:=fun a w ha hw=>h a w (ha.sub hs) hw
theorem SC.drop {c:Code}(hs:s'.Sublist s)(h:SC P N E c Q f g s'):SC P N E c Q f g s:=fun a w ha hw=>h a w ha (hw.sublist hs)
theorem SC.perm {c:Code}(hs:s.Perm s')(h:SC P N E c Q f g s'):SC P N E c Q f g s:=fun a w ha hw=>h a w ha (hw.perm hs)
theorem ST.drop {e:Exit}(hs:s'.Sublist s)(h:ST N E Q e f g s'):ST N E Q e f g s:=fun a w ha hw=>h a w ha (hw.sublist hs)
theorem ST.perm {e:Exit}(hs:s.Perm s')(h:ST N E Q e f g s'):ST N E Q e f g s:=fun a w ha hw=>h a w ha (hw.perm hs)
theorem SC.skip (h:ST N E Q .normal f g s):SC P N E .skip Q f g s:=fun a w ha hw=>wp_skip (h a w ha hw)
theorem SC.ret (h:ST N E Q .ret f g s):SC P N E .ret Q f g s:=fun a w ha hw=>wp_ret (h a w ha hw)
theorem SC.exit {id:Nat}(h:ST N E Q (.exit id) f g s):SC P N E (.exit id) Q f g s:=fun a w ha hw=>wp_exit (h a w ha hw)
theorem SC.label {l:Nat}(h:ST N E Q .normal f g s):SC P N E (.label l) Q f g s:=fun a w ha hw=>wp_label (h a w ha hw)
theorem SC.seq {x y:Code}(h:SC P N E x (Exit.then (y.wp P Q) Q) f g s):SC P N E (.seq x y) Q f g s:=fun a w ha hw=>wp_seq (h a w ha hw)
theorem SC.block {id:Nat}{c:Code}(h:SC P N E c (Exit.inBlock id Q) f g s):SC P N E (.block id c) Q f g s:=fun a w ha hw=>wp_block (h a w ha hw)
theorem SC.cond {c:Operand}{x y:Code}{t:Bool}(hc:ev f c=some (.bool t))(h:SC P N E (if t then x else y) Q f g s):SC P N E (.cond c x y) Q f g s :=
 fun a w ha hw=>wp_cond (ha.ev hc) (h a w ha hw)
theorem SC.condT {c:Operand}{x y:Code}(hc:ev f c=some (.bool true))(h:SC P N E x Q f g s):SC P N E (.cond c x y) Q f g s:=SC.cond hc h
theorem SC.condF {c:Operand}{x y:Code}(hc:ev f c=some (.bool false))(h:SC P N E y Q f g s):SC P N E (.cond c x y) Q f g s:=SC.cond hc h
theorem SC.ifB {c:Operand}{x y:Code}{t:Bool}(hc:ev f c=some (.bool t))(h1:t=true→SC P N E x Q f g s)(h2:t=false→SC P N E y Q f g s) :
  SC P N E (.cond c x y) Q f g s:=by
 cases t
 ·exact SC.condF hc (h2 I)
 ·exact SC.condT hc (h1 I)
theorem SC.ifP {c:Operand}{x y:Code}{p:Prop}[Decidable p](hc:ev f c=some (.bool (decide p)))(h1:p→SC P N E x Q f g s)(h2:¬ p→SC P N E y Q f g s) :
  SC P N E (.cond c x y) Q f g s :=
 SC.ifB hc (fun h=>h1 (of_decide_eq_true h)) (fun h=>h2 (of_decide_eq_false h))
theorem ST.thenN {c:Code}(h:SC P N E c Q f g s):ST N E (Exit.then (c.wp P Q) Q) .normal f g s:=h
theorem ST.thenX {K:Act→World→Prop}{id:Nat}(h:ST N E Q (.exit id) f g s):ST N E (Exit.then K Q) (.exit id) f g s:=h
theorem ST.thenR {K:Act→World→Prop}(h:ST N E Q .ret f g s):ST N E (Exit.then K Q) .ret f g s:=h
theorem ST.blockN {id:Nat}(h:ST N E Q .normal f g s):ST N E (Exit.inBlock id Q) .normal f g s:=h
theorem ST.blockR {id:Nat}(h:ST N E Q .ret f g s):ST N E (Exit.inBlock id Q) .ret f g s:=h
theorem ST.blockX {id:Nat}(h:ST N E Q .normal f g s):ST N E (Exit.inBlock id Q) (.exit id) f g s:=fun a w ha hw=>by
 simpa [Exit.inBlock] using h a w ha hw
theorem ST.blockO {id j:Nat}(hj:j≠id)(h:ST N E Q (.exit j) f g s):ST N E (Exit.inBlock id Q) (.exit j) f g s:=fun a w ha hw=>by
 simpa [Exit.inBlock,hj] using h a w ha hw
def Mid {ι:Type}(N:Nat)(E:World)(F:ι→Fr)(G:ι→PH)(S:ι→Own)(J:ι→Prop)(a:Act)(w:World):Prop:=∃ i,Ok N (F i) a∧At E (G i) (S i) w∧J i
theorem SC.cut {ι:Type}{x y:Code}(F:ι→Fr)(G:ι→PH)(S:ι→Own)(J:ι→Prop)(h1:SC P N E x (Exit.then (Mid N E F G S J) Q) f g s)
  (h2:∀ i,J i→SC P N E y Q (F i) (G i) (S i)):SC P N E (.seq x y) Q f g s:=by
 refine SC.seq fun a w ha hw=>Code.wp_mono (fun e a' w' h=>?_) (h1 a w ha hw);cases e <;> first | exact h | (obtain ⟨i,h3,h4,h5⟩:=h; exact h2 i h5 a' w' h3 h4)
theorem ST.mid {ι:Type}{F:ι→Fr}{G:ι→PH}{S:ι→Own}{J:ι→Prop}(i:ι)(hf:Sub (F i) f)(hg:G i=g)(hs:S i=s)(hJ:J i) :
  ST N E (Exit.then (Mid N E F G S J) Q) .normal f g s:=fun _ _ ha hw=>⟨i,ha.sub hf,by rw[hg,hs]; exact hw,hJ⟩
def GY {ι:Type}(N:Nat)(E:World)(F:ι→Fr)(G:ι→PH)(S:ι→Own)(J:ι→Prop)(μ:ι→Nat)(i:ι)(a:Act)(w:World):Prop :=
 ∃ j,Ok N (F j) a∧At E (G j) (S j) w∧J j∧μ j<μ i
theorem ST.again {ι:Type}{F:ι→Fr}{G:ι→PH}{S:ι→Own}{J:ι→Prop}{μ:ι→Nat}{i:ι}(j:ι)(hf:Sub (F j) f)(hg:G j=g)(hs:S j=s)(hJ:J j)(hμ:μ j<μ i) :
  ST N E (Exit.then (GY N E F G S J μ i) Q) .normal f g s:=fun _ _ ha hw=>⟨j,ha.sub hf,by rw[hg,hs]; exact hw,hJ,hμ⟩
theorem SC.loop {ι:Type}{c:Code}(F:ι→Fr)(G:ι→PH)(S:ι→Own)(J:ι→Prop)(μ:ι→Nat)(i:ι)(hf:Sub (F i) f)(hg:G i=g)(hs:S i=s)(h0:J i)
  (round:∀ i,J i→SC P N E c (Exit.then (GY N E F G S J μ i) Q) (F i) (G i) (S i)):SC P N E (.loop c) Q f g s:=by
 intro a w ha hw;have key:∀ n,∀ (i:ι) (a:Act) (w:World),μ i=n→Ok N (F i) a→At E (G i) (S i) w→J i→∀ (b:Frame) (k:List Item) (cs:List Frame),
   ∃ e a' w',Q e a' w'∧Arrives P (lone (b.at a (.code c :: .inLoop c::k)) cs w) b k cs e a' w':=by
  intro n;induction n using Nat.strongRecOn with
  | _ n ih =>
   intro i a w hn ha hI hJ b k cs;obtain ⟨e,a₁,w₁,hq,harr⟩:=round i hJ a w ha hI b (.inLoop c::k) cs;cases e with
   | normal =>
    obtain ⟨j,hok,hI₁,hJ₁,hlt⟩:=hq;obtain ⟨e₂,a₂,w₂,hq₂,harr₂⟩:=ih (μ j) (hn ▸ hlt) j a₁ w₁ rfl hok hI₁ hJ₁ b k cs;exact⟨e₂,a₂,w₂,hq₂,.of_steps (Steps.trans harr (.one step_inLoop)) harr₂⟩
   | exit id=>exact⟨_,a₁,w₁,hq,.pass (x:=.inLoop c) rfl (fun _ _=>.inl (by simp)) harr⟩
   | goto l=>exact⟨_,a₁,w₁,hq,.pass (x:=.inLoop c) rfl (fun _ _=>.inl (by simp)) harr⟩
   | ret=>exact⟨_,a₁,w₁,hq,.pass (x:=.inLoop c) rfl (fun _ _=>.inl (by simp)) harr⟩
   | panic ch=>exact⟨_,a₁,w₁,hq,.pass (x:=.inLoop c) rfl (fun _ _=>.inl (by simp)) harr⟩
   | outgrown=>exact⟨_,a₁,w₁,hq,.pass (x:=.inLoop c) rfl (fun _ _=>.inl (by simp)) harr⟩
 intro b k cs;obtain ⟨e,a',w',hq,harr⟩:=key _ i a w rfl (ha.sub hf) (by rw[hg,hs]; exact hw) h0 b k cs;exact⟨e,a',w',hq,.of_steps (.one step_loop) harr⟩
end
def l6:Nat→List Value→Fr
 | _,[]=>[]
 | k,v::r=>(k,v)::l6 (k+1) r
theorem jS:∀ (l:List Value) (k t:Nat) (v:Value),bk (l6 k l) t=some v→k≤t∧l[t - k]?=some v
 | [],_,_,_,h=>by simp[l6,bk] at h
 | u::r,k,t,v,h=>by
  simp only[l6,bk] at h;by_cases hk:k=t
  ·subst hk;rw[if_pos rfl] at h;exact⟨Nat.le_refl _,by simpa using h⟩
  ·rw[if_neg hk] at h;obtain ⟨h1,h2⟩:=jS r (k+1) t v h;refine⟨by omega,?_⟩;have:t - k=(t - (k+1))+1:=by omega
   rw[this];simpa using h2
theorem Ctr.of {P:Program}{n:FuncId}{fn:Func}{c:Code}{N:Nat}{args:List Value}{E:World}{g:PH}{s:Own}{R:Value→PH→Own→Prop}
  (hf:P.funcs[n]?=some fn) (hb:fn.body=some c) (hN:fn.ntmps=N) (hle:args.length≤N)
  (h:SC P N E c (bodyPost P fn (qA E R)) (l6 0 args) g s):Ctr P E n args.toArray g s R:=by
 intro w hw;refine calls_of_wp hf hb (h _ w ⟨I,?_,fun t v hv=>?_⟩ hw)
 ·simp[hN]; omega
 ·obtain ⟨_,h2⟩:=jS args 0 t v hv;have hlt:t<args.length:=(List.getElem?_eq_some_iff.1 (by simpa using h2)).1;simp only[Nat.sub_zero] at h2;obtain ⟨_,h3⟩:=List.getElem?_eq_some_iff.1 h2;simp[Array.getElem?_append,hlt,h3]
section
variable {P:Program}{N:Nat}{E:World}{fn:Func}{R:Value→PH→Own→Prop}{e:Exit}{f:Fr}{g:PH}{s:Own}
theorem ST.returnsV {v:Value}(he:e = .ret∨e = .normal)
  (hr:∀ (tmps:Array Value) (w:World),(∀ t v,bk f t=some v→tmps.getD t undef=v)→At E g s w→(results fn tmps).run P w = .ok v w) (hR:R v g s) :
  ST N E (bodyPost P fn (qA E R)) e f g s:=by
 intro a w ha hw;have h1:=hr a.tmps w ha.at_ hw
 rcases he with rfl | rfl
 ·exact⟨ha.defers,v,h1,v,g,s,I,hw,hR⟩
 ·exact⟨ha.defers,v,h1,v,g,s,I,hw,hR⟩
theorem ST.ret1 {t:Nat}{v:Value}(he:e = .ret∨e = .normal)(hr:fn.results = #[.tmp t])(hv:bk f t=some v)(hR:R v g s):ST N E (bodyPost P fn (qA E R)) e f g s :=
 ST.returnsV he (fun tmps w ha _=>by rw[results_tmp hr,ha t v hv]) hR
theorem ST.ret0 (he:e = .ret∨e = .normal)(hr:fn.results = #[])(hR:R (.tuple #[]) g s):ST N E (bodyPost P fn (qA E R)) e f g s :=
 ST.returnsV he (fun _ _ _ _=>results_none hr _ _ _) hR
theorem ST.ret2 {t u:Nat}{v x:Value}(he:e = .ret∨e = .normal)(hr:fn.results = #[.tmp t,.tmp u])(hv:bk f t=some v)(hx:bk f u=some x)(hR:R (.tuple #[v,x]) g s) :
  ST N E (bodyPost P fn (qA E R)) e f g s :=
 ST.returnsV he (fun tmps w ha _=>by rw[results_tmp2 hr,ha t v hv,ha u x hx]) hR
end
theorem cP:type_of% @SC.perm:=@SC.perm
theorem dR:type_of% @ST.drop:=@ST.drop
theorem kP:type_of% @SC.skip:=@SC.skip
theorem rE:type_of% @SC.ret:=@SC.ret
theorem xI:type_of% @SC.exit:=@SC.exit
theorem sQ:type_of% @SC.seq:=@SC.seq
theorem bK:type_of% @SC.block:=@SC.block
theorem cT:type_of% @SC.condT:=@SC.condT
theorem cF:type_of% @SC.condF:=@SC.condF
theorem iQ:type_of% @SC.ifB:=@SC.ifB
theorem iP:type_of% @SC.ifP:=@SC.ifP
theorem tN:type_of% @ST.thenN:=@ST.thenN
theorem tX:type_of% @ST.thenX:=@ST.thenX
theorem tR:type_of% @ST.thenR:=@ST.thenR
theorem bN:type_of% @ST.blockN:=@ST.blockN
theorem bR:type_of% @ST.blockR:=@ST.blockR
theorem bX:type_of% @ST.blockX:=@ST.blockX
theorem gA:type_of% @ST.again:=@ST.again
theorem oP:type_of% @SC.loop:=@SC.loop
end Go.Sy
namespace Go.Sy
open Go
def Gd (N:Nat)(ops:Array Oper)(f:Fr)(o:Oper)(t:Bool):Prop:=∀ a,Ok N f a→Region.wanted o (yielded ops a.tmps)=t
section
variable {N:Nat}{ops:Array Oper}{f:Fr}{o:Oper}
theorem Gd.none (h:o.guard=none):Gd N ops f o true:=fun _ _=>by simp[Region.wanted,h]
theorem Gd.on {j t:Nat}{b c:Bool}(h:o.guard=some (j,b))(hj:((ops[j]?).bind fun o:Oper=>o.dst)=some t)(hv:bk f t=some (.bool c))(ht:t<N):Gd N ops f o (c == b):=by
 intro a ha;have hsz:t<a.tmps.size:=by rw[ha.size]; exact ht
 have hav:=ha.at_ t _ hv;have hav':a.tmps[t]?=some (.bool c):=by
  rw[Array.getElem?_eq_getElem hsz];simpa [hsz] using hav
 simp only[Region.wanted,h];unfold yielded;simp only[hj,Option.bind_some,hav'];cases c <;> cases b <;> rfl
theorem Gd.onT {j t:Nat}{b:Bool}(h:o.guard=some (j,b))(hj:((ops[j]?).bind fun o:Oper=>o.dst)=some t)(hv:bk f t=some (.bool b))(ht:t<N):Gd N ops f o true:=by
 have:=Gd.on (N:=N) h hj hv ht;simpa using this
theorem Gd.onF {j t:Nat}{b:Bool}(h:o.guard=some (j,b))(hj:((ops[j]?).bind fun o:Oper=>o.dst)=some t)(hv:bk f t=some (.bool (!b)))(ht:t<N):Gd N ops f o false:=by
 have:=Gd.on (N:=N) h hj hv ht;cases b <;> simpa using this
theorem Gd.off {j t:Nat}{b:Bool}(h:o.guard=some (j,b))(hj:((ops[j]?).bind fun o:Oper=>o.dst)=some t)(hv:bk f t=some undef)(ht:t<N):Gd N ops f o false:=by
 intro a ha;have hsz:t<a.tmps.size:=by rw[ha.size]; exact ht
 have hav:=ha.at_ t _ hv;have hav':a.tmps[t]?=some undef:=by
  rw[Array.getElem?_eq_getElem hsz];simpa [hsz] using hav
 simp only[Region.wanted,h];unfold yielded;simp only[hj,Option.bind_some,hav'];cases b <;> rfl
end
section
variable {P:Program}{N:Nat}{E:World}{ops:Array Oper}{Q:Exit→Act→World→Prop}{f f':Fr}{g:PH}{s s':Own}{rest:List Oper}
theorem SL.drop {l:List Oper}(hs:s'.Sublist s)(h:SL P N E ops Q l f g s'):SL P N E ops Q l f g s:=fun a w ha hw=>h a w ha (hw.sublist hs)
theorem SC.region {id:Nat}{l:List Oper}(h:SL P N E l.toArray Q l f g s):SC P N E (.region id l.toArray false) Q f g s:=fun a w ha hw=>wp_region_lit (h a w ha hw)
theorem SL.nil (h:ST N E Q .normal f g s):SL P N E ops Q [] f g s:=fun a w ha hw=>wpList_nil (h a w ha hw)
theorem SL.gq {d:Nat}{op:Op}{ty:TypeId}{pos:String}{af:Array Edge}{gd:Option (Nat×Bool)}{v:Value}(hw:Gd N ops f ⟨some d,op,ty,pos,af,gd⟩ true)
  (hq:SQ P N E ⟨some d,op,ty,pos,af,gd⟩ f g s v) (hd:d<N) (h:SL P N E ops Q rest ((d,v)::f) g s):SL P N E ops Q (⟨some d,op,ty,pos,af,gd⟩::rest) f g s:=by
 intro a w ha hm;unfold wpList;rw[if_pos (hw a ha)];refine .inl ?_;unfold Oper.wp;rw[hq a w ha hm];exact h _ w (ha.put hd v) hm
theorem SL.q {d:Nat}{op:Op}{ty:TypeId}{pos:String}{af:Array Edge}{v:Value}
  (hq:SQ P N E ⟨some d,op,ty,pos,af,none⟩ f g s v) (hd:d<N) (h:SL P N E ops Q rest ((d,v)::f) g s):SL P N E ops Q (⟨some d,op,ty,pos,af,none⟩::rest) f g s :=
 SL.gq (Gd.none rfl) hq hd h
theorem SL.gu {d:Nat}{op:Op}{ty:TypeId}{pos:String}{af:Array Edge}{gd:Option (Nat×Bool)}{v:Value}(hw:Gd N ops f ⟨some d,op,ty,pos,af,gd⟩ true)
  (hq:SU P N ⟨some d,op,ty,pos,af,gd⟩ f v) (hd:d<N) (h:SL P N E ops Q rest ((d,v)::f) g s):SL P N E ops Q (⟨some d,op,ty,pos,af,gd⟩::rest) f g s:=SL.gq hw hq.sq hd h
theorem SL.u {d:Nat}{op:Op}{ty:TypeId}{pos:String}{af:Array Edge}{v:Value}
  (hq:SU P N ⟨some d,op,ty,pos,af,none⟩ f v) (hd:d<N) (h:SL P N E ops Q rest ((d,v)::f) g s):SL P N E ops Q (⟨some d,op,ty,pos,af,none⟩::rest) f g s:=SL.q hq.sq hd h
theorem SL.go {d:Nat}{op:Op}{ty:TypeId}{pos:String}{af:Array Edge}{gd:Option (Nat×Bool)}{K:Value→PH→Own→Prop}(hw:Gd N ops f ⟨some d,op,ty,pos,af,gd⟩ true)
  (ho:SO P N E ⟨some d,op,ty,pos,af,gd⟩ f g s K) (hd:d<N) (h:∀ v g' s',K v g' s'→SL P N E ops Q rest ((d,v)::f) g' s'):SL P N E ops Q (⟨some d,op,ty,pos,af,gd⟩::rest) f g s:=by
 intro a w ha hm;unfold wpList;rw[if_pos (hw a ha)];exact .inl (ho a w ha hm Q _ fun v g' s' w' hK hm'=>h v g' s' hK _ w' (ha.put hd v) hm')
theorem SL.o {d:Nat}{op:Op}{ty:TypeId}{pos:String}{af:Array Edge}{K:Value→PH→Own→Prop}
  (ho:SO P N E ⟨some d,op,ty,pos,af,none⟩ f g s K) (hd:d<N) (h:∀ v g' s',K v g' s'→SL P N E ops Q rest ((d,v)::f) g' s'):SL P N E ops Q (⟨some d,op,ty,pos,af,none⟩::rest) f g s :=
 SL.go (Gd.none rfl) ho hd h
theorem SL.gon {op:Op}{ty:TypeId}{pos:String}{af:Array Edge}{gd:Option (Nat×Bool)}{K:Value→PH→Own→Prop}(hw:Gd N ops f ⟨none,op,ty,pos,af,gd⟩ true)
  (ho:SO P N E ⟨none,op,ty,pos,af,gd⟩ f g s K) (h:∀ v g' s',K v g' s'→SL P N E ops Q rest f g' s'):SL P N E ops Q (⟨none,op,ty,pos,af,gd⟩::rest) f g s:=by
 intro a w ha hm;unfold wpList;rw[if_pos (hw a ha)];exact .inl (ho a w ha hm Q _ fun v g' s' w' hK hm'=>h v g' s' hK _ w' ha hm')
theorem SL.on {op:Op}{ty:TypeId}{pos:String}{af:Array Edge}{K:Value→PH→Own→Prop}
  (ho:SO P N E ⟨none,op,ty,pos,af,none⟩ f g s K) (h:∀ v g' s',K v g' s'→SL P N E ops Q rest f g' s'):SL P N E ops Q (⟨none,op,ty,pos,af,none⟩::rest) f g s :=
 SL.gon (Gd.none rfl) ho h
theorem SL.off {d:Nat}{op:Op}{ty:TypeId}{pos:String}{af:Array Edge}{gd:Option (Nat×Bool)}(hw:Gd N ops f ⟨some d,op,ty,pos,af,gd⟩ false)
  (hd:d<N) (h:SL P N E ops Q rest ((d,undef)::f) g s):SL P N E ops Q (⟨some d,op,ty,pos,af,gd⟩::rest) f g s:=by
 intro a w ha hm;unfold wpList;rw[if_neg (by rw[hw a ha]; simp)];exact h _ w (ha.put hd undef) hm
theorem SQ.so {o:Oper}{v:Value}(h:SQ P N E o f g s v):SO P N E o f g s fun v' g' s'=>v'=v∧g'=g∧s'=s:=by
 intro a w ha hm Q next hn;unfold Oper.wp;rw[h a w ha hm];exact hn v g s w ⟨I,I,I⟩ hm
end
class Quiet (Q:Exit→Act→World→Prop):Prop where
 out:∀ c a a' w,a.defers=a'.defers→Q (.panic c) a w→Q (.panic c) a' w
instance quiet_then {K:Act→World→Prop}{Q:Exit→Act→World→Prop}[h:Quiet Q]:Quiet (Exit.then K Q):=⟨fun c a a' w hd hq=>h.out c a a' w hd hq⟩
instance quiet_block {id:Nat}{Q:Exit→Act→World→Prop}[h:Quiet Q]:Quiet (Exit.inBlock id Q):=⟨fun c a a' w hd hq=>h.out c a a' w hd hq⟩
instance quiet_body {P:Program}{fn:Func}{R:Ending→World→Prop}:Quiet (bodyPost P fn R):=⟨fun _ _ _ _ hd hq=>⟨hd ▸ hq.1,hq.2⟩⟩
def fK (tail:List Nat)(L:Array Bool):Bool:=tail.any fun j=>L.getD j false
def kB (P:Program)(ops:Array Oper)(Q:Exit→Act→World→Prop)(S:World→Prop)(tail:List Nat):Nat→Array Bool→Act→World→Prop
 | 0,L,a,w=>Region.ready .any ops L=[]∧Q .normal a w
 | n+1,L,a,w=>(Region.ready .any ops L=[]→Q .normal a w) ∧
  ∀ i∈Region.ready .any ops L,wpOp P ops Q i (fun a' w'=>(fK tail (L.setIfInBounds i true)=false→S w')∧kB P ops Q S tail n (L.setIfInBounds i true) a' w') a w
section
variable {P:Program}{ops:Array Oper}{Q:Exit→Act→World→Prop}{S:World→Prop}{tail:List Nat}
theorem jX:∀ (n:Nat) (L:Array Bool) (a:Act) (w:World),kB P ops Q S tail n L a w→wpAny P .any ops Q n L a w
 | 0,_,_,_,h=>h
 | n+1,_,_,_,h=>⟨h.1,fun i hi=>wpOp_mono (fun a' w' h'=>jX n _ a' w' h'.2) (h.2 i hi)⟩
theorem ey {L:Array Bool}{i:Nat}(hi:i ∉ tail):fK tail (L.setIfInBounds i true)=fK tail L:=by
 unfold fK;induction tail with
 | nil=>rfl
 | cons j t ih =>
  simp only[List.mem_cons,not_or] at hi;simp only[List.any_cons,getD_set_ne false hi.1,ih hi.2]
def mf (ops:Array Oper)(L:Array Bool):Prop:=∀ (q:Nat) (oq:Oper),ops[q]?=some oq→L.getD q false=true→∀ e∈oq.after,Region.binds .any e=true→L.getD e.on false=true
theorem dJ {L:Array Bool}{i:Nat}(h:mf ops L)(hi:i∈Region.ready .any ops L):mf ops (L.setIfInBounds i true):=by
 intro q oq hq hl e he hb;by_cases hqi:i=q
 ·subst hqi;obtain ⟨_,o,ho,hall⟩:=mem_ready.1 hi;rw[ho] at hq;injection hq with hq
  subst hq;exact getD_set_true (hall e he hb)
 ·rw[getD_set_ne false hqi] at hl;exact getD_set_true (h q oq hq hl e he hb)
theorem kW (n:Nat):mf ops (Array.replicate n false):=by
 intro q oq _ hl;exfalso
 rcases Nat.lt_or_ge q n with h | h
 ·simp[h] at hl
 ·simp[Nat.not_lt.2 h] at hl
def uM (ops:Array Oper):Nat→Nat→Nat→Bool
 | 0,_,_=>false
 | n+1,j,i=>match ops[j]? with
  | some oj=>oj.after.any fun e=>Region.binds .any e&&(e.on == i||uM ops n e.on i)
  | none=>false
theorem qJ {L:Array Bool}{i:Nat}(hc:mf ops L)(hi:L.getD i false=false):∀ (n j:Nat),uM ops n j i=true→j ∉ Region.ready .any ops L∧L.getD j false=false
 | 0,j,h=>by simp[uM] at h
 | n+1,j,h=>by
  unfold uM at h;split at h
  ·rename_i oj hoj;obtain ⟨e,he,hb⟩:=Array.any_eq_true'.1 h;simp only[Bool.and_eq_true,Bool.or_eq_true,beq_iff_eq] at hb;have hpre:L.getD e.on false=false:=by
    rcases hb.2 with h1 | h1
    ·rw[h1]; exact hi
    ·exact (qJ hc hi n e.on h1).2
   refine⟨fun hr=>?_,?_⟩
   ·obtain ⟨_,o,ho,hall⟩:=mem_ready.1 hr;rw[ho] at hoj;injection hoj with hoj
    subst hoj;have:=hall e he hb.1;rw[hpre] at this;cases this
   ·cases hl:L.getD j false with
    | false=>rfl
    | true =>
     have:=hc j oj hoj hl e he hb.1;rw[hpre] at this;cases this
  ·cases h
theorem m9 {i:Nat}{oi:Oper}{v:Value}(hi:ops[i]?=some oi)(hsel:∀ (j:Nat) (o:Oper) cs b,ops[j]?=some o→o.op ≠ .select cs b)
  (hQ:∀ c a w,Q (.panic c) (a.put oi.dst v) w→Q (.panic c) a w) (hit:i ∉ tail)
  (htail:∀ j∈tail,∃ n,uM ops n j i=true) :
  ∀ (n:Nat) (L:Array Bool) (a:Act) (w:World),mf ops L →
   (∀ j oj,ops[j]?=some oj→j≠i→L.getD j true=false→(∀ e∈oj.after,Region.binds .any e=true→e.on≠i)→oi.apart ops oj=true) →
   i∈Region.ready .any ops L→YieldsIf P ops S oi v a→fK tail L=false→S w →
   kB P ops Q S tail n (L.setIfInBounds i true) (a.put oi.dst v) w→kB P ops Q S tail (n+1) L a w:=by
 intro n;induction n with
 | zero =>
  intro L a w _ _ hr hy hb hS H;refine⟨fun h=>(by rw[h] at hr; cases hr),fun j hj=>?_⟩;by_cases hji:j=i
  ·subst hji; exact hy.wpOp hi hS ⟨fun _=>hS,H⟩
  ·have:=ready_mono hj hji;rw[H.1] at this;cases this
 | succ n ih =>
  intro L a w hcl hfree hr hy hb hS H;refine⟨fun h=>(by rw[h] at hr; cases hr),fun j hj=>?_⟩;by_cases hji:j=i
  ·subst hji; exact hy.wpOp hi hS ⟨fun _=>hS,H⟩
  ·have h1:=H.2 j (ready_mono hj hji);obtain ⟨hjun,oj,hoj,hall⟩:=mem_ready.1 hj;have hnot:∀ e∈oj.after,Region.binds .any e=true→e.on≠i:=fun e he hb heq=>by
    have h1:=hall e he hb;have h0:=(mem_ready.1 hr).1;rw[heq] at h1
    rcases Nat.lt_or_ge i L.size with h' | h'
    ·simp[h'] at h0 h1; rw[h0] at h1; cases h1
    ·simp[Array.getElem?_eq_none h'] at h1
   have hiun:L.getD i false=false:=by
    have h0:=(mem_ready.1 hr).1
    rcases Nat.lt_or_ge i L.size with h' | h'
    ·simpa [h'] using h0
    ·simp[Array.getElem?_eq_none h'] at h0
   have hjt:j ∉ tail:=fun hjt=>by
    obtain ⟨n',hw'⟩:=htail j hjt;exact (qJ hcl hiun n' j hw').1 hj
   have h2:=wpOp_putIf hoj (hfree j oj hoj hji hjun hnot) (fun cs b=>hsel i oi cs b hi) (fun cs b=>hsel j oj cs b hoj) hQ hy h1;have hfree':∀ k ok,ops[k]?=some ok→k≠i→(L.setIfInBounds j true).getD k true=false →
     (∀ e∈ok.after,Region.binds .any e=true→e.on≠i)→oi.apart ops ok=true:=fun k ok hk hki hun hno=>by
    refine hfree k ok hk hki ?_ hno;by_cases hjk:j=k
    ·subst hjk; exact hjun
    ·rw[getD_set_ne true hjk] at hun; exact hun
   have hbj:fK tail (L.setIfInBounds j true)=false:=by rw[ey hjt]; exact hb
   refine wpOp_mono (fun a' w' h3=>?_) h2;have hS':S w':=h3.2.1 (by rw[ey hjt,ey hit]; exact hb);refine⟨fun _=>hS',ih (L.setIfInBounds j true) a' w' (dJ hcl hj) hfree' (ready_mono hr (Ne.symm hji)) h3.1 hbj hS' ?_⟩;rw[Array.setIfInBounds_comm _ _ hji];exact h3.2.2
theorem kE {i:Nat}{oi:Oper}{v:Value}(hi:ops[i]?=some oi)(hsel:∀ (j:Nat) (o:Oper) cs b,ops[j]?=some o→o.op ≠ .select cs b)
  (hQ:∀ c a w,Q (.panic c) (a.put oi.dst v) w→Q (.panic c) a w) (hit:i ∉ tail) :
  ∀ (n:Nat) (L:Array Bool) (a:Act) (w:World),
   (∀ j oj,ops[j]?=some oj→j≠i→L.getD j true=false→(∀ e∈oj.after,Region.binds .any e=true→e.on≠i)→oi.apart ops oj=true) →
   i∈Region.ready .any ops L→Yields P ops oi v a→(fK tail L=false→S w) →
   kB P ops Q S tail n (L.setIfInBounds i true) (a.put oi.dst v) w→kB P ops Q S tail (n+1) L a w:=by
 intro n;induction n with
 | zero =>
  intro L a w _ hr hy hS H;refine⟨fun h=>(by rw[h] at hr; cases hr),fun j hj=>?_⟩;by_cases hji:j=i
  ·subst hji; exact hy.wpOp hi ⟨fun hb=>hS (by rwa [ey hit] at hb),H⟩
  ·have:=ready_mono hj hji;rw[H.1] at this;cases this
 | succ n ih =>
  intro L a w hfree hr hy hS H;refine⟨fun h=>(by rw[h] at hr; cases hr),fun j hj=>?_⟩;by_cases hji:j=i
  ·subst hji; exact hy.wpOp hi ⟨fun hb=>hS (by rwa [ey hit] at hb),H⟩
  ·have h1:=H.2 j (ready_mono hj hji);obtain ⟨hjun,oj,hoj,hall⟩:=mem_ready.1 hj;have hnot:∀ e∈oj.after,Region.binds .any e=true→e.on≠i:=fun e he hb heq=>by
    have h1:=hall e he hb;have h0:=(mem_ready.1 hr).1;rw[heq] at h1
    rcases Nat.lt_or_ge i L.size with h' | h'
    ·simp[h'] at h0 h1; rw[h0] at h1; cases h1
    ·simp[Array.getElem?_eq_none h'] at h1
   have h2:=wpOp_put hoj (hfree j oj hoj hji hjun hnot) (fun cs b=>hsel i oi cs b hi) (fun cs b=>hsel j oj cs b hoj) hQ hy h1;have hfree':∀ k ok,ops[k]?=some ok→k≠i→(L.setIfInBounds j true).getD k true=false →
     (∀ e∈ok.after,Region.binds .any e=true→e.on≠i)→oi.apart ops ok=true:=fun k ok hk hki hun hno=>by
    refine hfree k ok hk hki ?_ hno;by_cases hjk:j=k
    ·subst hjk; exact hjun
    ·rw[getD_set_ne true hjk] at hun; exact hun
   refine wpOp_mono (fun a' w' h3=>?_) h2;have hS':fK tail (L.setIfInBounds j true)=false→S w':=fun hb=>h3.2.1 (by
    have e1:fK tail ((L.setIfInBounds i true).setIfInBounds j true)=fK tail (L.setIfInBounds j true):=by
     rw[Array.setIfInBounds_comm _ _ (Ne.symm hji),ey hit]
    rw[e1]; exact hb)
   refine⟨hS',ih (L.setIfInBounds j true) a' w' hfree' (ready_mono hr (Ne.symm hji)) h3.1 hS' ?_⟩;rw[Array.setIfInBounds_comm _ _ hji];exact h3.2.2
def lz (ops:Array Oper)(tail:List Nat)(i:Nat):Bool:=tail.all fun j=>uM ops 8 j i
theorem ks {i:Nat}(h:lz ops tail i=true):∀ j∈tail,∃ n,uM ops n j i=true:=by
 intro j hj;unfold lz at h;rw[List.all_eq_true] at h;exact⟨8,h j hj⟩
def iC (ops:Array Oper)(tail:List Nat):List (Nat×Nat)→Array Bool→Bool
 | [],L=>(Region.ready .any ops L).isEmpty
 | (i,2)::r,L=>(Region.ready .any ops L).contains i&&Region.free .any ops L i && !tail.contains i&&iC ops tail r (L.setIfInBounds i true)
 | (i,1)::r,L=>(Region.ready .any ops L).contains i&&Region.free .any ops L i&&lz ops tail i && !tail.contains i && !fK tail L&&iC ops tail r (L.setIfInBounds i true)
 | (i,_)::r,L=>(Region.ready .any ops L == [i])&&iC ops tail r (L.setIfInBounds i true)
def vS (ops:Array Oper)(tail:List Nat)(plan:List (Nat×Nat)):Bool :=
 Region.noSelect ops&&(plan.length == ops.size)&&iC ops tail plan (Array.replicate ops.size false)
end
section
variable (P:Program)(N:Nat)(E:World)(ops:Array Oper)(Q:Exit→Act→World→Prop)(g0:PH)(s0:Own)(tail:List Nat)
def SP (plan:List (Nat×Nat))(f:Fr)(g:PH)(s:Own):Prop :=
 ∀ L a w,Region.noSelect ops=true→mf ops L→iC ops tail plan L=true→Ok N f a→At E g s w→(fK tail L=false→At E g0 s0 w)→kB P ops Q (At E g0 s0) tail plan.length L a w
end
section
variable {P:Program}{N:Nat}{E:World}{ops:Array Oper}{Q:Exit→Act→World→Prop}{g0:PH}{s0:Own}{tail:List Nat}{f f':Fr}{g:PH}{s s':Own}{plan:List (Nat×Nat)}
theorem SC.draw {id:Nat}(tail:List Nat)(plan:List (Nat×Nat))(hm:P.follows .mixedOrders=true)(hok:vS ops tail plan=true)
  (h:SP P N E ops Q g s tail plan f g s):SC P N E (.region id ops true) Q f g s:=by
 intro a w ha hw;unfold vS at hok;simp only[Bool.and_eq_true,beq_iff_eq] at hok;refine wp_region_any hm (jX _ _ _ _ (S:=At E g s) (tail:=tail) ?_);have:=h (Array.replicate ops.size false) a { w with drawn:=w.drawn+1 } hok.1.1 (kW _) hok.2 ha (hw.drew _ (Nat.le_succ _)) (fun _=>hw.drew _ (Nat.le_succ _));rw[hok.1.2] at this;exact this
theorem SP.nil (h:ST N E Q .normal f g s):SP P N E ops Q g0 s0 tail [] f g s:=by
 intro L a w _ _ hp ha hw _;simp only[iC,List.isEmpty_iff] at hp;exact⟨hp,h a w ha hw⟩
theorem ec (a:Act)(d:Nat)(v:Value):(a.put (some d) v).defers=a.defers:=rfl
theorem SP.gq [hQ:Quiet Q]{i d:Nat}{op:Op}{ty:TypeId}{pos:String}{af:Array Edge}{gd:Option (Nat×Bool)}{v:Value}(hi:ops[i]?=some ⟨some d,op,ty,pos,af,gd⟩)
  (hg:Gd N ops f ⟨some d,op,ty,pos,af,gd⟩ true) (hq:SQ P N E ⟨some d,op,ty,pos,af,gd⟩ f g0 s0 v) (hd:d<N)
  (h:SP P N E ops Q g0 s0 tail plan ((d,v)::f) g s):SP P N E ops Q g0 s0 tail ((i,1)::plan) f g s:=by
 intro L a w hs hcl hp ha hw hb;simp only[iC,Bool.and_eq_true,Bool.not_eq_true'] at hp;obtain ⟨⟨⟨⟨⟨h1,h2⟩,h3⟩,h4⟩,h5⟩,h6⟩:=hp;refine m9 hi (Region.noSelect_spec hs) (fun c a w hh=>hQ.out c _ _ w (ec a d v) hh) (by simpa using h4) (ks h3) _ L a w hcl (Region.free_spec hi h2) (by simpa using h1)
  (.inl ⟨hg a ha,fun w' hw'=>hq a w' ha hw'⟩) h5 (hb h5) ?_
 exact h _ _ w hs (dJ hcl (by simpa using h1)) h6 (ha.put hd v) hw (fun hb'=>hb h5)
theorem SP.q [hQ:Quiet Q]{i d:Nat}{op:Op}{ty:TypeId}{pos:String}{af:Array Edge}{v:Value}(hi:ops[i]?=some ⟨some d,op,ty,pos,af,none⟩)
  (hq:SQ P N E ⟨some d,op,ty,pos,af,none⟩ f g0 s0 v) (hd:d<N)
  (h:SP P N E ops Q g0 s0 tail plan ((d,v)::f) g s):SP P N E ops Q g0 s0 tail ((i,1)::plan) f g s:=SP.gq hi (Gd.none rfl) hq hd h
theorem SP.gu [hQ:Quiet Q]{i d:Nat}{op:Op}{ty:TypeId}{pos:String}{af:Array Edge}{gd:Option (Nat×Bool)}{v:Value}(hi:ops[i]?=some ⟨some d,op,ty,pos,af,gd⟩)
  (hg:Gd N ops f ⟨some d,op,ty,pos,af,gd⟩ true) (hq:SU P N ⟨some d,op,ty,pos,af,gd⟩ f v) (hd:d<N)
  (h:SP P N E ops Q g0 s0 tail plan ((d,v)::f) g s):SP P N E ops Q g0 s0 tail ((i,2)::plan) f g s:=by
 intro L a w hs hcl hp ha hw hb;simp only[iC,Bool.and_eq_true,Bool.not_eq_true'] at hp;obtain ⟨⟨⟨h1,h2⟩,h4⟩,h6⟩:=hp;have hit:i ∉ tail:=by simpa using h4
 refine kE hi (Region.noSelect_spec hs) (fun c a w hh=>hQ.out c _ _ w (ec a d v) hh) hit _ L a w (Region.free_spec hi h2) (by simpa using h1)
  (.inl ⟨hg a ha,fun w'=>hq a w' ha⟩) hb ?_
 exact h _ _ w hs (dJ hcl (by simpa using h1)) h6 (ha.put hd v) hw (fun hb'=>hb (by rwa [ey hit] at hb'))
theorem SP.u [hQ:Quiet Q]{i d:Nat}{op:Op}{ty:TypeId}{pos:String}{af:Array Edge}{v:Value}(hi:ops[i]?=some ⟨some d,op,ty,pos,af,none⟩)
  (hq:SU P N ⟨some d,op,ty,pos,af,none⟩ f v) (hd:d<N)
  (h:SP P N E ops Q g0 s0 tail plan ((d,v)::f) g s):SP P N E ops Q g0 s0 tail ((i,2)::plan) f g s:=SP.gu hi (Gd.none rfl) hq hd h
theorem SP.off [hQ:Quiet Q]{i d:Nat}{op:Op}{ty:TypeId}{pos:String}{af:Array Edge}{gd:Option (Nat×Bool)}(hi:ops[i]?=some ⟨some d,op,ty,pos,af,gd⟩)
  (hg:Gd N ops f ⟨some d,op,ty,pos,af,gd⟩ false) (hd:d<N)
  (h:SP P N E ops Q g0 s0 tail plan ((d,undef)::f) g s):SP P N E ops Q g0 s0 tail ((i,2)::plan) f g s:=by
 intro L a w hs hcl hp ha hw hb;simp only[iC,Bool.and_eq_true,Bool.not_eq_true'] at hp;obtain ⟨⟨⟨h1,h2⟩,h4⟩,h6⟩:=hp;have hit:i ∉ tail:=by simpa using h4
 refine kE hi (Region.noSelect_spec hs) (fun c a w hh=>hQ.out c _ _ w (ec a d undef) hh) hit _ L a w (Region.free_spec hi h2) (by simpa using h1)
  (.inr ⟨hg a ha,rfl⟩) hb ?_
 exact h _ _ w hs (dJ hcl (by simpa using h1)) h6 (ha.put hd undef) hw (fun hb'=>hb (by rwa [ey hit] at hb'))
theorem SP.off1 [hQ:Quiet Q]{i d:Nat}{op:Op}{ty:TypeId}{pos:String}{af:Array Edge}{gd:Option (Nat×Bool)}(hi:ops[i]?=some ⟨some d,op,ty,pos,af,gd⟩)
  (hg:Gd N ops f ⟨some d,op,ty,pos,af,gd⟩ false) (hd:d<N)
  (h:SP P N E ops Q g0 s0 tail plan ((d,undef)::f) g s):SP P N E ops Q g0 s0 tail ((i,1)::plan) f g s:=by
 intro L a w hs hcl hp ha hw hb;refine SP.off hi hg hd h L a w hs hcl ?_ ha hw hb;simp only[iC,Bool.and_eq_true] at hp ⊢;exact⟨⟨⟨hp.1.1.1.1.1,hp.1.1.1.1.2⟩,hp.1.1.2⟩,hp.2⟩
theorem SP.step {i:Nat}{o:Oper}{K:Value→PH→Own→Prop}(hi:ops[i]?=some o)(hg:Gd N ops f o true)(ho:SO P N E o f g s K)
  (hk:i∈tail∨∀ v g' s',K v g' s'→Le g0 g'∧s0.Sublist s')
  (h:∀ v g' s' a,K v g' s'→Ok N f a→∃ f',Ok N f' (a.put o.dst v)∧SP P N E ops Q g0 s0 tail plan f' g' s'):SP P N E ops Q g0 s0 tail ((i,0)::plan) f g s:=by
 intro L a w hs hcl hp ha hw hb;simp only[iC,Bool.and_eq_true,beq_iff_eq] at hp;refine⟨fun h0=>(by rw[hp.1] at h0; cases h0),fun j hj=>?_⟩;rw[hp.1] at hj;simp only[List.mem_singleton] at hj;subst hj;unfold wpOp;simp only[hi];rw[if_pos (hg a ha)];refine .inl (ho a w ha hw Q _ fun v g' s' w' hK hw'=>?_);have hb':fK tail (L.setIfInBounds j true)=false→At E g0 s0 w':=by
  intro h0
  rcases hk with hk | hk
  ·exfalso;have hr:j∈Region.ready .any ops L:=by rw[hp.1]; simp
   have hlt:j<L.size:=by
    rcases Nat.lt_or_ge j L.size with h' | h'
    ·exact h'
    ·have:=(mem_ready.1 hr).1;simp[Array.getElem?_eq_none h'] at this
   unfold fK at h0;rw[List.any_eq_false] at h0;have:=h0 j hk;simp[hlt] at this
  ·obtain ⟨h1,h2⟩:=hk v g' s' hK;exact (hw'.less h1).sublist h2
 obtain ⟨f',hf',hn⟩:=h v g' s' a hK ha;exact⟨hb',hn _ _ w' hs (dJ hcl (by rw[hp.1]; simp)) hp.2 hf' hw' hb'⟩
theorem SP.o {i d:Nat}{op:Op}{ty:TypeId}{pos:String}{af:Array Edge}{K:Value→PH→Own→Prop}(hi:ops[i]?=some ⟨some d,op,ty,pos,af,none⟩)
  (ho:SO P N E ⟨some d,op,ty,pos,af,none⟩ f g s K) (hd:d<N) (hk:i∈tail∨∀ v g' s',K v g' s'→Le g0 g'∧s0.Sublist s')
  (h:∀ v g' s',K v g' s'→SP P N E ops Q g0 s0 tail plan ((d,v)::f) g' s'):SP P N E ops Q g0 s0 tail ((i,0)::plan) f g s :=
 SP.step hi (Gd.none rfl) ho hk fun v g' s' _ hK ha=>⟨_,ha.put hd v,h v g' s' hK⟩
theorem SP.on {i:Nat}{op:Op}{ty:TypeId}{pos:String}{af:Array Edge}{K:Value→PH→Own→Prop}(hi:ops[i]?=some ⟨none,op,ty,pos,af,none⟩)
  (ho:SO P N E ⟨none,op,ty,pos,af,none⟩ f g s K) (hk:i∈tail∨∀ v g' s',K v g' s'→Le g0 g'∧s0.Sublist s')
  (h:∀ v g' s',K v g' s'→SP P N E ops Q g0 s0 tail plan f g' s'):SP P N E ops Q g0 s0 tail ((i,0)::plan) f g s :=
 SP.step hi (Gd.none rfl) ho hk fun v g' s' _ hK ha=>⟨f,ha,h v g' s' hK⟩
theorem SP.go {i d:Nat}{op:Op}{ty:TypeId}{pos:String}{af:Array Edge}{gd:Option (Nat×Bool)}{K:Value→PH→Own→Prop}(hi:ops[i]?=some ⟨some d,op,ty,pos,af,gd⟩)
  (hg:Gd N ops f ⟨some d,op,ty,pos,af,gd⟩ true)
  (ho:SO P N E ⟨some d,op,ty,pos,af,gd⟩ f g s K) (hd:d<N) (hk:i∈tail∨∀ v g' s',K v g' s'→Le g0 g'∧s0.Sublist s')
  (h:∀ v g' s',K v g' s'→SP P N E ops Q g0 s0 tail plan ((d,v)::f) g' s'):SP P N E ops Q g0 s0 tail ((i,0)::plan) f g s :=
 SP.step hi hg ho hk fun v g' s' _ hK ha=>⟨_,ha.put hd v,h v g' s' hK⟩
theorem SP.oq {i d:Nat}{op:Op}{ty:TypeId}{pos:String}{af:Array Edge}{v:Value}(hi:ops[i]?=some ⟨some d,op,ty,pos,af,none⟩)
  (hq:SQ P N E ⟨some d,op,ty,pos,af,none⟩ f g s v) (hd:d<N) (hk:i∈tail∨(Le g0 g∧s0.Sublist s))
  (h:SP P N E ops Q g0 s0 tail plan ((d,v)::f) g s):SP P N E ops Q g0 s0 tail ((i,0)::plan) f g s :=
 SP.o hi hq.so hd (hk.imp id fun hk v g' s' ⟨_,e1,e2⟩=>by subst e1; subst e2; exact hk) fun v' g' s' ⟨e1,e2,e3⟩=>by subst e1; subst e2; subst e3; exact h
theorem SP.ou {i d:Nat}{op:Op}{ty:TypeId}{pos:String}{af:Array Edge}{v:Value}(hi:ops[i]?=some ⟨some d,op,ty,pos,af,none⟩)
  (hq:SU P N ⟨some d,op,ty,pos,af,none⟩ f v) (hd:d<N) (hk:i∈tail∨(Le g0 g∧s0.Sublist s))
  (h:SP P N E ops Q g0 s0 tail plan ((d,v)::f) g s):SP P N E ops Q g0 s0 tail ((i,0)::plan) f g s:=SP.oq hi hq.sq hd hk h
theorem SP.offo {i d:Nat}{op:Op}{ty:TypeId}{pos:String}{af:Array Edge}{gd:Option (Nat×Bool)}(hi:ops[i]?=some ⟨some d,op,ty,pos,af,gd⟩)
  (hg:Gd N ops f ⟨some d,op,ty,pos,af,gd⟩ false) (hd:d<N) (hk:Le g0 g∧s0.Sublist s)
  (h:SP P N E ops Q g0 s0 tail plan ((d,undef)::f) g s):SP P N E ops Q g0 s0 tail ((i,0)::plan) f g s:=by
 intro L a w hs hcl hp ha hw hb;simp only[iC,Bool.and_eq_true,beq_iff_eq] at hp;refine⟨fun h0=>(by rw[hp.1] at h0; cases h0),fun j hj=>?_⟩;rw[hp.1] at hj;simp only[List.mem_singleton] at hj;subst hj;unfold wpOp;simp only[hi];rw[if_neg (by rw[hg a ha]; simp)];have hb':fK tail (L.setIfInBounds j true)=false→At E g0 s0 w:=fun _=>(hw.less hk.1).sublist hk.2;exact⟨hb',h _ _ w hs (dJ hcl (by rw[hp.1]; simp)) hp.2 (ha.put hd undef) hw hb'⟩
end
theorem gT:type_of% @Gd.onT:=@Gd.onT
theorem gZ:type_of% @Gd.onF:=@Gd.onF
theorem rG:type_of% @SC.region:=@SC.region
theorem nL:type_of% @SL.nil:=@SL.nil
theorem lO:type_of% @SL.on:=@SL.on
theorem dW:type_of% @SC.draw:=@SC.draw
theorem pN:type_of% @SP.nil:=@SP.nil
theorem pQ:type_of% @SP.q:=@SP.q
theorem vZ:type_of% @SP.u:=@SP.u
theorem fP:type_of% @SP.off:=@SP.off
theorem oQ:type_of% @SP.oq:=@SP.oq
theorem oU:type_of% @SP.ou:=@SP.ou
theorem fO:type_of% @SP.offo:=@SP.offo
end Go.Sy
namespace Go.Sy
open Go
abbrev pp (b o:Nat):Value:=.pointer (some ⟨b,o,none⟩)
abbrev vi (n:Int):Value:=.int .i64 n
abbrev vb (b:Bool):Value:=.bool b
section
variable {P:Program}{N:Nat}{E:World}{f:Fr}{g:PH}{s:Own}{dst:Option Tmp}{ty:TypeId}{pos:String}{af:Array Edge}{gd:Option (Nat×Bool)}
theorem SU.move {x:Operand}{v:Value}(hx:ev f x=some v):SU P N ⟨dst,.move x,ty,pos,af,gd⟩ f v:=fun a w ha=>by
 simp only[execOp,ha.ev hx]; rfl
theorem SU.assign {x:Operand}{v:Value}(hx:ev f x=some v):SU P N ⟨dst,.assign x,ty,pos,af,gd⟩ f v:=fun a w ha=>by
 simp only[execOp,ha.ev hx]; rfl
theorem SU.pickT {c x y:Operand}{v:Value}(hc:ev f c=some (.bool true))(hx:ev f x=some v):SU P N ⟨dst,.pick c x y,ty,pos,af,gd⟩ f v:=fun a w ha=>by
 simp only[execOp,ha.ev hc,ha.ev hx]; rfl
theorem SU.pickF {c x y:Operand}{v:Value}(hc:ev f c=some (.bool false))(hy:ev f y=some v):SU P N ⟨dst,.pick c x y,ty,pos,af,gd⟩ f v:=fun a w ha=>by
 simp only[execOp,ha.ev hc,ha.ev hy]; rfl
theorem SU.extract {x:Operand}{vs:Array Value}{v:Value}{i:Nat}(hx:ev f x=some (.tuple vs))(hi:vs[i]?=some v):SU P N ⟨dst,.extract x i,ty,pos,af,gd⟩ f v:=fun a w ha=>by
 simp only[execOp,ha.ev hx,Instr.extract,hi]; rfl
theorem SU.nilCheck {x:Operand}{ad:Addr}(hx:ev f x=some (.pointer (some ad))):SU P N ⟨dst,.nilCheck x,ty,pos,af,gd⟩ f (.pointer (some ad)):=fun a w ha=>by
 simp only[execOp,ha.ev hx]; rfl
theorem SU.not {x:Operand}{T:TypeId}{b:Bool}(hx:ev f x=some (.bool b)):SU P N ⟨dst,.unOp .not T x,ty,pos,af,gd⟩ f (.bool !b):=fun a w ha=>by
 simp only[execOp,ha.ev hx]; rfl
theorem SU.notP {x:Operand}{T:TypeId}{p:Prop}[Decidable p](hx:ev f x=some (.bool (decide p))):SU P N ⟨dst,.unOp .not T x,ty,pos,af,gd⟩ f (.bool (decide (¬ p))):=by
 have:decide (¬ p) = !decide p:=by simp
 rw[this];exact SU.not hx
theorem SU.neg {x:Operand}{T:TypeId}{n:Int}(hx:ev f x=some (vi n)):SU P N ⟨dst,.unOp .neg T x,ty,pos,af,gd⟩ f (vi (IntKind.i64.wrap (0 - n))):=fun a w ha=>by
 simp only[execOp,ha.ev hx]; rfl
theorem SU.addW {x y:Operand}{T U:TypeId}{k:IntKind}{m n:Int}(hx:ev f x=some (.int k m))(hy:ev f y=some (.int k n)) :
  SU P N ⟨dst,.binOp .add T x y U,ty,pos,af,gd⟩ f (.int k (k.wrap (m+n))):=fun a w ha=>by
 simp only[execOp,ha.ev hx,ha.ev hy,eqGuard,binOp,ne_eq,not_true_eq_false,if_false,Op.intArith]; rfl
theorem SU.subW {x y:Operand}{T U:TypeId}{k:IntKind}{m n:Int}(hx:ev f x=some (.int k m))(hy:ev f y=some (.int k n)) :
  SU P N ⟨dst,.binOp .sub T x y U,ty,pos,af,gd⟩ f (.int k (k.wrap (m - n))):=fun a w ha=>by
 simp only[execOp,ha.ev hx,ha.ev hy,eqGuard,binOp,ne_eq,not_true_eq_false,if_false,Op.intArith]; rfl
theorem SU.mulW {x y:Operand}{T U:TypeId}{k:IntKind}{m n:Int}(hx:ev f x=some (.int k m))(hy:ev f y=some (.int k n)) :
  SU P N ⟨dst,.binOp .mul T x y U,ty,pos,af,gd⟩ f (.int k (k.wrap (m * n))):=fun a w ha=>by
 simp only[execOp,ha.ev hx,ha.ev hy,eqGuard,binOp,ne_eq,not_true_eq_false,if_false,Op.intArith]; rfl
theorem SU.add {x y:Operand}{T U:TypeId}{m n:Int}(hx:ev f x=some (vi m))(hy:ev f y=some (vi n))(h : -9223372036854775808≤m+n∧m+n≤9223372036854775807) :
  SU P N ⟨dst,.binOp .add T x y U,ty,pos,af,gd⟩ f (vi (m+n)):=by
 have:=SU.addW (P:=P) (N:=N) (dst:=dst) (ty:=ty) (pos:=pos) (af:=af) (gd:=gd) (T:=T) (U:=U) hx hy;rwa [IntWalk.i64_in _ h] at this
theorem SU.sub {x y:Operand}{T U:TypeId}{m n:Int}(hx:ev f x=some (vi m))(hy:ev f y=some (vi n))(h : -9223372036854775808≤m - n∧m - n≤9223372036854775807) :
  SU P N ⟨dst,.binOp .sub T x y U,ty,pos,af,gd⟩ f (vi (m - n)):=by
 have:=SU.subW (P:=P) (N:=N) (dst:=dst) (ty:=ty) (pos:=pos) (af:=af) (gd:=gd) (T:=T) (U:=U) hx hy;rwa [IntWalk.i64_in _ h] at this
theorem SU.mul {x y:Operand}{T U:TypeId}{m n:Int}(hx:ev f x=some (vi m))(hy:ev f y=some (vi n))(h : -9223372036854775808≤m * n∧m * n≤9223372036854775807) :
  SU P N ⟨dst,.binOp .mul T x y U,ty,pos,af,gd⟩ f (vi (m * n)):=by
 have:=SU.mulW (P:=P) (N:=N) (dst:=dst) (ty:=ty) (pos:=pos) (af:=af) (gd:=gd) (T:=T) (U:=U) hx hy;rwa [IntWalk.i64_in _ h] at this
theorem SU.quo {x y:Operand}{T U:TypeId}{k:IntKind}{m n:Int}(hx:ev f x=some (.int k m))(hy:ev f y=some (.int k n))(h:n≠0) :
  SU P N ⟨dst,.binOp .quo T x y U,ty,pos,af,gd⟩ f (.int k (k.wrap (m.tdiv n))):=fun a w ha=>by
 simp only[execOp,ha.ev hx,ha.ev hy,eqGuard,binOp,ne_eq,not_true_eq_false,if_false,Op.intDiv,h]; rfl
theorem SU.rem {x y:Operand}{T U:TypeId}{k:IntKind}{m n:Int}(hx:ev f x=some (.int k m))(hy:ev f y=some (.int k n))(h:n≠0) :
  SU P N ⟨dst,.binOp .rem T x y U,ty,pos,af,gd⟩ f (.int k (m.tmod n)):=fun a w ha=>by
 simp only[execOp,ha.ev hx,ha.ev hy,eqGuard,binOp,ne_eq,not_true_eq_false,if_false,Op.intDiv,h]; rfl
theorem SU.and {x y:Operand}{T U:TypeId}{k:IntKind}{m n:Int}(hx:ev f x=some (.int k m))(hy:ev f y=some (.int k n)) :
  SU P N ⟨dst,.binOp .and T x y U,ty,pos,af,gd⟩ f (.int k (k.wrap (BitVec.ofInt k.bits m &&& BitVec.ofInt k.bits n).toNat)):=fun a w ha=>by
 simp only[execOp,ha.ev hx,ha.ev hy,eqGuard,binOp,ne_eq,not_true_eq_false,if_false,Op.intBits]; rfl
theorem SU.shl {x y:Operand}{T U:TypeId}{k k':IntKind}{m n:Int}(hx:ev f x=some (.int k m))(hy:ev f y=some (.int k' n))(h:0≤n) :
  SU P N ⟨dst,.binOp .shl T x y U,ty,pos,af,gd⟩ f (.int k (k.wrap (m * 2 ^ min n.toNat k.bits))):=fun a w ha=>by
 simp only[execOp,ha.ev hx,ha.ev hy,eqGuard,binOp,Op.shift,if_neg (Int.not_lt.2 h)]; rfl
theorem SU.shr {x y:Operand}{T U:TypeId}{k k':IntKind}{m n:Int}(hx:ev f x=some (.int k m))(hy:ev f y=some (.int k' n))(h:0≤n) :
  SU P N ⟨dst,.binOp .shr T x y U,ty,pos,af,gd⟩ f (.int k (m.fdiv (2 ^ min n.toNat k.bits))):=fun a w ha=>by
 simp only[execOp,ha.ev hx,ha.ev hy,eqGuard,binOp,Op.shift,if_neg (Int.not_lt.2 h)]; rfl
theorem SU.lss {x y:Operand}{T U:TypeId}{k:IntKind}{m n:Int}(hx:ev f x=some (.int k m))(hy:ev f y=some (.int k n)) :
  SU P N ⟨dst,.binOp .lss T x y U,ty,pos,af,gd⟩ f (.bool (decide (m<n))):=fun a w ha=>by
 simp only[execOp,ha.ev hx,ha.ev hy,eqGuard,binOp,ne_eq,not_true_eq_false,if_false,Op.intCmp]; rfl
theorem SU.leq {x y:Operand}{T U:TypeId}{k:IntKind}{m n:Int}(hx:ev f x=some (.int k m))(hy:ev f y=some (.int k n)) :
  SU P N ⟨dst,.binOp .leq T x y U,ty,pos,af,gd⟩ f (.bool (decide (m≤n))):=fun a w ha=>by
 simp only[execOp,ha.ev hx,ha.ev hy,eqGuard,binOp,ne_eq,not_true_eq_false,if_false,Op.intCmp]; rfl
theorem SU.gtr {x y:Operand}{T U:TypeId}{k:IntKind}{m n:Int}(hx:ev f x=some (.int k m))(hy:ev f y=some (.int k n)) :
  SU P N ⟨dst,.binOp .gtr T x y U,ty,pos,af,gd⟩ f (.bool (decide (n<m))):=fun a w ha=>by
 simp only[execOp,ha.ev hx,ha.ev hy,eqGuard,binOp,ne_eq,not_true_eq_false,if_false,Op.intCmp]; rfl
theorem SU.geq {x y:Operand}{T U:TypeId}{k:IntKind}{m n:Int}(hx:ev f x=some (.int k m))(hy:ev f y=some (.int k n)) :
  SU P N ⟨dst,.binOp .geq T x y U,ty,pos,af,gd⟩ f (.bool (decide (n≤m))):=fun a w ha=>by
 simp only[execOp,ha.ev hx,ha.ev hy,eqGuard,binOp,ne_eq,not_true_eq_false,if_false,Op.intCmp]; rfl
theorem SU.eql {x y:Operand}{T U:TypeId}{k:IntKind}{m n:Int}(hx:ev f x=some (.int k m))(hy:ev f y=some (.int k n)) :
  SU P N ⟨dst,.binOp .eql T x y U,ty,pos,af,gd⟩ f (.bool (decide (m=n))):=fun a w ha=>by
 have:(m == n)=decide (m=n):=rfl;rw[← this];simp only[execOp,ha.ev hx,ha.ev hy,eqGuard,binOp,ne_eq,not_true_eq_false,if_false,Op.intCmp]; rfl
theorem SU.neq {x y:Operand}{T U:TypeId}{k:IntKind}{m n:Int}(hx:ev f x=some (.int k m))(hy:ev f y=some (.int k n)) :
  SU P N ⟨dst,.binOp .neq T x y U,ty,pos,af,gd⟩ f (.bool (decide (m≠n))):=fun a w ha=>by
 have:(m != n)=decide (m≠n):=by rw[Bool.eq_iff_iff]; simp
 rw[← this];simp only[execOp,ha.ev hx,ha.ev hy,eqGuard,binOp,ne_eq,not_true_eq_false,if_false,Op.intCmp]; rfl
theorem SU.convert {x:Operand}{T U:TypeId}{k k':IntKind}{d:TypeDesc}{n:Int}(hT:P.underlying T=some d)(hU:P.underlying U=some (.int k'))(hx:ev f x=some (.int k n)) :
  SU P N ⟨dst,.convert T U x,ty,pos,af,gd⟩ f (.int k' (k'.wrap n)):=fun a w ha=>by
 simp[execOp,ha.ev hx,Go.convert,run_underlying hT,run_underlying hU,Conv.intToInt]
theorem SU.fieldAddr {x:Operand}{S:TypeId}{fields:Array Field}{fd:Field}{i b o k:Nat}(hu:P.underlying S=some (.struct fields))(hf:fields[i]?=some fd)
  (hs:∀ w,(sizeOf fd.type).run P w = .ok (k+1) w) (hx:ev f x=some (pp b o)):SU P N ⟨dst,.fieldAddr S x i,ty,pos,af,gd⟩ f (pp b (o+fd.offset)):=fun a w ha=>by
 have hadd:(⟨b,o,none⟩:Addr).add fd.offset=⟨b,o+fd.offset,none⟩:=by unfold Addr.add; split <;> simp_all
 simp[execOp,ha.ev hx,Instr.fieldAt,run_underlying hu,hf,Instr.sureAddr,fieldPlace,hs w,hadd]
theorem SU.field {x:Operand}{S:TypeId}{fields:Array Field}{fd:Field}{i:Nat}{cs:Array Value}{v:Value}(hu:P.underlying S=some (.struct fields))(hf:fields[i]?=some fd)
  (hs:∀ w,(isAgg fd.type).run P w = .ok false w) (hx:ev f x=some (.agg cs)) (hv:cs[fd.offset]?=some v):SU P N ⟨dst,.field S x i,ty,pos,af,gd⟩ f v:=fun a w ha=>by
 simp[execOp,ha.ev hx,Instr.field,run_underlying hu,hf,part,hs w,asAgg,hv]
theorem SU.makeFunc {n:FuncId}{c:Array Operand}{cv:Array Value}(hc:∀ a,Ok N f a→c.map a.eval=cv):SU P N ⟨dst,.makeFunc (.func n) #[] c,ty,pos,af,gd⟩ f (.func (.func n) #[] cv):=fun a w ha=>by
 simp[execOp,Instr.makeFunc,hc a ha]
def slen:Value→Nat
 | .slice _ n _=>n
 | _=>0
def isSl:Value→Bool
 | .slice ..=>true
 | _=>false
def qx (v:Value)(o:Nat):Value :=
 match v with
 | .slice (some a) _ _=>.pointer (some ⟨a.block,a.off+o,none⟩)
 | _=>.pointer none
def based:Value→Bool
 | .slice (some a) _ _=>a.spot.isNone
 | _=>false
theorem SU.len {x:Operand}{T e:TypeId}{v:Value}(hT:P.underlying T=some (.slice e))(hx:ev f x=some v)(hv:isSl v=true) :
  SU P N ⟨dst,.call ⟨.builtin .len,#[x],#[T]⟩,ty,pos,af,gd⟩ f (vi (slen v)):=fun a w ha=>by
 cases v <;> simp[isSl] at hv
 simp[execOp,resolve,invoke,builtin,ha.ev hx,Builtin.len_,run_underlying hT,goInt,slen]
theorem SU.lenN {x:Operand}{T e:TypeId}{p:Option Addr}{n c:Nat}(hT:P.underlying T=some (.slice e))(hx:ev f x=some (.slice p n c)) :
  SU P N ⟨dst,.call ⟨.builtin .len,#[x],#[T]⟩,ty,pos,af,gd⟩ f (vi n):=SU.len hT hx rfl
theorem SU.eqlNil {x y:Operand}{T U e:TypeId}{p:Option Addr}{n c:Nat}(hT:P.underlying T=some (.slice e))(hx:ev f x=some (.slice p n c))(hy:ev f y=some (.slice none 0 0)) :
  SU P N ⟨dst,.binOp .eql T x y U,ty,pos,af,gd⟩ f (.bool p.isNone):=fun a w ha=>by
 have hg:(eqGuard .eql T x y (.slice p n c) (.slice none 0 0)).run P w = .ok () w:=by simp[eqGuard]
 have hb:=Lib.run_eql_slice_nil (P:=P) w T e p n c 0 0 hT;simp only[execOp,ha.ev hx,ha.ev hy,Sem.run_bind,hg,Result.andThen_ok,hb];rfl
theorem SU.indexAddr {x y:Operand}{T e:TypeId}{k:Nat}{v:Value}{i:Int}(hT:P.underlying T=some (.slice e))(hs:∀ w,(sizeOf e).run P w = .ok k w)
  (hx:ev f x=some v) (hy:ev f y=some (vi i)) (hb:based v=true) (h0:0≤i) (h1:i<slen v) :
  SU P N ⟨dst,.indexAddr T x y,ty,pos,af,gd⟩ f (qx v (i.toNat * k)):=fun a w ha=>by
 cases v <;> simp[based] at hb
 rename_i p n c;cases p <;> simp at hb
 rename_i ad;obtain ⟨b,o,sp⟩:=ad;simp at hb;subst hb;simp only[slen] at h1;have hadd:(⟨b,o,none⟩:Addr).add (i.toNat * k)=⟨b,o+i.toNat * k,none⟩:=by unfold Addr.add; split <;> simp_all
 simp[execOp,ha.ev hx,ha.ev hy,Instr.indexAt,asIntOf,run_underlying hT,h0,h1,hs w,qx,hadd]
theorem SU.indexAddrA {x y:Operand}{T e:TypeId}{k n b o:Nat}{i:Int}(hT:P.underlying T=some (.array n e))(hs:∀ w,(sizeOf e).run P w = .ok k w)
  (hx:ev f x=some (pp b o)) (hy:ev f y=some (vi i)) (h0:0≤i) (h1:i<n) :
  SU P N ⟨dst,.indexAddr T x y,ty,pos,af,gd⟩ f (pp b (o+i.toNat * k)):=fun a w ha=>by
 have hadd:(⟨b,o,none⟩:Addr).add (i.toNat * k)=⟨b,o+i.toNat * k,none⟩:=by unfold Addr.add; split <;> simp_all
 simp[execOp,ha.ev hx,ha.ev hy,Instr.indexAt,asIntOf,run_underlying hT,Instr.sureAddr,h0,h1,hs w,hadd]
theorem SU.fieldAddrC {x:Operand}{S:TypeId}{fields:Array Field}{fd:Field}{i o k:Nat}{v:Value}(hu:P.underlying S=some (.struct fields))(hf:fields[i]?=some fd)
  (hs:∀ w,(sizeOf fd.type).run P w = .ok (k+1) w) (hx:ev f x=some (qx v o)) (hb:based v=true):SU P N ⟨dst,.fieldAddr S x i,ty,pos,af,gd⟩ f (qx v (o+fd.offset)):=by
 cases v <;> simp[based] at hb
 rename_i p n c;cases p <;> simp at hb
 simp only[qx] at hx ⊢;have:=SU.fieldAddr (P:=P) (N:=N) (dst:=dst) (ty:=ty) (pos:=pos) (af:=af) (gd:=gd) hu hf hs hx;rwa [Nat.add_assoc] at this
end
def eJ (g:PH)(s:Own)(ad:Addr)(v:Value):Prop:=∀ E w,At E g s w→w.cell? ad=some v
theorem eJ.own {g:PH}{s:Own}{b o:Nat}{cs:Array Value}{T:TypeId}{fr:Nat×Nat}{v:Value}(i:Nat)(hs:s[i]?=some (pt b (.cells cs T fr)))(hc:cs[o]?=some v):eJ g s ⟨b,o,none⟩ v:=fun E w hw=>by
 have:=hw.own _ (List.mem_of_getElem? hs);simp only[pt,Option.bind_some] at this;simp[World.cell?,this,hc]
theorem eJ.known {g:PH}{s:Own}{b o:Nat}{cs:Array Value}{T:TypeId}{fr:Nat×Nat}{v:Value}(hg:g b=some (.cells cs T fr))(hc:cs[o]?=some v):eJ g s ⟨b,o,none⟩ v:=fun E w hw=>by
 simp[World.cell?,hw.known _ _ hg,hc]
def Rd (g:PH)(s:Own)(v:Value)(xs:List Value):Prop:=∀ E w,At E g s w→∀ j x,xs[j]?=some x→∃ a n c,v = .slice (some a) n c∧a.spot=none∧w.cell? ⟨a.block,a.off+j,none⟩=some x
section
variable {P:Program}{N:Nat}{E:World}{f:Fr}{g:PH}{s:Own}{dst:Option Tmp}{ty:TypeId}{pos:String}{af:Array Edge}{gd:Option (Nat×Bool)}
theorem SQ.loadAt {x:Operand}{T:TypeId}{ad:Addr}{v:Value}(hT:∀ w,(isAgg T).run P w = .ok false w)(hx:ev f x=some (.pointer (some ad)))(hc:eJ g s ad v) :
  SQ P N E ⟨dst,.load T x,ty,pos,af,gd⟩ f g s v:=fun a w ha hw=>by
 have:=hc E w hw;simp[execOp,ha.ev hx,Instr.loadAt,Instr.sureAddr,loadVar,hT w,load,Sem.run,this]
theorem SQ.load {x:Operand}{T:TypeId}{b o:Nat}{v:Value}(hT:∀ w,(isAgg T).run P w = .ok false w)(hx:ev f x=some (pp b o))(hc:eJ g s ⟨b,o,none⟩ v) :
  SQ P N E ⟨dst,.load T x,ty,pos,af,gd⟩ f g s v:=SQ.loadAt hT hx hc
theorem SQ.loadC {x:Operand}{T:TypeId}{u:Value}{o:Nat}{xs:List Value}{v:Value}(hT:∀ w,(isAgg T).run P w = .ok false w)(hx:ev f x=some (qx u o))(hr:Rd g s u xs)(hv:xs[o]?=some v) :
  SQ P N E ⟨dst,.load T x,ty,pos,af,gd⟩ f g s v:=fun a w ha hw=>by
 obtain ⟨ad,n,c,rfl,_,hc⟩:=hr E w hw o v hv;simp only[qx] at hx;simp[execOp,ha.ev hx,Instr.loadAt,Instr.sureAddr,loadVar,hT w,load,Sem.run,hc]
theorem cz {w:World}{b o:Nat}:∀ (k i:Nat) (vs:List Value) (acc:Array Value),vs.length=k→(∀ j x,vs[j]?=some x→w.cell? ⟨b,o+(i+j),none⟩=some x) →
  (loadCellsFrom ⟨b,o,none⟩ i k acc).run P w = .ok (acc++vs.toArray) w
 | 0,_,vs,acc,hl,_=>by
  have:vs=[]:=List.eq_nil_of_length_eq_zero hl;subst this;simp[loadCellsFrom]
 | k+1,i,vs,acc,hl,hc=>by
  cases vs with
  | nil=>simp at hl
  | cons x r =>
   have h0:=hc 0 x (by simp);have hadd:(⟨b,o,none⟩:Addr).add i=⟨b,o+(i+0),none⟩:=by unfold Addr.add; split <;> simp_all
   have:=cz k (i+1) r (acc.push x) (by simpa using hl) (fun j y hy=>by have:=hc (j+1) y (by simpa using hy); rwa [show i+(j+1)=i+1+j by omega] at this);simp only[loadCellsFrom,load,hadd,Sem.run_bind,Sem.run,h0,Result.andThen_ok,this];simp
theorem SQ.loadAggAt {x:Operand}{T:TypeId}{b o k:Nat}{vs:List Value}(hT:∀ w,(isAgg T).run P w = .ok true w)(hk:∀ w,(sizeOf T).run P w = .ok k w)(hx:ev f x=some (pp b o))(hl:vs.length=k)
  (hc:∀ j v,vs[j]?=some v→eJ g s ⟨b,o+j,none⟩ v):SQ P N E ⟨dst,.load T x,ty,pos,af,gd⟩ f g s (.agg vs.toArray):=fun a w ha hw=>by
 have:=cz (P:=P) (w:=w) (b:=b) (o:=o) k 0 vs #[] hl (fun j y hy=>by simpa using hc j y hy E w hw);simp[execOp,ha.ev hx,Instr.loadAt,Instr.sureAddr,loadVar,hT w,hk w,loadCells,this]
theorem SQ.loadVar {x:Operand}{T U:TypeId}{b:Nat}{cs:Array Value}{fr:Nat×Nat}(i:Nat)(hT:∀ w,(isAgg T).run P w = .ok true w)(hk:∀ w,(sizeOf T).run P w = .ok cs.size w)(hx:ev f x=some (pp b 0))
  (hs:s[i]?=some (pt b (.cells cs U fr))):SQ P N E ⟨dst,.load T x,ty,pos,af,gd⟩ f g s (.agg cs):=by
 have:=SQ.loadAggAt (P:=P) (N:=N) (E:=E) (g:=g) (s:=s) (dst:=dst) (ty:=ty) (pos:=pos) (af:=af) (gd:=gd) (vs:=cs.toList) hT hk hx (by simp)
  (fun j v hv=>eJ.own (o:=0+j) i hs (by simpa using hv))
 simpa using this
theorem SQ.loadAggC {x:Operand}{T:TypeId}{u:Value}{o k:Nat}{xs vs:List Value}(hT:∀ w,(isAgg T).run P w = .ok true w)(hk:∀ w,(sizeOf T).run P w = .ok k w)(hx:ev f x=some (qx u o))(hr:Rd g s u xs)
  (hl:vs.length=k) (hpos:0<k) (hv:∀ j v,vs[j]?=some v→xs[o+j]?=some v):SQ P N E ⟨dst,.load T x,ty,pos,af,gd⟩ f g s (.agg vs.toArray):=fun a w ha hw=>by
 have h0:∃ v,vs[0]?=some v:=by
  cases vs with
  | nil=>simp at hl; omega
  | cons y r=>exact⟨y,rfl⟩
 obtain ⟨v0,hv0⟩:=h0;obtain ⟨ad,n,c,rfl,hsp,_⟩:=hr E w hw (o+0) v0 (hv 0 v0 hv0);simp only[qx] at hx;have:=cz (P:=P) (w:=w) (b:=ad.block) (o:=ad.off+o) k 0 vs #[] hl (fun j y hy=>by
  obtain ⟨a',n',c',he,_,hc⟩:=hr E w hw (o+j) y (hv j y hy);cases he;rw[Nat.zero_add,Nat.add_assoc];exact hc)
 simp[execOp,ha.ev hx,Instr.loadAt,Instr.sureAddr,Go.loadVar,hT w,hk w,loadCells,this]
end
section
variable {P:Program}{N:Nat}{E:World}{ops:Array Oper}{Q:Exit→Act→World→Prop}{f:Fr}{g:PH}{s:Own}{rest:List Oper}{d:Nat}{op:Op}{ty:TypeId}{pos:String}{af:Array Edge}{gd:Option (Nat×Bool)}{v:Value}{g0:PH}{s0:Own}{tail:List Nat}{plan:List (Nat×Nat)}
theorem SL.U (hq:SU P N ⟨some d,op,ty,pos,af,none⟩ f v)(h:SL P N E ops Q rest ((d,v)::f) g s)(hd:d<N:=by decide):SL P N E ops Q (⟨some d,op,ty,pos,af,none⟩::rest) f g s:=SL.u hq hd h
theorem SL.K (hq:SQ P N E ⟨some d,op,ty,pos,af,none⟩ f g s v)(h:SL P N E ops Q rest ((d,v)::f) g s)(hd:d<N:=by decide):SL P N E ops Q (⟨some d,op,ty,pos,af,none⟩::rest) f g s:=SL.q hq hd h
theorem SL.W {K:Value→PH→Own→Prop}(ho:SO P N E ⟨some d,op,ty,pos,af,none⟩ f g s K)(h:∀ v g' s',K v g' s'→SL P N E ops Q rest ((d,v)::f) g' s')(hd:d<N:=by decide):SL P N E ops Q (⟨some d,op,ty,pos,af,none⟩::rest) f g s:=SL.o ho hd h
theorem SL.Z {j t:Nat}{b:Bool}(h1:gd=some (j,b))(hj:((ops[j]?).bind fun o:Oper=>o.dst)=some t)(hv:bk f t=some (.bool (!b)))(h:SL P N E ops Q rest ((d,undef)::f) g s)(ht:t<N:=by decide)(hd:d<N:=by decide):SL P N E ops Q (⟨some d,op,ty,pos,af,gd⟩::rest) f g s:=SL.off (Gd.onF h1 hj hv ht) hd h
theorem SL.Y {j t:Nat}{b:Bool}(h1:gd=some (j,b))(hj:((ops[j]?).bind fun o:Oper=>o.dst)=some t)(hv:bk f t=some (.bool b))(hq:SU P N ⟨some d,op,ty,pos,af,gd⟩ f v)(h:SL P N E ops Q rest ((d,v)::f) g s)(ht:t<N:=by decide)(hd:d<N:=by decide):SL P N E ops Q (⟨some d,op,ty,pos,af,gd⟩::rest) f g s:=SL.gu (Gd.onT h1 hj hv ht) hq hd h
theorem SP.U [Quiet Q]{i:Nat}(hi:ops[i]?=some ⟨some d,op,ty,pos,af,none⟩)(hq:SU P N ⟨some d,op,ty,pos,af,none⟩ f v)(h:SP P N E ops Q g0 s0 tail plan ((d,v)::f) g s)(hd:d<N:=by decide):SP P N E ops Q g0 s0 tail ((i,2)::plan) f g s:=SP.u hi hq hd h
theorem SP.K [Quiet Q]{i:Nat}(hi:ops[i]?=some ⟨some d,op,ty,pos,af,none⟩)(hq:SQ P N E ⟨some d,op,ty,pos,af,none⟩ f g0 s0 v)(h:SP P N E ops Q g0 s0 tail plan ((d,v)::f) g s)(hd:d<N:=by decide):SP P N E ops Q g0 s0 tail ((i,1)::plan) f g s:=SP.q hi hq hd h
theorem SL.M {x:Operand}(hx:ev f x=some v)(h:SL P N E ops Q rest ((d,v)::f) g s)(hd:d<N:=by decide):SL P N E ops Q (⟨some d,.move x,ty,pos,af,none⟩::rest) f g s:=SL.u (SU.move hx) hd h
theorem SL.A {x:Operand}(hx:ev f x=some v)(h:SL P N E ops Q rest ((d,v)::f) g s)(hd:d<N:=by decide):SL P N E ops Q (⟨some d,.assign x,ty,pos,af,none⟩::rest) f g s:=SL.u (SU.assign hx) hd h
end
theorem sL {p:Prop}(h:p:=by simp only[slen]; omega):p:=h
theorem kD {p:Prop}(h:p:=by decide +kernel):p:=h
theorem kR {p:Prop}(h:p:=by kernel_rfl):p:=h
theorem uR {p:Prop}(h:p:=by repeat (first | exact List.Sublist.refl _ | apply List.Sublist.cons)):p:=h
theorem iR {p:Prop}(h:p:=by
 intro _ _ _ h
 repeat (obtain ⟨_,h⟩:=h)
 subst_vars
 constructor
 first | exact Le.refl _ | assumption
 repeat (first | exact List.Sublist.refl _ | apply List.Sublist.cons)
 done):p:=h
theorem mV:type_of% @SU.move:=@SU.move
theorem aS:type_of% @SU.assign:=@SU.assign
theorem wT:type_of% @SU.pickT:=@SU.pickT
theorem wF:type_of% @SU.pickF:=@SU.pickF
theorem xT:type_of% @SU.extract:=@SU.extract
theorem nC:type_of% @SU.nilCheck:=@SU.nilCheck
theorem aD:type_of% @SU.add:=@SU.add
theorem sU:type_of% @SU.sub:=@SU.sub
theorem lS:type_of% @SU.lss:=@SU.lss
theorem gR:type_of% @SU.gtr:=@SU.gtr
theorem gQ:type_of% @SU.geq:=@SU.geq
theorem eQ:type_of% @SU.eql:=@SU.eql
theorem nQ:type_of% @SU.neq:=@SU.neq
theorem fA:type_of% @SU.fieldAddr:=@SU.fieldAddr
theorem eM:type_of% @SU.len:=@SU.len
theorem eN:type_of% @SU.lenN:=@SU.lenN
theorem iA:type_of% @SU.indexAddr:=@SU.indexAddr
theorem fC:type_of% @SU.fieldAddrC:=@SU.fieldAddrC
theorem cO:type_of% @eJ.own:=@eJ.own
theorem cK:type_of% @eJ.known:=@eJ.known
theorem qL:type_of% @SQ.load:=@SQ.load
theorem lU:type_of% @SL.U:=@SL.U
theorem lK:type_of% @SL.K:=@SL.K
theorem lW:type_of% @SL.W:=@SL.W
theorem lZ:type_of% @SL.Z:=@SL.Z
theorem lY:type_of% @SL.Y:=@SL.Y
theorem pU:type_of% @SP.U:=@SP.U
theorem pK:type_of% @SP.K:=@SP.K
theorem lM:type_of% @SL.M:=@SL.M
theorem lA:type_of% @SL.A:=@SL.A
theorem gE:type_of% @List.getElem?_eq_getElem:=@List.getElem?_eq_getElem
theorem bE:type_of% @Nat.le_of_ble_eq_true:=@Nat.le_of_ble_eq_true
theorem tL:type_of% @List.take_of_length_le:=@List.take_of_length_le
theorem tS:type_of% @List.take_succ_eq_append_getElem:=@List.take_succ_eq_append_getElem
theorem lR:type_of% @Nat.le_refl:=@Nat.le_refl
theorem gM:type_of% @List.getElem_mem:=@List.getElem_mem
end Go.Sy
namespace Go.Sy
open Go
theorem At.alloc {E:World}{g:PH}{s:Own}{w:World}(h:At E g s w){e:Ent}{o:Obj}(hb:e.blk=some w.heap.size)(he:e.holds (some o)):At E g (e::s) { w with heap:=w.heap.push o }:=by
 have hold:∀ k,k<w.heap.size→(w.heap.push o)[k]?=w.heap[k]?:=fun k hk=>by
  rw[Array.getElem?_push];split
  ·omega
  ·rfl
 have hg:g w.heap.size=none:=by
  cases hg:g w.heap.size with
  | none=>rfl
  | some x=>exact absurd (h.lt hg) (Nat.lt_irrefl _)
 refine⟨h.os,h.tape,h.output,fun b x hx=>?_,fun e' he'=>?_,fun e' he' b hb'=>?_,List.pairwise_cons.2 ⟨fun e' he' b hb1 hb2=>?_,h.apart⟩⟩
 ·show (w.heap.push o)[b]?=some x;rw[hold b (h.lt hx)];exact h.known b x hx
 ·rcases List.mem_cons.1 he' with rfl | he'
  ·simp only[hb,Option.bind_some];simpa using he
  ·have h1:=h.own e' he';cases hbk:e'.blk with
   | none=>simpa [hbk] using h1
   | some b =>
    have:=(h.fresh e' he' b hbk).2;simp only[hbk,Option.bind_some] at h1 ⊢;rw[hold b this];exact h1
 ·rcases List.mem_cons.1 he' with rfl | he'
  ·rw[hb] at hb';cases hb';exact⟨hg,by simp⟩
  ·have:=h.fresh e' he' b hb';exact⟨this.1,by simp; omega⟩
 ·rw[hb] at hb1;cases hb1;exact absurd (h.fresh e' he' _ hb2).2 (Nat.lt_irrefl _)
theorem nh {e e':Ent}:∀ {s:Own} {i:Nat},s.Pairwise qm→s[i]?=some e→(∀ x∈s,qm e x→qm e' x)→(s.set i e').Pairwise qm
 | [],_,_,h,_=>by simp at h
 | x::r,0,hp,h,hk=>by
  simp only[List.getElem?_cons_zero,Option.some.injEq] at h;subst h;obtain ⟨h1,h2⟩:=List.pairwise_cons.1 hp;exact List.pairwise_cons.2 ⟨fun y hy=>hk y (List.mem_cons_of_mem _ hy) (h1 y hy),h2⟩
 | x::r,i+1,hp,h,hk=>by
  simp only[List.getElem?_cons_succ] at h;obtain ⟨h1,h2⟩:=List.pairwise_cons.1 hp;refine List.pairwise_cons.2 ⟨fun y hy=>?_,nh h2 h (fun y hy=>hk y (List.mem_cons_of_mem _ hy))⟩
  rcases List.mem_or_eq_of_mem_set hy with hy | rfl
  ·exact h1 y hy
  ·exact (hk x (by simp) (h1 e (List.mem_of_getElem? h)).symm).symm
theorem At.turn {E:World}{g:PH}{s:Own}{w w':World}{e e':Ent}{i:Nat}(h:At E g s w)(hi:s[i]?=some e)(hos:w'.os=w.os)(htape:w'.tape=w.tape∧w.drawn≤w'.drawn)(hout:w'.output=w.output)
  (hsz:w.heap.size≤w'.heap.size) (hk:∀ k,k<w.heap.size→some k≠e.blk→w'.heap[k]?=w.heap[k]?) (he:e'.holds (e'.blk.bind fun b=>w'.heap[b]?))
  (hb:∀ b,e'.blk=some b→b<w'.heap.size∧(e.blk=some b∨w.heap.size≤b)):At E g (s.set i e') w':=by
 have hem:=List.mem_of_getElem? hi;have hmem:∀ x∈s.set i e',x=e'∨(x∈s∧qm e x):=by
  clear he hb;have hp:=h.apart;clear h hk;induction s generalizing i with
  | nil=>simp at hi
  | cons y r ih =>
   obtain ⟨h1,h2⟩:=List.pairwise_cons.1 hp;cases i with
   | zero =>
    simp only[List.getElem?_cons_zero,Option.some.injEq] at hi;subst hi;intro x hx;simp only[List.set_cons_zero,List.mem_cons] at hx
    rcases hx with rfl | hx
    ·exact .inl I
    ·exact .inr ⟨by simp[hx],h1 x hx⟩
   | succ i =>
    simp only[List.getElem?_cons_succ] at hi;intro x hx;simp only[List.set_cons_succ,List.mem_cons] at hx
    rcases hx with rfl | hx
    ·exact .inr ⟨by simp,(h1 e (List.mem_of_getElem? hi)).symm⟩
    ·rcases ih hi (List.mem_of_getElem? hi) h2 x hx with hx | ⟨hx,ha⟩
     ·exact .inl hx
     ·exact .inr ⟨by simp[hx],ha⟩
 refine⟨hos.trans h.os,⟨htape.1.trans h.tape.1,Nat.le_trans h.tape.2 htape.2⟩,hout.trans h.output,fun b o hg=>?_,fun x hx=>?_,fun x hx b hbx=>?_,nh h.apart hi fun x hx ha b hb1 hb2=>?_⟩
 ·rw[hk b (h.lt hg) (fun hb'=>by rw[(h.fresh e hem b hb'.symm).1] at hg; cases hg)];exact h.known b o hg
 ·rcases hmem x hx with rfl | ⟨hx',ha⟩
  ·exact he
  ·have h1:=h.own x hx';cases hbk:x.blk with
   | none=>simpa [hbk] using h1
   | some b =>
    simp only[hbk,Option.bind_some] at h1 ⊢;rw[hk b (h.fresh x hx' b hbk).2 (fun hb'=>ha b hb'.symm hbk)];exact h1
 ·rcases hmem x hx with rfl | ⟨hx',_⟩
  ·obtain ⟨h1,h2⟩:=hb b hbx;refine⟨?_,h1⟩
   rcases h2 with h2 | h2
   ·exact (h.fresh e hem b h2).1
   ·cases hg:g b with
    | none=>rfl
    | some o=>exact absurd (h.lt hg) (Nat.not_lt.2 h2)
  ·have:=h.fresh x hx' b hbx;exact⟨this.1,Nat.lt_of_lt_of_le this.2 hsz⟩
 ·rcases (hb b hb1).2 with h2 | h2
  ·exact ha b h2 hb2
  ·exact absurd (h.fresh x hx b hb2).2 (Nat.not_lt.2 h2)
section
variable {P:Program}{N:Nat}{E:World}{f:Fr}{g:PH}{s:Own}{dst:Option Tmp}{ty:TypeId}{pos:String}{af:Array Edge}{gd:Option (Nat×Bool)}
theorem SO.of_run {o:Oper}{K:Value→PH→Own→Prop}(h:∀ a w,Ok N f a→At E g s w→∃ v w' g' s',(execOp a.eval o).run P w = .ok (.value v) w'∧At E g' s' w'∧K v g' s'):SO P N E o f g s K:=by
 intro a w ha hw Q next hn;obtain ⟨v,w',g',s',hr,hw',hK⟩:=h a w ha hw;unfold Oper.wp;rw[hr];exact hn v g' s' w' hK hw'
theorem SO.of_skip {o:Oper}{K:Value→PH→Own→Prop}(h:∀ a w,Ok N f a→At E g s w→∃ w' g' s',(execOp a.eval o).run P w = .ok .skip w'∧At E g' s' w'∧K undef g' s'):SO P N E o f g s K:=by
 intro a w ha hw Q next hn;obtain ⟨w',g',s',hr,hw',hK⟩:=h a w ha hw;unfold Oper.wp;rw[hr];exact hn _ g' s' w' hK hw'
theorem SO.alloc {T:TypeId}{z:Value}(hz:∀ w,(zeroValue T).run P w = .ok z w) :
  SO P N E ⟨dst,.alloc T,ty,pos,af,gd⟩ f g s fun v g' s'=>∃ b,v=pp b 0∧g=g'∧s'=pt b (.cells z.cells T (0,0))::s :=
 SO.of_run fun a w _ hw=>⟨pp w.heap.size 0,_,g,_,by simp[execOp,Instr.alloc,hz w,newVar,newRow],hw.alloc (e:=pt w.heap.size (.cells z.cells T (0,0))) rfl rfl,_,rfl,rfl,rfl⟩
theorem SO.box {T:TypeId}{x:Operand}{v:Value}(hx:ev f x=some v) :
  SO P N E ⟨dst,.box T x,ty,pos,af,gd⟩ f g s fun u g' s'=>∃ b,u=pp b 0∧g=g'∧s'=pt b (.cells v.cells T (0,0))::s :=
 SO.of_run fun a w ha hw=>⟨pp w.heap.size 0,_,g,_,by simp[execOp,Instr.box,ha.ev hx,newVar,newRow],hw.alloc (e:=pt w.heap.size (.cells v.cells T (0,0))) rfl rfl,_,rfl,rfl,rfl⟩
def spl (cs:Array Value)(o:Nat)(vs:List Value):Array Value:=(cs.toList.take o++vs++cs.toList.drop (o+vs.length)).toArray
theorem At.setRow {w:World}{b i:Nat}{cs cs':Array Value}{T:TypeId}(h:At E g s w)(hi:s[i]?=some (pt b (.cells cs T (0,0)))):At E g (s.set i (pt b (.cells cs' T (0,0)))) (w.setRow b cs'):=by
 have h1:=h.own _ (List.mem_of_getElem? hi);have h2:=h.fresh _ (List.mem_of_getElem? hi) b rfl;simp only[pt,Option.bind_some] at h1;refine h.turn hi I ⟨I,(by exact lR _)⟩ I (by simp) (fun k _ hk=>setRow_other w b k cs' (fun e=>hk (by simp[pt,e]))) ?_ (fun b' hb'=>?_)
 ·simp only[pt,Option.bind_some];exact setRow_heap w b cs cs' T (0,0) h1
 ·simp only[pt,Option.some.injEq] at hb';subst hb';exact⟨by simpa using h2.2,.inl I⟩
theorem SO.storeAt {T U:TypeId}{x y:Operand}{b o i k:Nat}{cs:Array Value}{v:Value}(hk:∀ w,(sizeOf T).run P w = .ok k w)(hx:ev f x=some (pp b o))(hy:ev f y=some v)(hi:s[i]?=some (pt b (.cells cs U (0,0))))
  (hv:v.cells.size=k) (hl:o+k≤cs.size) (h1:∀ u∈v.cells.toList,u.oneCell'=true) :
  SO P N E ⟨dst,.store T x y,ty,pos,af,gd⟩ f g s fun _ g' s'=>g=g'∧s'=s.set i (pt b (.cells (spl cs o v.cells.toList) U (0,0))) :=
 SO.of_skip fun a w ha hw=>by
  have h2:=hw.own _ (List.mem_of_getElem? hi);simp only[pt,Option.bind_some] at h2;have hst:=run_storeCells_at P b o U v.cells.toList 0 cs w h2 (by simp[hv]; omega) h1;refine⟨_,g,_,?_,hw.setRow (cs':=spl cs o v.cells.toList) hi,I,I⟩;simp[execOp,ha.ev hx,ha.ev hy,Instr.storeAt,Instr.sureAddr,storeVar,hk w,hv,hst,spl]
theorem SO.store1 {T U:TypeId}{x y:Operand}{b o:Nat}{cs:Array Value}{v:Value}(i:Nat)(hk:∀ w,(sizeOf T).run P w = .ok 1 w)(hx:ev f x=some (pp b o))(hy:ev f y=some v)(hi:s[i]?=some (pt b (.cells cs U (0,0))))
  (hv:v.cells = #[v]) (hl:o<cs.size) (h1:v.oneCell'=true) :
  SO P N E ⟨dst,.store T x y,ty,pos,af,gd⟩ f g s fun _ g' s'=>g=g'∧s'=s.set i (pt b (.cells (cs.setIfInBounds o v) U (0,0))):=by
 have:=SO.storeAt (P:=P) (N:=N) (E:=E) (g:=g) (dst:=dst) (ty:=ty) (pos:=pos) (af:=af) (gd:=gd) hk hx hy hi (by rw[hv]; rfl) oM (by rw[hv]; simpa using h1);have he:spl cs o v.cells.toList=cs.setIfInBounds o v:=by
  rw[hv];unfold spl;apply Array.ext';simp only[Array.toList_setIfInBounds];rw[List.set_eq_take_append_cons_drop];simp[hl]
 rwa [he] at this
theorem SO.storeAll {T U:TypeId}{x y:Operand}{b:Nat}{cs:Array Value}{v:Value}(i:Nat)(hk:∀ w,(sizeOf T).run P w = .ok cs.size w)(hx:ev f x=some (pp b 0))(hy:ev f y=some v)(hi:s[i]?=some (pt b (.cells cs U (0,0))))
  (hv:v.cells.size=cs.size) (h1:∀ u∈v.cells.toList,u.oneCell'=true) :
  SO P N E ⟨dst,.store T x y,ty,pos,af,gd⟩ f g s fun _ g' s'=>g=g'∧s'=s.set i (pt b (.cells v.cells U (0,0))):=by
 have:=SO.storeAt (P:=P) (N:=N) (E:=E) (g:=g) (dst:=dst) (ty:=ty) (pos:=pos) (af:=af) (gd:=gd) hk hx hy hi hv oM h1;have he:spl cs 0 v.cells.toList=v.cells:=by
  unfold spl;apply Array.ext';simp[hv]
 rwa [he] at this
def evs (f:Fr):List Operand→Option (List Value)
 | []=>some []
 | x::r=>match ev f x with
  | some v=>match evs f r with
   | some vs=>some (v::vs)
   | none=>none
  | none=>none
theorem Ok.evs {a:Act}(h:Ok N f a):∀ {l:List Operand} {vs:List Value},Sy.evs f l=some vs→l.map a.eval=vs
 | [],vs,hv=>by simp only[Sy.evs,Option.some.injEq] at hv; subst hv; rfl
 | x::r,vs,hv=>by
  simp only[Sy.evs] at hv;split at hv
  ·rename_i v hx;split at hv
   ·rename_i vs' hr;simp only[Option.some.injEq] at hv;subst hv;simp[h.ev hx,Ok.evs h hr]
   ·cases hv
  ·cases hv
theorem SU.mkFunc {n:FuncId}{l:List Operand}{vs:List Value}(hl:evs f l=some vs):SU P N ⟨dst,.makeFunc (.func n) #[] l.toArray,ty,pos,af,gd⟩ f (.func (.func n) #[] vs.toArray) :=
 SU.makeFunc fun a ha=>by simp[ha.evs hl]
def cI (P:Program)(E:World)(v:Value)(args:List Value)(g:PH)(s:Own)(R:Value→PH→Own→Prop):Prop :=
 ∃ n cap,v = .func (.func n) #[] cap∧(∀ args w,(callFunc n args).run P w = .ok (.enter n args) w)∧Ctr P E n (args.toArray++cap) g s R
theorem SO.callV {x:Operand}{l:List Operand}{tys:Array TypeId}{v:Value}{vs:List Value}{R:Value→PH→Own→Prop}(hx:ev f x=some v)(hl:evs f l=some vs)(hc:cI P E v vs g s R) :
  SO P N E ⟨dst,.call ⟨.value x,l.toArray,tys⟩,ty,pos,af,gd⟩ f g s R:=by
 intro a w ha hw Q next hn;obtain ⟨n,cap,rfl,hcall,hfn⟩:=hc;unfold Oper.wp;have hr:(execOp a.eval ⟨dst,.call ⟨.value x,l.toArray,tys⟩,ty,pos,af,gd⟩).run P w = .ok (.enter n (vs.toArray++cap)) w:=by
  simp[execOp,resolve,ha.ev hx,Deferred.ofValue,invoke,hcall,ha.evs hl]
 rw[hr];refine (hfn w hw).mono fun e w' he=>?_;obtain ⟨u,g',s',rfl,hw',hR⟩:=he;exact hn u g' s' w' hR hw'
theorem SO.call {n:FuncId}{l:List Operand}{tys:Array TypeId}{vs:List Value}{R:Value→PH→Own→Prop}(hcall:∀ args w,(callFunc n args).run P w = .ok (.enter n args) w)(hl:evs f l=some vs)(hc:Ctr P E n vs.toArray g s R) :
  SO P N E ⟨dst,.call ⟨.value (.func n),l.toArray,tys⟩,ty,pos,af,gd⟩ f g s R :=
 SO.callV rfl hl ⟨n,#[],rfl,hcall,by simpa using hc⟩
theorem cI.mk {n:FuncId}{args cap:List Value}{R:Value→PH→Own→Prop}(hcall:∀ args w,(callFunc n args).run P w = .ok (.enter n args) w)(hf:Ctr P E n (args++cap).toArray g s R) :
  cI P E (.func (.func n) #[] cap.toArray) args g s R:=⟨n,cap.toArray,rfl,hcall,by simpa using hf⟩
end
section
variable {P:Program}{N:Nat}{E:World}{fn:Func}{R:Value→PH→Own→Prop}{e:Exit}{f:Fr}{g:PH}{s:Own}
theorem eE {w:World}{T U:TypeId}{b i:Nat}{cs:Array Value}{fr:Nat×Nat}(hw:At E g s w)(hT:∀ w,(isAgg T).run P w = .ok true w)(hk:∀ w,(sizeOf T).run P w = .ok cs.size w)(hs:s[i]?=some (pt b (.cells cs U fr))) :
  (Go.loadVar T ⟨b,0,none⟩).run P w = .ok (.agg cs) w:=by
 have:=cz (P:=P) (w:=w) (b:=b) (o:=0) cs.size 0 cs.toList #[] (by simp) (fun j y hy=>by
  have:=cO (g:=g) (o:=0+(0+j)) i hs (v:=y) (by simpa using hy);exact this E w hw)
 simp[Go.loadVar,hT w,hk w,loadCells,this]
end
section
variable {P:Program}{N:Nat}{E:World}{ops:Array Oper}{Q:Exit→Act→World→Prop}{f:Fr}{g:PH}{s:Own}{rest:List Oper}{d:Nat}{op:Op}{ty:TypeId}{pos:String}{af:Array Edge}
theorem SL.bx {o:Obj}(ho:SO P N E ⟨some d,op,ty,pos,af,none⟩ f g s fun u g' s'=>∃ b,u=pp b 0∧g=g'∧s'=pt b o::s)(h:∀ b,SL P N E ops Q rest ((d,pp b 0)::f) g (pt b o::s))(hd:d<N:=by decide):SL P N E ops Q (⟨some d,op,ty,pos,af,none⟩::rest) f g s:=SL.o ho hd (by rintro _ _ _ ⟨b,rfl,rfl,rfl⟩; exact h b)
theorem SL.O2 {S:Own}(ho:SO P N E ⟨none,op,ty,pos,af,none⟩ f g s fun _ g' s'=>g=g'∧s'=S)(h:SL P N E ops Q rest f g S):SL P N E ops Q (⟨none,op,ty,pos,af,none⟩::rest) f g s:=SL.on ho (by rintro _ _ _ ⟨rfl,rfl⟩; exact h)
theorem SL.nT {c:Code}(h:SC P N E c Q f g s):SL P N E ops (Exit.then (c.wp P Q) Q) [] f g s:=SL.nil (ST.thenN h)
theorem SL.AT {x:Operand}{v:Value}{c:Code}(hx:ev f x=some v)(h:SC P N E c Q ((d,v)::f) g s)(hd:d<N:=by decide):SL P N E ops (Exit.then (c.wp P Q) Q) [⟨some d,.assign x,ty,pos,af,none⟩] f g s:=SL.A hx (SL.nT h) hd
theorem SC.sR {id:Nat}{l:List Oper}{y:Code}(h:SL P N E l.toArray (Exit.then (y.wp P Q) Q) l f g s):SC P N E (.seq (.region id l.toArray false) y) Q f g s:=SC.seq (SC.region h)
theorem SC.sM {id:Nat}{l:List Oper}{x:Operand}{v:Value}{y:Code}(hx:ev f x=some v)(h:SL P N E (⟨some d,.move x,ty,pos,af,none⟩::l).toArray (Exit.then (y.wp P Q) Q) l ((d,v)::f) g s)(hd:d<N:=by decide):SC P N E (.seq (.region id (⟨some d,.move x,ty,pos,af,none⟩::l).toArray false) y) Q f g s:=SC.sR (SL.M hx h hd)
end
section
variable {P:Program}{N:Nat}{E:World}{ops:Array Oper}{Q:Exit→Act→World→Prop}{f:Fr}{g:PH}{s:Own}{rest:List Oper}{d:Nat}{op:Op}{ty:TypeId}{pos:String}{af:Array Edge}{v:Value}{g0:PH}{s0:Own}{tail:List Nat}{plan:List (Nat×Nat)}{i j t:Nat}{b:Bool}{c x y:Operand}{m n:Int}{k:IntKind}{T U:TypeId}
theorem SL.za (h:(((ops[j]?).bind fun o:Oper=>o.dst),bk f t)=(some t,some (.bool (!b))))(h2:SL P N E ops Q rest ((d,undef)::f) g s)(ht:t<N:=by decide)(hd:d<N:=by decide):SL P N E ops Q (⟨some d,op,ty,pos,af,some (j,b)⟩::rest) f g s:=by
 simp only[Prod.mk.injEq] at h; exact lZ I h.1 h.2 h2 ht hd
theorem SL.zb (h:(((ops[j]?).bind fun o:Oper=>o.dst),bk f t)=(some t,some undef))(h2:SL P N E ops Q rest ((d,undef)::f) g s)(ht:t<N:=by decide)(hd:d<N:=by decide):SL P N E ops Q (⟨some d,op,ty,pos,af,some (j,b)⟩::rest) f g s:=by
 simp only[Prod.mk.injEq] at h; exact SL.off (Gd.off I h.1 h.2 ht) hd h2
theorem SL.yc (h:(((ops[j]?).bind fun o:Oper=>o.dst),bk f t,ev f x)=(some t,some (.bool b),some v))(h2:SL P N E ops Q rest ((d,v)::f) g s)(ht:t<N:=by decide)(hd:d<N:=by decide):SL P N E ops Q (⟨some d,.move x,ty,pos,af,some (j,b)⟩::rest) f g s:=by
 simp only[Prod.mk.injEq] at h; exact lY I h.1 h.2.1 (mV h.2.2) h2 ht hd
theorem SL.ad (h:(ev f x,ev f y)=(some (vi m),some (vi n)))(h2:SL P N E ops Q rest ((d,vi (m+n))::f) g s)(hr : -9223372036854775808≤m+n∧m+n≤9223372036854775807:=by omega)(hd:d<N:=by decide):SL P N E ops Q (⟨some d,.binOp .add T x y U,ty,pos,af,none⟩::rest) f g s:=by
 simp only[Prod.mk.injEq] at h; exact lU (aD h.1 h.2 hr) h2 hd
theorem SL.ls (h:(ev f x,ev f y)=(some (.int k m),some (.int k n)))(h2:SL P N E ops Q rest ((d,.bool (decide (m<n)))::f) g s)(hd:d<N:=by decide):SL P N E ops Q (⟨some d,.binOp .lss T x y U,ty,pos,af,none⟩::rest) f g s:=by
 simp only[Prod.mk.injEq] at h; exact lU (lS h.1 h.2) h2 hd
theorem SL.ql (h:(ev f x,ev f y)=(some (.int k m),some (.int k n)))(h2:SL P N E ops Q rest ((d,.bool (decide (m=n)))::f) g s)(hd:d<N:=by decide):SL P N E ops Q (⟨some d,.binOp .eql T x y U,ty,pos,af,none⟩::rest) f g s:=by
 simp only[Prod.mk.injEq] at h; exact lU (eQ h.1 h.2) h2 hd
theorem SL.kp (h:(ev f c,ev f x)=(some (.bool true),some v))(h2:SL P N E ops Q rest ((d,v)::f) g s)(hd:d<N:=by decide):SL P N E ops Q (⟨some d,.pick c x y,ty,pos,af,none⟩::rest) f g s:=by
 simp only[Prod.mk.injEq] at h; exact lU (wT h.1 h.2) h2 hd
theorem SL.pf (h:(ev f c,ev f y)=(some (.bool false),some v))(h2:SL P N E ops Q rest ((d,v)::f) g s)(hd:d<N:=by decide):SL P N E ops Q (⟨some d,.pick c x y,ty,pos,af,none⟩::rest) f g s:=by
 simp only[Prod.mk.injEq] at h; exact lU (wF h.1 h.2) h2 hd
theorem SL.xt {vs:Array Value}(h:(ev f x,vs[i]?)=(some (.tuple vs),some v))(h2:SL P N E ops Q rest ((d,v)::f) g s)(hd:d<N:=by decide):SL P N E ops Q (⟨some d,.extract x i,ty,pos,af,none⟩::rest) f g s:=by
 simp only[Prod.mk.injEq] at h; exact lU (xT h.1 h.2) h2 hd
theorem SP.mv [Quiet Q](h:(ops[i]?,ev f x)=(some ⟨some d,.move x,ty,pos,af,none⟩,some v))(h2:SP P N E ops Q g0 s0 tail plan ((d,v)::f) g s)(hd:d<N:=by decide):SP P N E ops Q g0 s0 tail ((i,2)::plan) f g s:=by
 simp only[Prod.mk.injEq] at h; exact pU h.1 (mV h.2) h2 hd
theorem SP.za [Quiet Q](h:(ops[i]?,((ops[j]?).bind fun o:Oper=>o.dst),bk f t)=(some ⟨some d,op,ty,pos,af,some (j,b)⟩,some t,some (.bool (!b))))(h2:SP P N E ops Q g0 s0 tail plan ((d,undef)::f) g s)(ht:t<N:=by decide)(hd:d<N:=by decide):SP P N E ops Q g0 s0 tail ((i,2)::plan) f g s:=by
 simp only[Prod.mk.injEq] at h; exact fP h.1 (gZ I h.2.1 h.2.2 ht) hd h2
theorem SP.zb [Quiet Q](h:(ops[i]?,((ops[j]?).bind fun o:Oper=>o.dst),bk f t)=(some ⟨some d,op,ty,pos,af,some (j,b)⟩,some t,some undef))(h2:SP P N E ops Q g0 s0 tail plan ((d,undef)::f) g s)(ht:t<N:=by decide)(hd:d<N:=by decide):SP P N E ops Q g0 s0 tail ((i,2)::plan) f g s:=by
 simp only[Prod.mk.injEq] at h; exact fP h.1 (Gd.off I h.2.1 h.2.2 ht) hd h2
theorem SP.zc [Quiet Q](h:(ops[i]?,((ops[j]?).bind fun o:Oper=>o.dst),bk f t)=(some ⟨some d,op,ty,pos,af,some (j,b)⟩,some t,some (.bool (!b))))(h2:SP P N E ops Q g0 s0 tail plan ((d,undef)::f) g s)(ht:t<N:=by decide)(hd:d<N:=by decide):SP P N E ops Q g0 s0 tail ((i,1)::plan) f g s:=by
 simp only[Prod.mk.injEq] at h; exact SP.off1 h.1 (gZ I h.2.1 h.2.2 ht) hd h2
theorem SP.yc [Quiet Q](h:(ops[i]?,((ops[j]?).bind fun o:Oper=>o.dst),bk f t,ev f x)=(some ⟨some d,.move x,ty,pos,af,some (j,b)⟩,some t,some (.bool b),some v))(h2:SP P N E ops Q g0 s0 tail plan ((d,v)::f) g s)(ht:t<N:=by decide)(hd:d<N:=by decide):SP P N E ops Q g0 s0 tail ((i,2)::plan) f g s:=by
 simp only[Prod.mk.injEq] at h; exact SP.gu h.1 (gT I h.2.1 h.2.2.1 ht) (mV h.2.2.2) hd h2
end
theorem aL:type_of% @SO.alloc:=@SO.alloc
theorem bO:type_of% @SO.box:=@SO.box
theorem cL:type_of% @SO.call:=@SO.call
theorem bW:type_of% @SL.bx:=@SL.bx
theorem oZ:type_of% @SL.O2:=@SL.O2
theorem tZ:type_of% @SL.nT:=@SL.nT
theorem aT:type_of% @SL.AT:=@SL.AT
theorem rZ:type_of% @SC.sR:=@SC.sR
theorem sW:type_of% @SC.sM:=@SC.sM
theorem yA:type_of% @SL.za:=@SL.za
theorem yB:type_of% @SL.zb:=@SL.zb
theorem yC:type_of% @SL.yc:=@SL.yc
theorem yD:type_of% @SL.ad:=@SL.ad
theorem yL:type_of% @SL.ls:=@SL.ls
theorem yE:type_of% @SL.ql:=@SL.ql
theorem yP:type_of% @SL.kp:=@SL.kp
theorem yF:type_of% @SL.pf:=@SL.pf
theorem yX:type_of% @SL.xt:=@SL.xt
theorem yM:type_of% @SP.mv:=@SP.mv
theorem yG:type_of% @SP.za:=@SP.za
theorem yH:type_of% @SP.zb:=@SP.zb
theorem yI:type_of% @SP.zc:=@SP.zc
theorem yJ:type_of% @SP.yc:=@SP.yc
end Go.Sy
namespace Go.Sy
open Go
structure STy (P:Program)(t e:TypeId)(k bytes:Nat)(z:Value):Prop where
 und:P.underlying t=some (.slice e)
 info:∃ i,P.info? e=some i∧i.zero=some z∧i.size=k∧i.bytes=bytes
 zs:z.cells.size=k
 pos:0<k
theorem STy.size {P:Program}{t e:TypeId}{k bytes:Nat}{z:Value}(h:STy P t e k bytes z)(w:World):(sizeOf e).run P w = .ok k w:=by
 obtain ⟨i,h1,_,h3,_⟩:=h.info;simp[sizeOf,typeInfo,h1,h3]
theorem STy.zero {P:Program}{t e:TypeId}{k bytes:Nat}{z:Value}(h:STy P t e k bytes z)(w:World):(zeroValue e).run P w = .ok z w:=by
 obtain ⟨i,h1,h2,_,_⟩:=h.info;simp[zeroValue,typeInfo,h1,h2]
def nU:Value→Option Nat
 | .slice (some a) _ (_+1)=>some a.block
 | _=>none
def row (T:TypeId)(k:Nat)(v:Value)(n:Nat)(xs:List Value):Ent :=
 ⟨nU v,fun oo=>xs.length=n * k∧((∃ p,v = .slice p 0 0∧n=0) ∨
  ∃ b cap cur,v = .slice (some ⟨b,0,none⟩) n (cap+1)∧oo=some (.cells cur T (0,0))∧n≤cap+1∧cap+1≤maxLen∧cur.size=(cap+1) * k∧cur.toList.take (n * k)=xs)⟩
theorem ge {E:World}{g:PH}{s:Own}{w:World}{T:TypeId}{k n i:Nat}{v:Value}{xs:List Value}(h:At E g s w)(hi:s[i]?=some (row T k v n xs)):xs.length=n * k∧((∃ p,v = .slice p 0 0∧n=0) ∨
  ∃ b cap cur,v = .slice (some ⟨b,0,none⟩) n (cap+1)∧w.heap[b]?=some (.cells cur T (0,0))∧n≤cap+1∧cap+1≤maxLen∧cur.size=(cap+1) * k∧cur.toList.take (n * k)=xs):=by
 obtain ⟨h1,h2⟩:=h.own _ (List.mem_of_getElem? hi);refine⟨h1,?_⟩
 rcases h2 with h2 | ⟨b,cap,cur,rfl,ho,h3⟩
 ·exact .inl h2
 ·refine .inr ⟨b,cap,cur,I,?_,h3⟩;simpa [row,nU] using ho
theorem dN {w:World}{T:TypeId}{k n b cap:Nat}{xs:List Value}{cur:Array Value}(h1:xs.length=n * k)(hb:w.heap[b]?=some (.cells cur T (0,0)))(hn:n≤cap+1)(hc:cap+1≤maxLen)(hs:cur.size=(cap+1) * k)(ht:cur.toList.take (n * k)=xs) :
  (row T k (.slice (some ⟨b,0,none⟩) n (cap+1)) n xs).holds ((row T k (.slice (some ⟨b,0,none⟩) n (cap+1)) n xs).blk.bind fun b=>w.heap[b]?) :=
 ⟨h1,.inr ⟨b,cap,cur,rfl,by simpa [row,nU] using hb,hn,hc,hs,ht⟩⟩
theorem DM {E:World}{g:PH}{s:Own}{w:World}{T:TypeId}{k n i:Nat}{v:Value}{xs:List Value}(h:At E g s w)(hi:s[i]?=some (row T k v n xs)):(∃ p c,v = .slice p n c)∧xs.length=n * k:=by
 obtain ⟨h1,h2⟩:=ge h hi;refine⟨?_,h1⟩
 rcases h2 with ⟨p,rfl,rfl⟩ | ⟨b,cap,cur,rfl,_⟩
 ·exact⟨_,_,I⟩
 ·exact⟨_,_,I⟩
section
variable {P:Program}{N:Nat}{E:World}{ops:Array Oper}{Q:Exit→Act→World→Prop}{f:Fr}{g:PH}{s:Own}{dst:Option Tmp}{ty:TypeId}{pos:String}{af:Array Edge}{gd:Option (Nat×Bool)}
theorem At.emptyRow {w:World}(h:At E g s w)(T:TypeId)(k:Nat)(p:Option Addr):At E g (row T k (.slice p 0 0) 0 []::s) w:=by
 have hr:nU (.slice p 0 0)=none:=by cases p <;> rfl
 refine⟨h.os,h.tape,h.output,h.known,fun e he=>?_,fun e he b hb=>?_,List.pairwise_cons.2 ⟨fun e _ b hb=>by simp[row,hr] at hb,h.apart⟩⟩
 ·rcases List.mem_cons.1 he with rfl | he
  ·exact⟨by simp,.inl ⟨p,I,I⟩⟩
  ·exact h.own e he
 ·rcases List.mem_cons.1 he with rfl | he
  ·simp[row,hr] at hb
  ·exact h.fresh e he b hb
theorem At.nilRow {w:World}(h:At E g s w)(T:TypeId)(k:Nat):At E g (row T k (.slice none 0 0) 0 []::s) w:=h.emptyRow T k none
theorem SL.emptyRow {l:List Oper}(T:TypeId)(k:Nat)(p:Option Addr)(h:SL P N E ops Q l f g (row T k (.slice p 0 0) 0 []::s)):SL P N E ops Q l f g s:=fun a w ha hw=>h a w ha (hw.emptyRow T k p)
theorem SC.nilRow {c:Code}(T:TypeId)(k:Nat)(h:SC P N E c Q f g (row T k (.slice none 0 0) 0 []::s)):SC P N E c Q f g s:=fun a w ha hw=>h a w ha (hw.nilRow T k)
theorem ST.nilRow {e:Exit}(T:TypeId)(k:Nat)(h:ST N E Q e f g (row T k (.slice none 0 0) 0 []::s)):ST N E Q e f g s:=fun a w ha hw=>h a w ha (hw.nilRow T k)
theorem Rd.row {T:TypeId}{k n:Nat}{v:Value}{xs:List Value}(i:Nat)(hi:s[i]?=some (row T k v n xs)):Rd g s v xs:=by
 intro E w hw j x hj;obtain ⟨hlen,h1⟩:=ge hw hi
 rcases h1 with ⟨p,rfl,hn⟩ | ⟨b,cap,cur,rfl,hb,_,_,_,ht⟩
 ·subst hn;have:xs=[]:=List.eq_nil_of_length_eq_zero (by simpa using hlen);subst this;simp at hj
 ·refine⟨⟨b,0,none⟩,n,cap+1,I,I,?_⟩;rw[← ht,List.getElem?_take] at hj;split at hj
  ·simp[World.cell?,hb];simpa using hj
  ·cases hj
theorem SC.facts {c:Code}(h:(∃ w,At E g s w)→SC P N E c Q f g s):SC P N E c Q f g s:=fun a w ha hw=>h ⟨w,hw⟩ a w ha hw
theorem SL.facts {l:List Oper}(h:(∃ w,At E g s w)→SL P N E ops Q l f g s):SL P N E ops Q l f g s:=fun a w ha hw=>h ⟨w,hw⟩ a w ha hw
theorem SP.facts {g0:PH}{s0:Own}{tail:List Nat}{plan:List (Nat×Nat)}(h:(∃ w,At E g s w)→SP P N E ops Q g0 s0 tail plan f g s):SP P N E ops Q g0 s0 tail plan f g s :=
 fun L a w h1 hcl h2 ha hw hb=>h ⟨w,hw⟩ L a w h1 hcl h2 ha hw hb
theorem At.newRow {w w':World}{T:TypeId}{k n i cap:Nat}{v:Value}{xs ys:List Value}{zs:List Value}{m:Nat}(h:At E g s w)(hi:s[i]?=some (row T k v n xs))(hw':w'=w.drew.alloc (.cells (xs.toArray++ys.toArray++zs.toArray) T))
  (hx:xs.length=n * k) (hy:ys.length=m * k) (hc:n+m≤cap) (hpos:0<n+m) (hcm:cap≤maxLen) (hz:zs.length=(cap - (n+m)) * k) :
  At E g (s.set i (row T k (.slice (some ⟨w.heap.size,0,none⟩) (n+m) cap) (n+m) (xs++ys))) w':=by
 subst hw';obtain ⟨cap,rfl⟩:∃ c,cap=c+1:=⟨cap - 1,oM⟩;have hnew:(w.drew.alloc (.cells (xs.toArray++ys.toArray++zs.toArray) T)).heap[w.heap.size]?=some (.cells (xs.toArray++ys.toArray++zs.toArray) T (0,0)):=heap_alloc_new w.drew _;refine h.turn hi I ⟨I,(by exact Nat.le_add_right _ _)⟩ I (by simp) (fun k hk _=>heap_alloc_old w.drew _ k hk) (dN (by simp[hx,hy,Nat.add_mul]) hnew hc hcm ?_ ?_) (fun b hb=>?_)
 ·simp only[Array.size_append,List.size_toArray,hx,hy,hz,← Nat.add_mul];congr 1;omega
 ·have:(n+m) * k=(xs++ys).length:=by simp[hx,hy,Nat.add_mul]
  rw[this];simp only[Array.toList_append,List.append_assoc];rw[← List.append_assoc];exact List.take_left
 ·simp only[row,nU,Option.some.injEq] at hb;subst hb;exact⟨by simp,.inr (lR _)⟩
theorem SO.append {x y:Operand}{t e:TypeId}{k bytes n m:Nat}{z v u:Value}{xs ys:List Value}(i:Nat)(hT:STy P t e k bytes z)(hx:ev f x=some v)(hi:s[i]?=some (row e k v n xs))(hy:ev f y=some u)
  (hu:isSl u=true) (hm:slen u=m) (hr:Rd g s u ys) (hl:ys.length=m * k) (h1:∀ q∈ys,q.oneCell'=true) (hb:(n+m) * bytes≤140737488355328) (hlen:n+m≤4611686018427387904) :
  SO P N E ⟨dst,.call ⟨.builtin .append,#[x,y],#[t,t]⟩,ty,pos,af,gd⟩ f g s fun v' g' s'=>g=g'∧s'=s.set i (row e k v' (n+m) (xs++ys)) :=
 SO.of_run fun a w ha hw=>by
  obtain ⟨hxl,hform⟩:=ge hw hi;obtain ⟨ti,ht1,ht2,ht3,ht4⟩:=hT.info;have hset:s.set i (row e k v n xs)=s:=by
   apply List.ext_getElem?;intro q;rw[List.getElem?_set];split
   ·rename_i e1; subst e1;split
    ·exact hi.symm
    ·rename_i h2; simp at h2; rw[List.getElem?_eq_none oM]
   ·rfl
  have key:∃ v' w',(Builtin.append_ #[t,t] ty #[v,u]).run P w = .ok v' w'∧At E g (s.set i (row e k v' (n+m) (xs++ys))) w':=by
   cases u <;> simp[isSl] at hu
   rename_i p m' c;simp only[slen] at hm;subst hm;have hnil:ys=[]→m'=0:=fun e=>by
    rw[e] at hl;have:=hT.pos
    rcases Nat.mul_eq_zero.1 hl.symm with h | h <;> omega
   have h0:m'=0→ys=[]:=fun e=>List.eq_nil_of_length_eq_zero (by rw[hl,e]; simp)
   -- nothing is appended
   by_cases hm0:m'=0
   ·have hy0:=h0 hm0;subst hm0;subst hy0;refine⟨v,w,?_,by simpa [hset] using hw⟩
    rcases hform with ⟨q,rfl,rfl⟩ | ⟨b,cap,cur,rfl,_,hle,_⟩
    ·cases p <;> cases q <;> simp[Builtin.append_,run_underlying hT.und,hT.size w,Builtin.lenOf,Builtin.firstCells,loadCells,loadCellsFrom,storeCells]
    ·cases p <;> simp[Builtin.append_,run_underlying hT.und,hT.size w,Builtin.lenOf,hle,Builtin.firstCells,loadCells,loadCellsFrom,storeCells]
   ·have hne:ys≠[]:=fun e=>hm0 (hnil e);obtain ⟨y0,hy0⟩:∃ y0,ys[0]?=some y0:=by
     cases ys with
     | nil=>exact absurd rfl hne
     | cons y r=>exact⟨y,rfl⟩
    obtain ⟨ad,_,_,he,hsp,_⟩:=hr E w hw 0 y0 hy0;cases he;have hcells:∀ j q,ys[j]?=some q→w.cell? (ad.add j)=some q:=fun j q hq=>by
     obtain ⟨a',_,_,he,_,hc⟩:=hr E w hw j q hq;cases he;have hadd:ad.add j=⟨ad.block,ad.off+j,none⟩:=by
      obtain ⟨b1,o1,s1⟩:=ad;simp only at hsp;subst hsp;unfold Addr.add;split <;> simp_all
     rw[hadd];exact hc
    have hbb:m' * bytes≤140737488355328:=Nat.le_trans (Nat.mul_le_mul_right _ oM) hb;have hzs:∀ c,(Builtin.zeroCells z.cells c).toList.length=c * k:=fun c=>by simp[size_zeroCells,hT.zs]
    rcases hform with ⟨q,rfl,rfl⟩ | ⟨b,cap,cur,rfl,hg,hle,hcm,hcs,htake⟩
    ·have hx0:xs=[]:=List.eq_nil_of_length_eq_zero (by simpa using hxl);subst hx0;have hge:=grownCap_ge w (0+m') 0 e;have hcm:=grownCap_le_maxLen w (0+m') 0 e (by unfold maxLen; omega);cases q with
     | none =>
      have h5:=run_append_nil (P:=P) w t ty e ti z hT.und ht1 ht2 ad m' c ys (by rw[ht3]; exact hl) hcells oM oM (by rw[ht4]; omega);have h6:=hw.newRow (zs:=(Builtin.zeroCells z.cells (grownCap w (0+m') 0 e - (0+m'))).toList) hi rfl hxl hl hge oM hcm (by rw[hzs]);refine⟨_,_,h5,?_⟩;simpa using h6
     | some q =>
      have h5:=run_append_grow (P:=P) w t ty e ti z hT.und ht1 ht2 q 0 0 [] (by simp) (by simp) ad m' c ys (by rw[ht3]; exact hl) hcells oM oM (by rw[ht4]; exact growslice_fits oM (by simpa using hbb));have h6:=hw.newRow (zs:=(Builtin.zeroCells z.cells (grownCap w (0+m') 0 e - (0+m'))).toList) hi rfl hxl hl hge oM hcm (by rw[hzs]);refine⟨_,_,h5,?_⟩;simpa using h6
    ·by_cases hroom:n+m'≤cap+1
     ·have h5:=run_append_room (P:=P) w t ty e ti hT.und ht1 b n (cap+1) cur hg ad m' c ys (by rw[ht3]; exact hl) hcells h1 hroom (by rw[hl,hcs,ht3,← Nat.add_mul]; exact Nat.mul_le_mul_right _ hroom);refine⟨_,_,h5,?_⟩;have hlen2:n * k+ys.length≤cur.size:=by rw[hl,hcs,← Nat.add_mul]; exact Nat.mul_le_mul_right _ hroom
      have hfr:=hw.fresh _ (List.mem_of_getElem? hi) b rfl;refine hw.turn hi I ⟨I,(by exact lR _)⟩ I (by simp) (fun k' _ hk'=>setRow_other w b k' _ (fun e1=>hk' (by simp[row,nU,e1]))) (dN (by simp[hxl,hl,Nat.add_mul]) (setRow_heap w b cur _ e _ hg) hroom hcm ?_ ?_) (fun b' hb'=>?_)
      ·rw[ht3];simp only[List.size_toArray,List.length_append,List.length_take,List.length_drop,Array.length_toList];omega
      ·rw[ht3,htake];have:(n+m') * k=(xs++ys).length:=by simp[hxl,hl,Nat.add_mul]
       rw[this];exact List.take_left
      ·simp only[row,nU,Option.some.injEq] at hb';subst hb';exact⟨by simpa using hfr.2,.inl I⟩
     ·have holds:∀ j q,xs[j]?=some q→w.cell? ((⟨b,0,none⟩:Addr).add j)=some q:=fun j q hq=>by
       have hadd:(⟨b,0,none⟩:Addr).add j=⟨b,j,none⟩:=by unfold Addr.add; split <;> simp_all
       rw[← htake,List.getElem?_take] at hq;split at hq
       ·rw[hadd]; simp[World.cell?,hg]; simpa using hq
       ·cases hq
      have hge:=grownCap_ge w (n+m') (cap+1) e;have hcm':=grownCap_le_maxLen w (n+m') (cap+1) e (by unfold maxLen; omega);have h5:=run_append_grow (P:=P) w t ty e ti z hT.und ht1 ht2 ⟨b,0,none⟩ n (cap+1) xs (by rw[ht3]; exact hxl) holds ad m' c ys (by rw[ht3]; exact hl) hcells oM oM (by rw[ht4]; exact growslice_fits oM hb);have h6:=hw.newRow (zs:=(Builtin.zeroCells z.cells (grownCap w (n+m') (cap+1) e - (n+m'))).toList) hi rfl hxl hl hge oM hcm' (by rw[hzs]);refine⟨_,_,h5,?_⟩;simpa using h6
  obtain ⟨v',w',hr1,hr2⟩:=key;refine⟨v',w',g,_,?_,hr2,I,I⟩;simp[execOp,resolve,invoke,builtin,ha.ev hx,ha.ev hy,hr1]
end
theorem yg:∀ (l:List Value) (m off:Nat) (cs:List Value),off+m+l.length≤cs.length →
  ((l.zipIdx m).foldl (fun (a:Array Value) p=>a.setIfInBounds (off+p.2) p.1) cs.toArray)=(cs.take (off+m)++l++cs.drop (off+m+l.length)).toArray
 | [],m,off,cs,_=>by simp
 | x::r,m,off,cs,h=>by
  simp only[List.zipIdx_cons,List.foldl_cons,List.setIfInBounds_toArray];have hlen:off+(m+1)+r.length≤(cs.set (off+m) x).length:=by simp at h ⊢; omega
  rw[yg r (m+1) off (cs.set (off+m) x) hlen];have hlt:off+m<cs.length:=by simp at h; omega
  congr 1;rw[← Nat.add_assoc];rw[tS (by simpa using hlt)];simp only[List.getElem_set_self,List.take_set_of_le (lR _)];rw[List.drop_set_of_lt oM];simp only[List.append_assoc,List.cons_append,List.nil_append,List.length_cons];rw[show off+m+1+r.length=off+m+(r.length+1) by omega]
theorem yo (k:Nat):∀ (vs:List Value) (i:Nat) (cs:List Value),(∀ v∈vs,v.cells.size=k)→cs.length=(i+vs.length) * k →
  Instr.fill (fun i=>some (i * k,k)) cs.toArray ((vs.zipIdx i).map fun p=>(p.2,p.1))=some (cs.take (i * k)++vs.flatMap fun v=>v.cells.toList).toArray
 | [],i,cs,_,hl=>by
  simp only[List.zipIdx_nil,List.map_nil,Instr.fill,List.flatMap_nil,List.append_nil];rw[tL (by simp at hl; omega)]
 | v::r,i,cs,hv,hl=>by
  have hk:=hv v (by simp);have hle:i * k+k≤cs.length:=by rw[hl,← Nat.succ_mul]; exact Nat.mul_le_mul_right k (by simp)
  simp only[List.zipIdx_cons,List.map_cons,Instr.fill];rw[if_neg (by simp[hk]; omega)];have hf:v.cells.zipIdx.foldl (fun cs (c,j)=>cs.setIfInBounds (i * k+j) c) cs.toArray=(cs.take (i * k)++v.cells.toList++cs.drop (i * k+k)).toArray:=by
   have:=yg v.cells.toList 0 (i * k) cs (by simp[hk]; omega);rw[← Array.foldl_toList,Array.toList_zipIdx];simpa [hk] using this
  rw[hf];have hlen2:(cs.take (i * k)++v.cells.toList++cs.drop (i * k+k)).length=(i+1+r.length) * k:=by
   simp[hk];rw[Nat.min_eq_left oM];rw[hl] at hle ⊢;simp only[List.length_cons] at *;rw[show i+(r.length+1)=i+1+r.length by omega] at *;omega
  rw[yo k r (i+1) _ (fun u hu=>hv u (by simp[hu])) hlen2];congr 2;have hlen3:(cs.take (i * k)++v.cells.toList).length=(i+1) * k:=by simp[hk,Nat.succ_mul,Nat.min_eq_left (show i * k≤cs.length by omega)]
  rw[List.take_append_of_le_length (Nat.le_of_eq hlen3.symm),tL (Nat.le_of_eq hlen3)];simp
theorem qE {P:Program}{w:World}{t e:TypeId}{k bytes:Nat}{z:Value}(hT:STy P t e k bytes z)(vs:List Value)(hv:∀ v∈vs,v.cells.size=k)(hb:vs.length * k≤16777216) :
  (Instr.buildSlice t vs.length ((vs.zipIdx).map fun p=>(p.2,p.1)).toArray).run P w = .ok (.slice (some ⟨w.heap.size,0,none⟩) vs.length vs.length) { w with heap:=w.heap.push (.cells (vs.flatMap fun v=>v.cells.toList).toArray e (0,0)) }:=by
 have hz:∀ (zs:Array Value),Instr.fill (fun i=>some (i * k,k)) ((Array.range (vs.length * k)).map (zs[· % zs.size]!)) ((vs.zipIdx).map fun p=>(p.2,p.1))=some (vs.flatMap fun v=>v.cells.toList).toArray:=by
  intro zs;have:=yo k vs 0 ((Array.range (vs.length * k)).map (zs[· % zs.size]!)).toList hv (by simp);simp only[Array.toArray_toList,Nat.zero_mul,List.take_zero,List.nil_append] at this;exact this
 have hn:¬ (vs.length * k>16777216):=oM;by_cases h0:vs.length * k=0
 ·have h1:=hz #[];simp only[h0] at h1;simp[Instr.buildSlice,run_underlying hT.und,hT.size w,h0,newRow];simp at h1;simp[h1]
 ·have h1:=hz z.cells;simp only[Instr.buildSlice,Sem.run_bind,run_underlying hT.und,hT.size w,Result.andThen_ok,h0,if_false,Sem.run_pure,hT.zero w];simp[h1,newRow,hn,hT.zero]
section
variable {P:Program}{N:Nat}{E:World}{f:Fr}{g:PH}{s:Own}{dst:Option Tmp}{ty:TypeId}{pos:String}{af:Array Edge}{gd:Option (Nat×Bool)}
def rQ:Nat→List (Nat×Operand)→Bool
 | _,[]=>true
 | i,(j,_)::r=>i == j&&rQ (i+1) r
theorem pJ {a:Act}(ha:Ok N f a):∀ (ps:List (Nat×Operand)) (i:Nat) (vs:List Value),rQ i ps=true→evs f (ps.map (·.2))=some vs→(ps.map fun p=>(p.1,a.eval p.2))=(vs.zipIdx i).map fun p=>(p.2,p.1)
 | [],_,vs,_,hv=>by
  simp only[List.map_nil,evs,Option.some.injEq] at hv;subst hv;rfl
 | (j,x)::r,i,vs,ho,hv=>by
  simp only[rQ,Bool.and_eq_true,beq_iff_eq] at ho;obtain ⟨rfl,ho⟩:=ho;simp only[List.map_cons,evs] at hv;split at hv
  ·rename_i v hx;split at hv
   ·rename_i vs' hr;simp only[Option.some.injEq] at hv;subst hv;simp only[List.map_cons,List.zipIdx_cons,ha.ev hx];rw[pJ ha r (i+1) vs' ho hr]
   ·cases hv
  ·cases hv
theorem SO.buildSlice {t e:TypeId}{k bytes n:Nat}{z:Value}{ps:List (Nat×Operand)}{vs:List Value}(hT:STy P t e k bytes z)(ho:rQ 0 ps=true)(hp:evs f (ps.map (·.2))=some vs)(hn:vs.length=n)(hv:∀ v∈vs,v.cells.size=k)(hb:n * k≤16777216) :
  SO P N E ⟨dst,.buildSlice t n ps.toArray,ty,pos,af,gd⟩ f g s fun u g' s'=>∃ b,u = .slice (some ⟨b,0,none⟩) n n∧g=g'∧s'=pt b (.cells (vs.flatMap fun v=>v.cells.toList).toArray e (0,0))::s :=
 SO.of_run fun a w ha hw=>by
  subst hn;have hr:=qE (P:=P) (w:=w) hT vs hv hb;refine⟨_,_,g,_,?_,hw.alloc (e:=pt w.heap.size (.cells (vs.flatMap fun v=>v.cells.toList).toArray e (0,0))) I I,_,I,I,I⟩;have hm:=pJ ha ps 0 vs ho hp;simp only[execOp,List.map_toArray,hm];simp[hr]
end
def Sl (g:PH)(k:Nat)(v:Value)(n:Nat)(xs:List Value):Prop :=
 ∃ p c,v = .slice p n c∧(xs.length=n * k∧n≤c)∧(xs≠[]→∃ b o cs T fr,p=some ⟨b,o,none⟩∧g b=some (.cells cs T fr)∧∀ j x,xs[j]?=some x→cs[o+j]?=some x)
section
variable {g g':PH}{s:Own}{k n:Nat}{v:Value}{xs:List Value}
theorem Sl.mono (h:Sl g k v n xs)(hl:Le g g'):Sl g' k v n xs:=by
 obtain ⟨p,c,h1,h2,h3⟩:=h;refine⟨p,c,h1,h2,fun hne=>?_⟩;obtain ⟨b,o,cs,T,fr,h4,h5,h6⟩:=h3 hne;exact⟨b,o,cs,T,fr,h4,hl _ _ h5,h6⟩
theorem Sl.isSl (h:Sl g k v n xs):isSl v=true:=by obtain ⟨p,c,rfl,_⟩:=h; rfl
theorem Sl.slen (h:Sl g k v n xs):slen v=n:=by obtain ⟨p,c,rfl,_⟩:=h; rfl
theorem Sl.length (h:Sl g k v n xs):xs.length=n * k:=by obtain ⟨p,c,_,h1,_⟩:=h; exact h1.1
theorem Sl.based (h:Sl g k v n xs)(hn:0<n)(hk:0<k):based v=true:=by
 obtain ⟨p,c,rfl,⟨h2,_⟩,h3⟩:=h;have:xs≠[]:=fun e=>by rw[e] at h2; have:=Nat.mul_pos hn hk; simp at h2; omega
 obtain ⟨b,o,cs,T,fr,rfl,_⟩:=h3 this;rfl
theorem Sl.rd (h:Sl g k v n xs):Rd g s v xs:=by
 intro E w hw j x hj;obtain ⟨p,c,rfl,h2,h3⟩:=h;obtain ⟨b,o,cs,T,fr,rfl,h5,h6⟩:=h3 (fun e=>by rw[e] at hj; simp at hj);exact⟨_,_,_,I,I,cK (s:=s) h5 (h6 j x hj) E w hw⟩
theorem Sl.nil (g:PH)(k:Nat):Sl g k (.slice none 0 0) 0 []:=⟨_,_,rfl,⟨by simp,Nat.le_refl _⟩,fun h=>absurd rfl h⟩
theorem At.freezeRow {E:World}{w:World}{T:TypeId}(h:At E g (row T k v n xs::s) w):∃ g',Le g g'∧At E g' s w∧Sl g' k v n xs:=by
 obtain ⟨hlen,h1⟩:=ge (i:=0) h rfl
 rcases h1 with ⟨p,rfl,rfl⟩ | ⟨b,cap,cur,rfl,hb,hle,_,hsz,htake⟩
 ·have:xs=[]:=List.eq_nil_of_length_eq_zero (by simpa using hlen);subst this;exact⟨g,Le.refl g,h.sublist (List.sublist_cons_self _ _),p,0,I,⟨by simp,lR _⟩,fun h=>absurd I h⟩
 ·obtain ⟨h2,h3⟩:=h.freeze (b:=b) rfl hb;refine⟨_,h3,h2,some ⟨b,0,none⟩,cap+1,I,⟨hlen,hle⟩,fun _=>⟨b,0,cur,T,(0,0),I,fw _ _ _,fun j x hj=>?_⟩⟩;rw[← htake,List.getElem?_take] at hj;split at hj
  ·simpa using hj
  ·cases hj
end
theorem bS:type_of% @SO.buildSlice:=@SO.buildSlice
end Go.Sy
namespace Go.Sy
open Go
section
variable {P:Program}{N:Nat}{E:World}{ops:Array Oper}{Q:Exit→Act→World→Prop}{f f0:Fr}{g g':PH}{s:Own}
def HI (N:Nat)(E:World)(f:Fr)(g:PH)(s:Own)(a:Act)(w:World):Prop:=Ok N f a∧At E g s w
theorem SC.cutB {x y:Code}(r:Nat)(b:Bool)(h1:SC P N E x (Exit.then (HI N E ((r,.bool b)::f) g s) Q) f g s)(h2:SC P N E y Q ((r,.bool b)::f) g s):SC P N E (.seq x y) Q f g s:=by
 refine sQ fun a w ha hw=>Code.wp_mono (fun e a' w' h=>?_) (h1 a w ha hw);cases e <;> first | exact h | exact h2 a' w' h.1 h.2
def GN (r:Nat):Fr→Fr→Prop
 | [],_=>True
 | (t,v)::q,f=>(bk f t=some v∨t=r)∧GN r q f
theorem GN.get {r:Nat}:∀ {f0 f:Fr},GN r f0 f→∀ t v,t≠r→bk f0 t=some v→bk f t=some v
 | [],_,_,_,_,_,hv=>by simp[bk] at hv
 | (k,u)::q,f,h,t,v,ht,hv=>by
  simp only[bk] at hv;by_cases hk:k=t
  ·subst hk;rw[if_pos rfl] at hv;injection hv with hv
   subst hv;exact h.1.resolve_right ht
  ·rw[if_neg hk] at hv;exact GN.get h.2 t v ht hv
theorem ST.mid1 {r:Nat}{b:Bool}(hb:bk f r=some (.bool b))(hf:GN r f0 f):ST N E (Exit.then (HI N E ((r,.bool b)::f0) g s) Q) .normal f g s :=
 fun a _ ha hw=>⟨⟨ha.defers,ha.size,fun t v hv=>by
  simp only[bk] at hv;by_cases hr:r=t
  ·subst hr;rw[if_pos rfl] at hv;injection hv with hv
   subst hv;exact ha.at_ _ _ hb
  ·rw[if_neg hr] at hv;exact ha.at_ t v (hf.get t v (fun e=>hr e.symm) hv)⟩,hw⟩
theorem SL.split {l:List Oper}{d:Nat}{p:Prop}[Decidable p](h1:p→SL P N E ops Q l ((d,.bool true)::f) g s)(h2:¬ p→SL P N E ops Q l ((d,.bool false)::f) g s):SL P N E ops Q l ((d,.bool (decide p))::f) g s:=by
 by_cases hp:p
 ·rw[decide_eq_true hp]; exact h1 hp
 ·rw[decide_eq_false hp]; exact h2 hp
theorem SP.split {g0:PH}{s0:Own}{tail:List Nat}{plan:List (Nat×Nat)}{d:Nat}{p:Prop}[Decidable p](h1:p→SP P N E ops Q g0 s0 tail plan ((d,.bool true)::f) g s)(h2:¬ p→SP P N E ops Q g0 s0 tail plan ((d,.bool false)::f) g s) :
  SP P N E ops Q g0 s0 tail plan ((d,.bool (decide p))::f) g s:=by
 by_cases hp:p
 ·rw[decide_eq_true hp]; exact h1 hp
 ·rw[decide_eq_false hp]; exact h2 hp
end
def FE:List Value→Prop
 | []=>True
 | u::r=>u.oneCell'=true∧FE r
theorem oa:∀ {l:List Value},FE l→∀ u∈l,u.oneCell'=true
 | [],_,u,hu=>by cases hu
 | x::r,h,u,hu=>by
  rcases List.mem_cons.1 hu with rfl | hu
  ·exact h.1
  ·exact oa h.2 u hu
def Szs (k:Nat):List Value→Prop
 | []=>True
 | u::r=>u.cells.size=k∧Szs k r
theorem ae {k:Nat}:∀ {l:List Value},Szs k l→∀ u∈l,u.cells.size=k
 | [],_,u,hu=>by cases hu
 | x::r,h,u,hu=>by
  rcases List.mem_cons.1 hu with rfl | hu
  ·exact h.1
  ·exact ae h.2 u hu
section
variable {P:Program}{N:Nat}{E:World}{f:Fr}{g:PH}{s s1:Own}{dst:Option Tmp}{ty:TypeId}{pos:String}{af:Array Edge}{gd:Option (Nat×Bool)}
theorem Rd.pt {b n c:Nat}{cs:Array Value}{T:TypeId}{fr:Nat×Nat}(i:Nat)(hi:s[i]?=some (pt b (.cells cs T fr))):Rd g s (.slice (some ⟨b,0,none⟩) n c) cs.toList:=fun E w hw j x hj =>
 ⟨_,_,_,rfl,rfl,cO (g:=g) (o:=0+j) i hi (by simpa using hj) E w hw⟩
theorem SO.drop {o:Oper}{K:Value→PH→Own→Prop}{e:Ent}(h:SO P N E o f g (e::s) fun v g' s'=>∃ s1,s'=e::s1∧K v g' s1):SO P N E o f g (e::s) K:=by
 intro a w ha hw Q next hn;refine h a w ha hw Q next fun v g' s' w' hK hw'=>?_;obtain ⟨s1,rfl,hK⟩:=hK;exact hn v g' s1 w' hK (hw'.sublist (List.sublist_cons_self _ _))
theorem SO.mono {o:Oper}{K K':Value→PH→Own→Prop}(h:SO P N E o f g s K)(hk:∀ v g' s',K v g' s'→K' v g' s'):SO P N E o f g s K' :=
 fun a w ha hw Q next hn=>h a w ha hw Q next fun v g' s' w' hK hw'=>hn v g' s' w' (hk v g' s' hK) hw'
theorem SO.app1 {x y:Operand}{t e:TypeId}{k bytes n b:Nat}{z v:Value}{xs:List Value}{cs:Array Value}(i:Nat)(xs':List Value)(n':Nat)(hT:STy P t e k bytes z)(hx:ev f x=some v)(hy:ev f y=some (.slice (some ⟨b,0,none⟩) 1 1))
  (hs:s=pt b (.cells cs e (0,0))::s1) (hi:s1[i]?=some (row e k v n xs)) (hk:cs.size=k) (h1:FE cs.toList) (he:xs++cs.toList=xs') (hn:n+1=n') (hb:(n+1) * bytes≤140737488355328) (hlen:n+1≤4611686018427387904) :
  SO P N E ⟨dst,.call ⟨.builtin .append,#[x,y],#[t,t]⟩,ty,pos,af,gd⟩ f g s fun v' g' s'=>g=g'∧s'=s1.set i (row e k v' n' xs'):=by
 subst hs;subst he;subst hn;refine SO.drop ((SO.append (i+1) hT hx hi hy I I (Rd.pt 0 I) (by simp[hk,slen]) (oa h1) hb hlen).mono fun v' g' s' ⟨h2,h3⟩=>⟨s1.set i (row e k v' (n+1) (xs++cs.toList)),h3,h2,I⟩)
end
theorem Sl.form {g:PH}{k n:Nat}{v:Value}{xs:List Value}(h:Sl g k v n xs):∃ p c,v = .slice p n c:=by obtain ⟨p,c,h1,_⟩:=h; exact⟨p,c,h1⟩
theorem sP:type_of% @SL.split:=@SL.split
theorem za6:type_of% @ST.ret1:=@ST.ret1
theorem za7:type_of% @ST.mid:=@ST.mid
theorem za8:type_of% @ST.mid1:=@ST.mid1
theorem za9:type_of% @Ctr.of:=@Ctr.of
theorem zb1:type_of% @SP.gu:=@SP.gu
theorem zb2:type_of% @Gd.off:=@Gd.off
theorem zb4:type_of% @SC.nilRow:=@SC.nilRow
theorem zb6:type_of% @Eq.trans:=@Eq.trans
theorem zb7:type_of% @Le.refl:=@Le.refl
theorem zb8:type_of% @Sl.nil:=@Sl.nil
theorem zb9:type_of% @List.Sublist.refl:=@List.Sublist.refl
theorem zc1:type_of% @List.length_nil:=@List.length_nil
theorem zc2:type_of% @List.length_filter_le:=@List.length_filter_le
theorem zc3:type_of% @List.append_nil:=@List.append_nil
theorem zc4:type_of% @List.getElem_of_mem:=@List.getElem_of_mem
theorem zc5:type_of% @List.map_congr_left:=@List.map_congr_left
theorem zc6:type_of% @List.pairwise_iff_getElem:=@List.pairwise_iff_getElem
theorem zc7:type_of% @Result.andThen_ok:=@Result.andThen_ok
theorem zc8:type_of% @SP.facts:=@SP.facts
theorem zc9:type_of% @SL.facts:=@SL.facts
theorem zd4:type_of% @SU.rem:=@SU.rem
theorem zd5:type_of% @SU.convert:=@SU.convert
theorem zd6:type_of% @SU.addW:=@SU.addW
theorem zd7:type_of% @SL.go:=@SL.go
theorem zd8:type_of% @congrArg:=@congrArg
theorem ze1:type_of% @List.length_take:=@List.length_take
theorem ze2:type_of% @List.length_append:=@List.length_append
theorem ze3:type_of% @List.length_map:=@List.length_map
theorem ze4:type_of% @List.length_singleton:=@List.length_singleton
theorem ze5:type_of% @List.length_cons:=@List.length_cons
theorem ze6:type_of% @List.length_drop:=@List.length_drop
theorem ze7:type_of% @List.mem_cons:=@List.mem_cons
theorem ze8:type_of% @List.mem_map:=@List.mem_map
theorem ze9:type_of% @List.mem_append:=@List.mem_append
theorem zf1:type_of% @List.eq_nil_of_length_eq_zero:=@List.eq_nil_of_length_eq_zero
theorem zf2:type_of% @List.getElem?_eq_some_iff:=@List.getElem?_eq_some_iff
theorem zf3:type_of% @Nat.zero_le:=@Nat.zero_le
theorem zf4:type_of% @decide_eq_false:=@decide_eq_false
theorem zf5:type_of% @decide_eq_true:=@decide_eq_true
theorem zf6:type_of% @if_neg:=@if_neg
theorem zf7:type_of% @if_pos:=@if_pos
theorem zf8:type_of% @List.mem_of_getElem?:=@List.mem_of_getElem?
theorem zf9:type_of% @of_decide_eq_true:=@of_decide_eq_true
theorem zg1:type_of% @List.map_cons:=@List.map_cons
theorem zg2:type_of% @List.map_append:=@List.map_append
theorem zg3:type_of% @List.drop_eq_getElem_cons:=@List.drop_eq_getElem_cons
theorem zg4:type_of% @Option.some.injEq:=@Option.some.injEq
theorem zg5:type_of% @List.append_assoc:=@List.append_assoc
theorem zg6:type_of% @Decidable.of_not_not:=@Decidable.of_not_not
theorem zg7:type_of% @List.getD_eq_getElem?_getD:=@List.getD_eq_getElem?_getD
theorem zg8:type_of% @List.getElem?_append_left:=@List.getElem?_append_left
theorem zg9:type_of% @List.getElem?_append_right:=@List.getElem?_append_right
theorem zh1:type_of% @List.mem_filter:=@List.mem_filter
theorem zh2:type_of% @List.flatMap_cons:=@List.flatMap_cons
theorem zh3:type_of% @List.filter_append:=@List.filter_append
theorem zh4:type_of% @List.mem_singleton:=@List.mem_singleton
theorem zh5:type_of% @Option.isSome_iff_exists:=@Option.isSome_iff_exists
theorem zh6:type_of% @List.getElem?_map:=@List.getElem?_map
theorem zh7:type_of% @List.getElem?_take:=@List.getElem?_take
theorem zh8:type_of% @List.getElem?_drop:=@List.getElem?_drop
theorem zh9:type_of% @List.length_set:=@List.length_set
theorem zi1:type_of% @List.length_range:=@List.length_range
theorem zi2:type_of% @List.map_map:=@List.map_map
theorem zi3:type_of% @List.find?_cons:=@List.find?_cons
theorem zi4:type_of% @List.filter_cons:=@List.filter_cons
theorem zi5:type_of% @List.foldl_cons:=@List.foldl_cons
theorem zi6:type_of% @List.foldl_append:=@List.foldl_append
theorem zi7:type_of% @List.sublist_cons_self:=@List.sublist_cons_self
theorem zi8:type_of% @List.take_append_drop:=@List.take_append_drop
theorem zi9:type_of% @Bool.and_eq_true:=@Bool.and_eq_true
theorem zj1:type_of% @Bool.or_eq_true:=@Bool.or_eq_true
theorem zj2:type_of% @decide_eq_true_eq:=@decide_eq_true_eq
theorem zj3:type_of% @decide_eq_true_iff:=@decide_eq_true_iff
theorem zj4:type_of% @Bool.not_eq_true:=@Bool.not_eq_true
theorem zj5:type_of% @List.any_eq_true:=@List.any_eq_true
theorem zj6:type_of% @List.all_eq_true:=@List.all_eq_true
theorem zj7:type_of% @List.Perm.swap:=@List.Perm.swap
theorem zj8:type_of% @List.nodup_cons:=@List.nodup_cons
theorem zj9:type_of% @List.pairwise_cons:=@List.pairwise_cons
theorem zk1:type_of% @List.pairwise_map:=@List.pairwise_map
theorem zk2:type_of% @List.any_eq_false:=@List.any_eq_false
theorem zk3:type_of% @List.mem_of_find?_eq_some:=@List.mem_of_find?_eq_some
theorem zk4:type_of% @Int.emod_lt_of_pos:=@Int.emod_lt_of_pos
theorem zk5:type_of% @Int.emod_nonneg:=@Int.emod_nonneg
theorem zk6:type_of% @Nat.le_trans:=@Nat.le_trans
theorem zk7:type_of% @Nat.lt_succ_of_le:=@Nat.lt_succ_of_le
theorem zk8:type_of% @IntWalk.i64_in:=@IntWalk.i64_in
end Go.Sy
