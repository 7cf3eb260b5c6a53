/- 8 -/
import Derived.Test.YtmmghffoakhheaaGreatDoorRe07
import Derived.RangeFuncLeaves
import Derived.RangeFuncRecord
import Derived.RangeFuncSeq
import Derived.OrdersIn
import Derived.TacticsIn
import Derived.Laws.BytesString
import Derived.Laws.Strings
import Derived.Shelf.Strings.Trim
set_option linter.unusedSimpArgs false
set_option linter.unusedVariables false
namespace Go.Sy
open Go
structure Md where
 ro:Option Nat
 ds:List Deferred
def wf (ro:Option Nat):Fence:={ fn:=fun _=>True,depth:=none,alive:=false,round:=ro }
def kY (a:Act):Act:={ a with defers:=[] }
theorem nP (a:Act):(kY a).eval=a.eval:=by funext x; cases x <;> rfl
theorem Co (a:Act)(d:Option Tmp)(v:Value):kY (a.put d v)=(kY a).put d v:=by cases d <;> rfl
theorem qd (a:Act)(d:Option Tmp)(v:Value):(a.put d v).defers=a.defers:=by cases d <;> rfl
def Okd (ds:List Deferred)(N:Nat)(f:Fr)(a:Act):Prop:=a.defers=ds∧Ok N f (kY a)
section
variable {P:Program}{M:Md}{N:Nat}{E:World}{Q:Exit→Act→World→Prop}{f f':Fr}{g g':PH}{s s':Own}{ops:Array Oper}
theorem Okd.put {ds:List Deferred}{a:Act}(h:Okd ds N f a){d:Nat}(hlt:d<N)(v:Value):Okd ds N ((d,v)::f) (a.put (some d) v):=⟨h.1,by rw[Co]; exact h.2.put hlt v⟩
theorem Okd.sub {ds:List Deferred}{a:Act}(h:Okd ds N f a)(hs:Sub f' f):Okd ds N f' a:=⟨h.1,h.2.sub hs⟩
theorem Okd.ev {ds:List Deferred}{a:Act}(h:Okd ds N f a){x:Operand}{v:Value}(hx:Sy.ev f x=some v):a.eval x=v:=by rw[← nP]; exact h.2.ev hx
def XC (P:Program)(M:Md)(N:Nat)(E:World)(c:Code)(Q:Exit→Act→World→Prop)(f:Fr)(g:PH)(s:Own):Prop:=∀ a w,Okd M.ds N f a→At E g s w→c.wpIn (wf M.ro) 0 P Q a w
def XT (M:Md)(N:Nat)(E:World)(Q:Exit→Act→World→Prop)(e:Exit)(f:Fr)(g:PH)(s:Own):Prop:=∀ a w,Okd M.ds N f a→At E g s w→Q e a w
def XL (P:Program)(M:Md)(N:Nat)(E:World)(ops:Array Oper)(Q:Exit→Act→World→Prop)(l:List Oper)(f:Fr)(g:PH)(s:Own):Prop:=∀ a w,Okd M.ds N f a→At E g s w→wpListIn (wf M.ro) 0 P ops Q l a w
def XO (P:Program)(M:Md)(N:Nat)(E:World)(o:Oper)(f:Fr)(g:PH)(s:Own)(K:Value→PH→Own→Prop):Prop :=
 ∀ a w,Okd M.ds N f a→At E g s w→∀ (Q:Exit→Act→World→Prop) (next:Act→World→Prop),
  (∀ v g' s' w',K v g' s'→At E g' s' w'→next (a.put o.dst v) w')→o.wpIn (wf M.ro) 0 P a w next Q
theorem XC.to {c:Code}(h:∀ w,At E g s w→At E g' s' w)(hc:XC P M N E c Q f g' s'):XC P M N E c Q f g s:=fun a w ha hw=>hc a w ha (h w hw)
theorem XT.drop {e:Exit}(hs:s'.Sublist s)(h:XT M N E Q e f g s'):XT M N E Q e f g s:=fun a w ha hw=>h a w ha (hw.sublist hs)
theorem XL.to {l:List Oper}(h:∀ w,At E g s w→At E g' s' w)(hc:XL P M N E ops Q l f g' s'):XL P M N E ops Q l f g s:=fun a w ha hw=>hc a w ha (h w hw)
theorem XC.facts {c:Code}(h:(∃ w,At E g s w)→XC P M N E c Q f g s):XC P M N E c Q f g s:=fun a w ha hw=>h ⟨w,hw⟩ a w ha hw
theorem XL.facts {l:List Oper}(h:(∃ w,At E g s w)→XL P M N E ops Q l f g s):XL P M N E ops Q l f g s:=fun a w ha hw=>h ⟨w,hw⟩ a w ha hw
theorem XT.facts {e:Exit}(h:(∃ w,At E g s w)→XT M N E Q e f g s):XT M N E Q e f g s:=fun a w ha hw=>h ⟨w,hw⟩ a w ha hw
theorem XC.skip (h:XT M N E Q .normal f g s):XC P M N E .skip Q f g s:=fun a w ha hw=>wpIn_skip (h a w ha hw)
theorem XC.ret (h:XT M N E Q .ret f g s):XC P M N E .ret Q f g s:=fun a w ha hw=>wpIn_ret (h a w ha hw)
theorem XC.exit {id:Nat}(h:XT M N E Q (.exit id) f g s):XC P M N E (.exit id) Q f g s:=fun a w ha hw=>wpIn_exit (h a w ha hw)
theorem XC.seq {x y:Code}(h:XC P M N E x (Exit.then (y.wpIn (wf M.ro) 0 P Q) Q) f g s):XC P M N E (.seq x y) Q f g s:=fun a w ha hw=>wpIn_seq (h a w ha hw)
theorem XC.block {id:Nat}{c:Code}(h:XC P M N E c (Exit.inBlock id Q) f g s):XC P M N E (.block id c) Q f g s:=fun a w ha hw=>wpIn_block (h a w ha hw)
theorem XC.cond {c:Operand}{x y:Code}{t:Bool}(hc:ev f c=some (.bool t))(h:XC P M N E (if t then x else y) Q f g s):XC P M N E (.cond c x y) Q f g s :=
 fun a w ha hw=>wpIn_cond (ha.ev hc)<|h a w ha hw
theorem XC.condT {c:Operand}{x y:Code}(hc:ev f c=some (.bool true))(h:XC P M N E x Q f g s):XC P M N E (.cond c x y) Q f g s:=XC.cond hc h
theorem XC.condF {c:Operand}{x y:Code}(hc:ev f c=some (.bool false))(h:XC P M N E y Q f g s):XC P M N E (.cond c x y) Q f g s:=XC.cond hc h
theorem XC.ifB {c:Operand}{x y:Code}{t:Bool}(hc:ev f c=some (.bool t))(h1:t=true→XC P M N E x Q f g s)(h2:t=false→XC P M N E y Q f g s) :
  XC P M N E (.cond c x y) Q f g s:=by
 cases t
 ·exact XC.condF hc<|h2 I
 ·exact XC.condT hc<|h1 I
theorem XC.ifP {c:Operand}{x y:Code}{p:Prop}[Decidable p](hc:ev f c=some (.bool<|decide p))(h1:p→XC P M N E x Q f g s)(h2:¬ p→XC P M N E y Q f g s) :
  XC P M N E (.cond c x y) Q f g s :=
 XC.ifB hc (fun h=>h1<|zg3 h) (fun h=>h2<|of_decide_eq_false h)
theorem XT.thenN {c:Code}(h:XC P M N E c Q f g s):XT M N E (Exit.then (c.wpIn (wf M.ro) 0 P Q) Q) .normal f g s:=h
theorem XT.thenX {K:Act→World→Prop}{id:Nat}(h:XT M N E Q (.exit id) f g s):XT M N E (Exit.then K Q) (.exit id) f g s:=h
theorem XT.blockN {id:Nat}(h:XT M N E Q .normal f g s):XT M N E (Exit.inBlock id Q) .normal f g s:=h
theorem XT.blockX {id:Nat}(h:XT M N E Q .normal f g s):XT M N E (Exit.inBlock id Q) (.exit id) f g s:=fun a w ha hw=>by simpa [Exit.inBlock] using h a w ha hw
def CI {ι:Type}(ds:List Deferred)(N:Nat)(E:World)(F:ι→Fr)(G:ι→PH)(S:ι→Own)(J:ι→Prop)(μ:ι→Nat)(i:ι)(a:Act)(w:World):Prop :=
 ∃ j,Okd ds N (F j) a∧At E (G j) (S j) w∧J j∧μ j<μ i
theorem XT.again {ι:Type}{F:ι→Fr}{G:ι→PH}{S:ι→Own}{J:ι→Prop}{μ:ι→Nat}{i:ι}(j:ι)(hf:Sub (F j) f)(hg:G j=g)(hs:S j=s)(hJ:J j)(hμ:μ j<μ i) :
  XT M N E (Exit.then (CI M.ds N E F G S J μ i) Q) .normal f g s:=fun _ _ ha hw=>⟨j,ha.sub hf,by rw[hg,hs]; exact hw,hJ,hμ⟩
theorem XC.loop {ι:Type}{c:Code}(F:ι→Fr)(G:ι→PH)(S:ι→Own)(J:ι→Prop)(μ:ι→Nat)(i:ι)(hf:Sub (F i) f)(hg:G i=g)(hs:S i=s)(h0:J i)
  (round:∀ i,J i→XC P M N E c (Exit.then (CI M.ds N E F G S J μ i) Q) (F i) (G i) (S i)):XC P M N E (.loop c) Q f g s:=by
 intro a w ha hw;have key:∀ n,∀ (i:ι) (a:Act) (w:World),μ i=n→Okd M.ds N (F i) a→At E (G i) (S i) w→J i→∀ (b:Frame) (k:List Item) (cs:List Frame),b.roundOf=(wf M.ro).round→(wf M.ro).fn b.fn→(wf M.ro).room (cs.length+1+0) →
   ∃ e a' w',Q e a' w'∧ArrivesIn (Machine.fenced P<|wf M.ro) P (lone (b.atR a<|.code c :: .inLoop c::k) cs w) b k cs e a' w':=by
  intro n;induction n using Nat.strongRecOn with
  | _ n ih =>
   intro i a w hn ha hI hJ b k cs hro hb hr;obtain ⟨e,a₁,w₁,hq,harr⟩:=round i hJ a w ha hI b (.inLoop c::k) cs hro hb hr;cases e with
   | normal =>
    obtain ⟨j,hok,hI₁,hJ₁,hlt⟩:=hq;obtain ⟨e₂,a₂,w₂,hq₂,harr₂⟩:=ih (μ j) (hn ▸ hlt) j a₁ w₁ rfl hok hI₁ hJ₁ b k cs hro hb hr;exact⟨e₂,a₂,w₂,hq₂,.of_steps (StepsIn.trans harr<|.one (fenced_calm hb hr I) stepR_inLoop) harr₂⟩
   | exit id=>exact⟨_,a₁,w₁,hq,.pass (x:=.inLoop c) rfl (fun _ _=>.inl<|by simp) harr⟩
   | goto l=>exact⟨_,a₁,w₁,hq,.pass (x:=.inLoop c) rfl (fun _ _=>.inl<|by simp) harr⟩
   | ret=>exact⟨_,a₁,w₁,hq,.pass (x:=.inLoop c) rfl (fun _ _=>.inl<|by simp) harr⟩
   | panic ch=>exact⟨_,a₁,w₁,hq,.pass (x:=.inLoop c) rfl (fun _ _=>.inl<|by simp) harr⟩
   | outgrown=>exact⟨_,a₁,w₁,hq,.pass (x:=.inLoop c) rfl (fun _ _=>.inl<|by simp) harr⟩
 intro b k cs hro hb hr;obtain ⟨e,a',w',hq,harr⟩:=key _ i a w rfl (ha.sub hf) (by rw[hg,hs]; exact hw) h0 b k cs hro hb hr;exact⟨e,a',w',hq,.of_steps (.one (fenced_calm hb hr I) stepR_loop) harr⟩
theorem XC.region {id:Nat}(h:XL P M N E ops Q ops.toList f g s):XC P M N E (.region id ops false) Q f g s:=fun a w ha hw=>wpIn_region_list (h a w ha hw)
theorem XL.nil (h:XT M N E Q .normal f g s):XL P M N E ops Q [] f g s:=fun a w ha hw=>h a w ha hw
theorem SO.xo {o:Oper}{K:Value→PH→Own→Prop}(hno:∀ c,o.op ≠ .defer c)(h:SO P N E o f g s K):XO P M N E o f g s K:=by
 intro a w ha hw Q next hn;refine⟨fun _ _=>trivial,?_⟩;rw[Oper.semAt_eq _ _ _ hno];have h1:=h (kY a) w ha.2 hw (fun _ _ _=>False) (fun a' w'=>a'.defers=[]∧∃ v g' s',a'=(kY a).put o.dst v∧K v g' s'∧At E g' s' w') (fun v g' s' w' hK hw'=>⟨qd _ _ _,v,g',s',rfl,hK,hw'⟩);unfold Oper.wp at h1;rw[nP] at h1;have key:∀ v w',(((kY a).put o.dst v).defers=[]∧∃ v' g' s',(kY a).put o.dst v=(kY a).put o.dst v'∧K v' g' s'∧At E g' s' w')→next (a.put o.dst v) w':=by
  rintro v w' ⟨_,v',g',s',he,hK,hw'⟩;have:a.put o.dst v=a.put o.dst v':=by
   cases hd:o.dst with
   | none=>rfl
   | some d =>
    rw[hd] at he;have h2:=ze2 Act.tmps he;cases a;simp only[Act.put,kY] at h2 ⊢;rw[h2]
  rw[this];exact hn v' g' s' w' hK hw'
 generalize (execOp a.eval o).run P w=r at h1;cases r with
 | ok n w' =>
  cases n <;> simp only[Oper.upon] at h1 <;> first | exact h1.elim | skip
  ·exact key _ _ h1
  ·exact key _ _ h1
  ·rename_i f' args;exact⟨fun h=>(by cases h),(CallsIn.more (n:=0) ((callsIn_wide (n:=0)).2<|Calls.mono h1 (fun e w'' he=>by cases e with | returned v=>exact key _ _ he | panicked c=>exact he.elim | outgrown=>obtain ⟨_,_,h2⟩:=he; exact h2.elim))<|zf6 _)⟩
  ·exact absurd h1.1 (by rw[qd]; simp)
  ·exact⟨fun h=>(by cases h),fun c cs _=>let ⟨v,w'',r,st⟩:=h1 c cs; ⟨v,w'',key _ _ r,stepsIn_wide.2 st⟩⟩
 | halt x w'=>cases x <;> simp only[Oper.upon] at h1 <;> exact h1.elim
theorem XL.step {o:Oper}{l:List Oper}{K:Value→PH→Own→Prop}(hg:Gd N ops f o true)(ho:XO P M N E o f g s K)
  (h:∀ v g' s' a,K v g' s'→Okd M.ds N f a→∃ f',Okd M.ds N f' (a.put o.dst v)∧XL P M N E ops Q l f' g' s'):XL P M N E ops Q (o::l) f g s:=by
 intro a w ha hw;unfold wpListIn;have hwt:Region.wanted o (yielded ops a.tmps)=true:=hg (kY a) ha.2;rw[zg1 hwt];refine ho a w ha hw Q _ fun v g' s' w' hK hw'=>?_;obtain ⟨f',hf',hn⟩:=h v g' s' a hK ha;exact hn _ _ hf' hw'
theorem XL.x {d:Nat}{op:Op}{ty:TypeId}{pos:String}{af:Array Edge}{l:List Oper}{K:Value→PH→Own→Prop}(ho:XO P M N E ⟨some d,op,ty,pos,af,none⟩ f g s K)(hd:d<N)
  (h:∀ v g' s',K v g' s'→XL P M N E ops Q l ((d,v)::f) g' s'):XL P M N E ops Q (⟨some d,op,ty,pos,af,none⟩::l) f g s :=
 XL.step (Gd.none rfl) ho fun v g' s' _ hK ha=>⟨_,ha.put hd v,h v g' s' hK⟩
theorem XL.go {d:Nat}{op:Op}{ty:TypeId}{pos:String}{af:Array Edge}{gd:Option (Nat×Bool)}{l:List Oper}{K:Value→PH→Own→Prop}(hg:Gd N ops f ⟨some d,op,ty,pos,af,gd⟩ true)(ho:SO P N E ⟨some d,op,ty,pos,af,gd⟩ f g s K)(hd:d<N)
  (h:∀ v g' s',K v g' s'→XL P M N E ops Q l ((d,v)::f) g' s') (hno:∀ c,op ≠ .defer c:=by intro _ h; cases h):XL P M N E ops Q (⟨some d,op,ty,pos,af,gd⟩::l) f g s :=
 XL.step hg (ho.xo hno) fun v g' s' _ hK ha=>⟨_,ha.put hd v,h v g' s' hK⟩
theorem XL.o {d:Nat}{op:Op}{ty:TypeId}{pos:String}{af:Array Edge}{l:List Oper}{K:Value→PH→Own→Prop}(ho:SO P N E ⟨some d,op,ty,pos,af,none⟩ f g s K)(hd:d<N)
  (h:∀ v g' s',K v g' s'→XL P M N E ops Q l ((d,v)::f) g' s') (hno:∀ c,op ≠ .defer c:=by intro _ h; cases h):XL P M N E ops Q (⟨some d,op,ty,pos,af,none⟩::l) f g s :=
 XL.go (Gd.none rfl) ho hd h hno
theorem XL.on {op:Op}{ty:TypeId}{pos:String}{af:Array Edge}{l:List Oper}{K:Value→PH→Own→Prop}(ho:SO P N E ⟨none,op,ty,pos,af,none⟩ f g s K)
  (h:∀ v g' s',K v g' s'→XL P M N E ops Q l f g' s') (hno:∀ c,op ≠ .defer c:=by intro _ h; cases h):XL P M N E ops Q (⟨none,op,ty,pos,af,none⟩::l) f g s :=
 XL.step (Gd.none rfl) (ho.xo hno) fun v g' s' _ hK ha=>⟨f,ha,h v g' s' hK⟩
theorem XL.gq {d:Nat}{op:Op}{ty:TypeId}{pos:String}{af:Array Edge}{gd:Option (Nat×Bool)}{l:List Oper}{v:Value}(hg:Gd N ops f ⟨some d,op,ty,pos,af,gd⟩ true)(hq:SQ P N E ⟨some d,op,ty,pos,af,gd⟩ f g s v)(hd:d<N)
  (h:XL P M N E ops Q l ((d,v)::f) g s) (hno:∀ c,op ≠ .defer c:=by intro _ h; cases h):XL P M N E ops Q (⟨some d,op,ty,pos,af,gd⟩::l) f g s :=
 XL.go hg hq.so hd (fun v' g' s' ⟨e1,e2,e3⟩=>by subst e1; subst e2; subst e3; exact h) hno
theorem XL.q {d:Nat}{op:Op}{ty:TypeId}{pos:String}{af:Array Edge}{l:List Oper}{v:Value}(hq:SQ P N E ⟨some d,op,ty,pos,af,none⟩ f g s v)(hd:d<N)
  (h:XL P M N E ops Q l ((d,v)::f) g s) (hno:∀ c,op ≠ .defer c:=by intro _ h; cases h):XL P M N E ops Q (⟨some d,op,ty,pos,af,none⟩::l) f g s:=XL.gq (Gd.none rfl) hq hd h hno
theorem XL.gu {d:Nat}{op:Op}{ty:TypeId}{pos:String}{af:Array Edge}{gd:Option (Nat×Bool)}{l:List Oper}{v:Value}(hg:Gd N ops f ⟨some d,op,ty,pos,af,gd⟩ true)(hq:SU P N ⟨some d,op,ty,pos,af,gd⟩ f v)(hd:d<N)
  (h:XL P M N E ops Q l ((d,v)::f) g s) (hno:∀ c,op ≠ .defer c:=by intro _ h; cases h):XL P M N E ops Q (⟨some d,op,ty,pos,af,gd⟩::l) f g s:=XL.gq hg hq.sq hd h hno
theorem XL.u {d:Nat}{op:Op}{ty:TypeId}{pos:String}{af:Array Edge}{l:List Oper}{v:Value}(hq:SU P N ⟨some d,op,ty,pos,af,none⟩ f v)(hd:d<N)
  (h:XL P M N E ops Q l ((d,v)::f) g s) (hno:∀ c,op ≠ .defer c:=by intro _ h; cases h):XL P M N E ops Q (⟨some d,op,ty,pos,af,none⟩::l) f g s:=XL.q hq.sq hd h hno
theorem XL.off {d:Nat}{op:Op}{ty:TypeId}{pos:String}{af:Array Edge}{gd:Option (Nat×Bool)}{l:List Oper}(hg:Gd N ops f ⟨some d,op,ty,pos,af,gd⟩ false)(hd:d<N)
  (h:XL P M N E ops Q l ((d,undef)::f) g s):XL P M N E ops Q (⟨some d,op,ty,pos,af,gd⟩::l) f g s:=by
 intro a w ha hw;unfold wpListIn;have hwt:Region.wanted (⟨some d,op,ty,pos,af,gd⟩:Oper) (yielded ops a.tmps)=false:=hg (kY a) ha.2;rw[zf9 (by rw[hwt]; simp)];exact⟨fun _ _=>trivial,h _ _ (ha.put hd undef) hw⟩
theorem At.obj {w:World}{b i:Nat}{o o':Obj}(h:At E g s w)(hi:s[i]?=some (pt b o)):At E g (s.set i<|pt b o') (w.putObj b o'):=by
 have h2:=h.fresh _ (zg2 hi) b rfl;refine h.turn hi I ⟨I,lR _⟩ I (by simp[World.putObj]) (fun k _ hk=>World.putObj_heap_other<|fun e=>hk<|by simp[pt,e]) ?_ (fun b' hb'=>?_)
 ·simp only[pt,Option.bind_some];exact World.putObj_heap_same h2.2
 ·simp only[pt,zg7] at hb';subst hb';exact⟨by simpa [World.putObj] using h2.2,.inl I⟩
theorem At.here {w:World}{b i:Nat}{o:Obj}(h:At E g s w)(hi:s[i]?=some (pt b o)):w.heap[b]?=some o:=by
 have:=h.own _<|zg2 hi;simpa [pt] using this
end
def yy (P:Program)(E:World)(l:Nat)(args:Array Value)(g:PH)(s:Own)(R:Value→PH→Own→Prop):Prop :=
 ∀ w,At E g s w→YieldAt Fence.wide 0 P l args w fun e w'=>∃ v g' s',e = .returned v∧At E g' s' w'∧R v g' s'
def D0 (P:Program)(E:World)(gf:FuncId)(lb:List Value){α:Type}(encs:α→List Value)(xs:List α)(g0:PH):Prop :=
 ∀ (l:Nat) (ι:Type) (G:ι→PH) (S:ι→Own) (J:List α→ι→Prop) (i0:ι),J [] i0→(∀ pre i,J pre i→Le g0 (G i)) →
  (∀ pre x suf i sx,xs=pre++x::suf→J pre i→yy P E l (encs x).toArray (G i) (S i++sx) (fun v g' s'=>v = .bool true∧∃ j,J (pre++[x]) j∧g'=G j∧s'=S j++sx)) →
  ∀ sx,Ctr P E gf (.func (.yield l) #[] #[]::lb).toArray (G i0) (S i0++sx) (fun _ g' s'=>∃ j,J xs j∧g'=G j∧s'=S j++sx)
section
variable {P:Program}{M:Md}{N:Nat}{E:World}{Q:Exit→Act→World→Prop}{f:Fr}{g:PH}{s:Own}{dst:Option Tmp}{ty:TypeId}{pos:String}{af:Array Edge}{gd:Option (Nat×Bool)}
theorem XO.yield {x:Operand}{l:List Operand}{tys:Array TypeId}{vs:List Value}{k:Nat}{R:Value→PH→Own→Prop}(hx:ev f x=some (.func (.yield k) #[] #[]))(hl:evs f l=some vs)(hY:yy P E k vs.toArray g s R) :
  XO P M N E ⟨dst,.call ⟨.value x,l.toArray,tys⟩,ty,pos,af,gd⟩ f g s R:=by
 intro a w ha hw Q next hn;refine⟨fun _ _=>trivial,?_⟩;rw[Oper.semAt_eq _ _ _ (fun _ h=>by cases h)];obtain ⟨fn,tmps,assign,body,hy,hR⟩:=hY w hw;have h1:a.eval x = .func (.yield k) #[] #[]:=ha.ev hx;have h2:l.map a.eval=vs:=by have:=ha.2.evs hl; rwa [nP] at this
 have h3:(execOp a.eval ⟨dst,.call ⟨.value x,l.toArray,tys⟩,ty,pos,af,gd⟩).run P w = .ok (.round k fn tmps assign body) w:=by
  simp only[execOp,resolve,h1,List.map_toArray,h2];simp[Deferred.ofValue,Sem.run_bind,invoke,hy]
 rw[h3];refine⟨fun h=>(by cases h),RoundIn.mono hR fun e w' he=>?_⟩;obtain ⟨v,g',s',rfl,hat,hRR⟩:=he;exact hn v g' s' w' hRR hat
theorem Ctr.ofX {n:FuncId}{fn:Func}{c:Code}{args:List Value}{R:Value→PH→Own→Prop}
  (hf:P.funcs[n]?=some fn) (hb:fn.body=some c) (hN:fn.ntmps=N) (hle:args.length≤N)
  (h:XC P ⟨none,[]⟩ N E c (bodyPostM (wf none) 0 P fn<|nm E R) (lC 0 args) g s):Ctr P E n args.toArray g s R:=by
 intro w hw;refine (callsIn_wide (n:=0)).1<|callsIn_of_wp_marks (F:=wf none) hf hb trivial (h _ w ⟨I,⟨I,?_,fun t v hv=>?_⟩⟩ hw) I
 ·simp[kY,hN]; omega
 ·obtain ⟨_,h2⟩:=jO args 0 t v hv;have hlt:t<args.length:=(zf5.1<|by simpa using h2).1;simp only[Nat.sub_zero] at h2;obtain ⟨_,h3⟩:=zf5.1 h2;simp[kY,Array.getElem?_append,hlt,h3]
theorem XT.leave0 {fn:Func}{R:Value→PH→Own→Prop}{e:Exit}(he:e = .ret∨e = .normal)(h:ST N E (bodyPost P fn<|nm E R) e f g s):XT ⟨none,[]⟩ N E (bodyPostM (wf none) 0 P fn<|nm E R) e f g s:=by
 intro a w ha hw;have h1:=h (kY a) w ha.2 hw
 rcases he with rfl | rfl
 all_goals
  obtain ⟨_,v,h2,h3⟩:=h1;show LeavesInM _ _ _ _ _ _ a.defers _ _;rw[ha.1];exact⟨v,h2,h3⟩
theorem XT.leave1 {fn:Func}{R:Value→PH→Own→Prop}{e:Exit}{D:Nat}(he:e = .ret∨e = .normal)(h:ST N E (bodyPost P fn<|nm E R) e f g s) :
  XT ⟨none,[⟨.collected D,#[]⟩]⟩ N E (bodyPostM (wf none) 0 P fn<|nm E R) e f g (pt D (.deferred<|some [])::s):=by
 intro a w ha hw;have hD:w.heap[D]?=some (.deferred<|some []):=At.here (i:=0) hw rfl;have hw2:=(At.obj (i:=0) (o':=.deferred none) hw rfl).sublist<|zj1 _ _;have h1:=h (kY a) _ ha.2 hw2
 rcases he with rfl | rfl
 all_goals
  obtain ⟨_,v,h2,h3⟩:=h1;show LeavesInM _ _ _ _ _ _ a.defers _ _;rw[ha.1];exact⟨by simp,.inl ⟨D,_,I,run_takeDeferred hD,v,h2,h3⟩⟩
theorem Du {a:Act}{t:Nat}{u:Value}(h:Ok N f (kY a))(ht:t<N):Ok N ((t,u)::f) { tmps:=((#[t]:Array Tmp).zip [u].toArray).foldl (fun t (p,v)=>t.setIfInBounds p v) a.tmps,defers:=[] }:=by
 have:=h.put ht u;simpa [Act.put,kY] using this
theorem Dt {a:Act}{t t':Nat}{u u':Value}(h:Ok N f (kY a))(ht:t<N)(ht':t'<N):Ok N ((t',u')::(t,u)::f) { tmps:=((#[t,t']:Array Tmp).zip [u,u'].toArray).foldl (fun t (p,v)=>t.setIfInBounds p v) a.tmps,defers:=[] }:=by
 have:=(h.put ht u).put ht' u';simpa [Act.put,kY] using this
def wX {α ι:Type}(E:World)(G:ι→PH)(S:ι→Own)(J:List α→ι→Prop)(pre:List α)(x:α)(sx:Own):Exit→Act→World→Prop:=fun e _ w'=>e = .normal∧∃ j,At E (G j) (S j++sx) w'∧J (pre++[x]) j
def tE {N:Nat}(E:World)(g:PH)(s:Own)(fb:Fr):Exit→Act→World→Prop:=fun e a' w'=>e = .normal∧Okd [] N fb a'∧At E g s w'
theorem XT.roundEnd {α ι:Type}{G:ι→PH}{S:ι→Own}{J:List α→ι→Prop}{pre:List α}{x:α}{sx:Own}(j:ι)(hg:G j=g)(hs:S j++sx=s)(hj:J (pre++[x]) j):XT M N E (wX E G S J pre x sx) .normal f g s:=fun _ _ _ hw=>⟨rfl,j,by rw[hg,hs]; exact hw,hj⟩
theorem XT.assignEnd {fb:Fr}{ro:Option Nat}(hf:Sub fb f):XT ⟨ro,[]⟩ N E (tE (N:=N) E g s fb) .normal f g s:=fun _ _ ha hw=>⟨rfl,ha.sub hf,hw⟩
theorem XC.rangeFunc {α ι:Type}{gop:Operand}{ps:Array Tmp}{assign body:Code}{gf:FuncId}{lb:List Value}{encs:α→List Value}{xs:List α}{g0:PH}(G:ι→PH)(S:ι→Own)(J:List α→ι→Prop)(i0:ι)(sx0:Own)(fa:α→Fr)(fb:List α→α→ι→Fr)
  (hro:M.ro=none) (hg:ev f gop=some (.func (.func gf) #[] lb.toArray)) (eg:∀ args w,(callFunc gf args).run P w = .ok (.enter gf args) w) (hps:∀ x,(encs x).length=ps.size)
  (hG:G i0=g) (hS:S i0++sx0=s) (hseq:D0 P E gf lb encs xs g0) (hmono:∀ pre i,J pre i→Le g0 (G i)) (h0:J [] i0)
  (hfa:∀ x a,Ok N f (kY a)→Ok N (fa x) { tmps:=(ps.zip (encs x).toArray).foldl (fun t (p,v)=>t.setIfInBounds p v) a.tmps,defers:=[] })
  (hassign:∀ l pre x i sx,J pre i→XC P ⟨some l,[]⟩ N E assign (tE (N:=N) E (G i) (S i++sx)<|fb pre x i) (fa x) (G i) (S i++sx))
  (hbody:∀ l pre x suf i sx,xs=pre++x::suf→J pre i→XC P ⟨some l,[]⟩ N E body (wX E G S J pre x sx) (fb pre x i) (G i) (S i++sx))
  (hdone:∀ D j,J xs j→XT ⟨none,⟨.collected D,#[]⟩::M.ds⟩ N E Q .normal f (G j) (pt D (.deferred<|some [])::(S j++sx0))):XC P M N E (.rangeFunc gop ps assign body) Q f g s:=by
 subst hG hS;intro a w ha hw;rw[hro];refine wpIn_rangeFunc ?_;intro fn _;obtain ⟨rec,hrec⟩:∃ rec:LoopState→Option Code→Loop,rec=fun st pe=>{ state:=st,pending:=pe,fn,tmps:=a.tmps,params:=ps,assign,body,defers:=w.heap.size }:=⟨_,rfl⟩;obtain ⟨L,hL⟩:∃ L,L=w.heap.size+1:=⟨_,rfl⟩;obtain ⟨D,hD⟩:∃ D,D=w.heap.size:=⟨_,rfl⟩;obtain ⟨W1,hW1⟩:∃ W1,(w.alloc<|.deferred<|some []).alloc (.loop<|rec .ready none)=W1:=⟨_,rfl⟩;have hA:At E (G i0) (pt L (.loop<|rec .ready none)::pt D (.deferred<|some [])::(S i0++sx0)) W1:=by
  rw[← hW1,hL,hD];have h1:At E (G i0) (pt w.heap.size (.deferred<|some [])::(S i0++sx0)) (w.alloc<|.deferred<|some []):=hw.alloc (e:=pt w.heap.size<|.deferred<|some []) rfl rfl;have h2:=h1.alloc (e:=pt (w.alloc<|.deferred<|some []).heap.size<|.loop<|rec .ready none) rfl rfl;rw[World.size_alloc] at h2;exact h2
 obtain ⟨S2,hS2⟩:∃ S2:ι→Own,S2=fun i=>S i++(pt L (.loop<|rec .ready none)::pt D (.deferred<|some [])::sx0):=⟨_,rfl⟩;have hA2:At E (G i0) (S2 i0++[]) W1:=by
  rw[hS2,zc6];dsimp only;refine hA.perm ?_;have h1:(pt L (.loop<|rec .ready none)::pt D (.deferred<|some [])::(S i0++sx0))=[pt L<|.loop<|rec .ready none,pt D<|.deferred<|some []]++(S i0++sx0):=rfl;have h2:S i0++(pt L (.loop<|rec .ready none)::pt D (.deferred<|some [])::sx0)=S i0++([pt L<|.loop<|rec .ready none,pt D<|.deferred<|some []]++sx0):=rfl;rw[h1,h2,← zg8,← zg8];exact List.perm_append_comm.append_right _
 refine⟨L,[{ target:=.collected D,args:=#[] }],W1,{ target:=.fn (.func gf) lb.toArray,args:=#[.func (.yield L) #[] #[]] },W1,gf,(.func (.yield L) #[] #[]::lb).toArray,W1,?_,?_,fun _ _=>trivial,?_,fun h=>(by cases h),?_⟩
 ·rw[← hW1,hrec,hL,hD]; exact run_enterLoop_outer _ _ _ _ _
 ·have h1:a.eval gop = .func (.func gf) #[] lb.toArray:=ha.ev hg;simp only[resolve,h1];simp[go_sem]
 ·have:(#[.func (.yield L) #[] #[]]++lb.toArray:Array Value)=(.func (.yield L) #[] #[]::lb).toArray:=by simp
  simp[invoke,go_sem,eg]
 ·refine (callsIn_wide (n:=0 - 1)).2<|(hseq L ι G S2 J i0 h0 hmono ?_ [] W1 hA2).mono ?_
  ·intro pre x suf i sx hxs hJ W hW;rw[hS2] at hW;simp only[zg8,List.cons_append] at hW;have hlen:(S i).length=(S i).length:=rfl;have gl:∀ (i:ι) (u u':Ent) (r:Own),(S i++u::u'::r)[(S i).length]?=some u:=fun i u u' r=>by simp
   have hl:=hW.here<|gl i _ _ _;have hy:=run_yield (P:=P) (args:=(encs x).toArray) hl (by rw[hrec]; simpa using hps x);rw[hrec] at hy;refine⟨fn,_,assign,body,hy,roundIn_of_wpIn trivial ?_⟩;refine Code.wpIn_mono (fun e a1 w1 h1=>?_)<|hassign L pre x i _ hJ { tmps:=(ps.zip (encs x).toArray).foldl (fun t (p,v)=>t.setIfInBounds p v) a.tmps,defers:=[] } W ⟨I,hfa x a ha.2⟩ hW;obtain ⟨rfl,ha1,hw1⟩:=h1;have hl1:=hw1.here<|gl i _ _ _;refine⟨_,run_beginRound hl1 (by rw[hrec]),?_⟩;have hset:∀ (i:ι) (u u' v:Ent) (r:Own),(S i++u::u'::r).set (S i).length v=S i++v::u'::r:=fun i u u' v r=>by simp
   have hw2:=hw1.obj (o':=.loop { rec .ready none with state:=.busy })<|gl i _ _ _;rw[hset] at hw2;refine Code.wpIn_mono (fun e a3 w3 h3=>?_)<|hbody L pre x suf i _ hxs hJ a1 _ ha1 hw2;obtain ⟨rfl,j,hw3,hJ3⟩:=h3;have hl3:=hw3.here<|gl j _ _ _;have he:=run_endRound (P:=P) none hl3;have hw4:=hw3.obj (o':=.loop { (rec .ready none) with state:=.ready,pending:=none })<|gl j _ _ _;rw[hset] at hw4;refine⟨_,_,he,.bool true,G j,S2 j++sx,I,?_,I,j,hJ3,I,I⟩;rw[hS2];simp only[zg8,List.cons_append];rw[hrec] at hw4 ⊢;exact hw4
  ·rintro e W2 ⟨v,g',s',rfl,hat,j,hJ,rfl,rfl⟩;rw[hS2,zc6] at hat;have gl:∀ (i:ι) (u u':Ent) (r:Own),(S i++u::u'::r)[(S i).length]?=some u:=fun i u u' r=>by simp
   have hl:=hat.here<|gl j _ _ _;have he:=run_endLoop (P:=P) hl (by rw[hrec]; simp);have h2:=hat.obj (o':=.loop { (rec .ready none) with state:=.exhausted })<|gl j _ _ _;have hset:∀ (i:ι) (u u' v:Ent) (r:Own),(S i++u::u'::r).set (S i).length v=S i++v::u'::r:=fun i u u' v r=>by simp
   rw[hset] at h2;have hpn:(rec .ready none).pending=none:=by rw[hrec]
   refine⟨none,_,he.trans<|ze2 (fun p=>Result.ok p _) hpn,?_⟩;refine hdone D j hJ _ _ ⟨by rw[← ha.1]; rfl,ha.2⟩ ?_;have h3:=(h2.sublist (s':=S j++pt D (.deferred<|some [])::sx0)<|by exact (zc3 _).append<|zj1 _ _).perm zk2;exact h3
end
end Go.Sy
namespace Go.Sy
open Go
section
variable {P:Program}{M:Md}{N:Nat}{E:World}{Q:Exit→Act→World→Prop}{f:Fr}{g:PH}{s:Own}{dst:Option Tmp}{ty:TypeId}{pos:String}{af:Array Edge}{gd:Option (Nat×Bool)}
end
end Go.Sy
namespace Go.Sy
open Go
section
variable {P:Program}{M:Md}{N:Nat}{E:World}{Q:Exit→Act→World→Prop}{f:Fr}{g:PH}{s:Own}{dst:Option Tmp}{ty:TypeId}{pos:String}{af:Array Edge}{gd:Option (Nat×Bool)}
def qO {κ:Type}{N:Nat}(E:World)(g:PH)(s:Own)(fb:κ→Fr)(X:κ→Own):Exit→Act→World→Prop:=fun e a' w'=>e = .normal∧∃ q,Okd [] N (fb q) a'∧At E g (X q++s) w'
theorem XT.assignEndA {κ:Type}{fb:κ→Fr}{X:κ→Own}{ro:Option Nat}{s0:Own}(q:κ)(hf:Sub (fb q) f)(hs:X q++s0=s):XT ⟨ro,[]⟩ N E (qO (N:=N) E g s0 fb X) .normal f g s:=fun _ _ ha hw=>⟨rfl,q,ha.sub hf,by rw[hs]; exact hw⟩
end
end Go.Sy
namespace Go.Proofs.YtmmghffoakhheaaGreatDoor
open _root_.Go.Proofs.Tryz _root_.Go.Proofs.YtmmghffoakhheaaGreatDoor.Tryz
open Go Go.Sy Go.Pl Go.Proofs
set_option maxRecDepth 100000
set_option maxHeartbeats 1000000
theorem nJ {α β:Type}{l:List α}{k:Nat}(h:k<l.length)(p:α→Bool)(f:α→β):((l.take<|k+1).filter p).map f=((l.take k).filter p).map f++(if p l[k] then [f l[k]] else []):=by
 rw[tS h,zh6,zg5];congr 1;simp only[zi6,List.filter_nil];split <;> rfl
theorem us {α β:Type}(l:List α)(k:Nat)(p:α→Bool)(f:α→β):(((l.take k).filter p).map f).length≤k:=by
 rw[ze6];refine zk8 (zc5 _ _) ?_;rw[ze4]; omega
theorem Tryz.buildE54 (w:World):(Instr.build 54 #[]).run Tryz.prog w = .ok (.agg #[vi 0,vi 0,.slice none 0 0]) w:=by
 simp[Instr.build,Instr.fill];rfl
def eh (l:List Cl)(d:Int):List Int:=((aW l).filter fun c=>decide (c.dim=d)).map Cl.id
theorem SU.maxI {P:Program}{N:Nat}{f:Fr}{dst:Option Tmp}{ty:TypeId}{pos:String}{af:Array Edge}{gd:Option (Nat×Bool)}{x y:Operand}{T U:TypeId}{m n:Int}(hx:ev f x=some (vi m))(hy:ev f y=some (vi n)) :
  SU P N ⟨dst,.call ⟨.builtin .max,#[x,y],#[T,U]⟩,ty,pos,af,gd⟩ f (vi<|max m n):=fun a w ha=>by
 have h:=run_max_int2 (P:=P) (w:=w) #[T,U] ty .i64 .i64 m n;have h2:(if m<n then n else m)=max m n:=by split <;> omega
 rw[h2] at h;simp[execOp,resolve,invoke,builtin,ha.ev hx,ha.ev hy,h]
theorem ja (E:World)(g:PH)(s:Own)(v:Value)(l:List Cl)(d:Int)(hv:ak g v l)(hf:a8 l) :
  Ctr Tryz.prog E 18 #[.agg #[v],vi d] g s (fun r g' s'=>s=s'∧Le g g'∧dJ g' r (eh l d)):=by
 have hft:=bL hf;have hfl:=hft.1;obtain ⟨p,c,rfl⟩:=hv.form;refine zb1 (args:=[.agg #[.slice p l.length c],vi d]) func18 I ntmps18 (bE I)<|rZ (bW (bO I) fun b2=>?_);refine aT I<|rZ<|aT I<|rZ<|lK (qV 0 ar ag I I I)<|lW (SO.call call42 I<|dy E g _ _ l hv hf) ?_;rintro v9 g1 _ ⟨rfl,hle,hc⟩;obtain ⟨rs,hrs,hall⟩:=hc;obtain ⟨q,dd,rfl⟩:=hrs.form;refine aT I<|sQ<|rZ<|aT I<|bK ?_;have hrl:=hall.length;unfold eh;generalize aW l=A at *;refine zb5 3 1<|SC.loop (ι:=Value×Nat) (fun i=>[(1,vi d),(5,i.1),(6,.slice q rs.length dd),(7,vi i.2)]) (fun _=>g1) (fun i=>rowA ae 3 i.1 (((A.take i.2).filter fun c=>decide (c.dim=d)).map Cl.id)::pt b2 (.cells #[.slice p l.length c] 29 (0,0))::s)
  (fun i=>i.2≤A.length) (fun i=>A.length - i.2) (.slice none 0 0,0) sB rfl rfl (zf6 _) ?_
 rintro ⟨ov,k⟩ hk;dsimp only at hk ⊢;refine sQ<|sW I<|lM I<|lU (eN aF I)<|yL I<|tZ<|iP I (fun hlt=>?_) (fun hlt=>?_)
 ·have hkl:k<A.length:=oM;have hkr:k<rs.length:=oM;have hb1:=hrs.based oM;have hcr:=hall.get (gE hkl)<|gE hkr;have hgr:rs[((k:Nat):Int).toNat]?=some rs[k]:=gE hkr;have hsucc:=nJ hkl (fun c=>decide (c.dim=d)) Cl.id;have hlek:=us A k (fun c=>decide (c.dim=d)) Cl.id;have hxl:=hft.2 _<|gM hkl;generalize A[k]=x at *;generalize rs[k]=r at *;refine kP<|tN<|sQ<|bK<|sW I<|lM I<|lU (iA aF au I I hb1 oM sL)<|lU (fC aw I zT3 I hb1)<|lK (aZ (e:=encCell) (o:=1) (u:=vi x.dim) iT3 I hrs.rd hgr (by rw[← hcr.2.1]; rfl)) ?_;refine lM I<|yE I<|tZ<|iP I (fun hd=>?_) (fun hd=>?_)
  ·refine rG<|lM I<|lM I<|lM I<|lU (iA aF au I I hb1 oM sL)<|lU (fC aw I zT3 I hb1)<|lK (aZ (e:=encCell) (o:=0) (u:=vi x.id) iT3 I hrs.rd hgr (by rw[← hcr.1]; rfl)) ?_;refine lW (bS sty22 I I I (ab sB) dC) ?_;rintro _ _ _ ⟨b29,rfl,rfl,rfl⟩;refine lW (aP (e:=ae) 0 x.id sty22 I I I I I oM oM) ?_;rintro ov' _ _ ⟨rfl,rfl⟩;refine lA I<|nL<|bN<|tN<|rG<|lM I<|yD I<|lA I<|nL ?_;refine ST.to (fun w hw=>?_) (g':=g1) (s':=rowA ae 3 ov' (((A.take<|k+1).filter fun c=>decide (c.dim=d)).map Cl.id)::pt b2 (.cells #[.slice p l.length c] 29 (0,0))::s) ?_
   ·rw[hsucc,zg1<|zf8 hd]; exact hw
   exact ST.again (ov',k+1) sB I I (by dsimp only; omega) lN
  ·refine kP<|bN<|tN<|rG<|lM I<|yD I<|lA I<|nL ?_;refine ST.to (fun w hw=>?_) (g':=g1) (s':=rowA ae 3 ov (((A.take<|k+1).filter fun c=>decide (c.dim=d)).map Cl.id)::pt b2 (.cells #[.slice p l.length c] 29 (0,0))::s) ?_
   ·rw[hsucc,zf9 (by rw[zf7 hd]; simp),zc6]; exact hw
   exact ST.again (ov,k+1) sB I I (by dsimp only; omega) lN
 ·have hkk:A.take k=A:=tL oM;rw[hkk];refine xI (tX<|tX<|bX<|tN<|sW I<|aT I<|rE<|fT fun g2 hle2 hs2=>?_);exact dR (s':=s) uR<|za7 (.inl I) results18 I ⟨I,hle.trans hle2,hs2⟩
theorem uU (E:World)(g:PH)(s:Own)(c:Cl)(r:Rc)(id:Int)(hc:ay g c r)(hl:c.sides.length<1099511627776) :
  Ctr Tryz.prog E 88 #[rcv r,vi id] g s (fun x g' s'=>x=vb (lH c id)∧g=g'∧s=s'):=by
 obtain ⟨ri,rd,⟨rp,rn,rc⟩⟩:=r;have hs:SlA encSide g (.slice rp rn rc) c.sides:=hc.2.2;have hn:rn=c.sides.length:=zc1 hs;subst hn;refine zb1 (args:=[rcv ⟨ri,rd,⟨rp,c.sides.length,rc⟩⟩,vi id]) func88 I ntmps88 (bE I)<|rZ (bW (bO I) fun b2=>?_);refine aT I<|sQ<|rZ<|aT I<|bK<|SC.loop (ι:=Nat) (fun k=>[(1,vi id),(2,pp b2 0),(5,vi k)]) (fun _=>g) (fun _=>pt b2 (.cells #[vi ri,vi rd,.slice rp c.sides.length rc] 54 (0,0))::s)
  (fun k=>k≤c.sides.length∧(c.sides.take k).any (fun x=>decide (x.cell=id))=false) (fun k=>c.sides.length - k) 0 sB rfl rfl ⟨zf6 _,rfl⟩ ?_
 rintro k ⟨hk,hno⟩;refine sQ<|sW I<|lU (fA aw I aO I)<|lK (qL (v:=.slice rp c.sides.length rc) bh I<|cO 0 I I)<|lU (eN aI I)<|yL I<|tZ<|iP I (fun hlt=>?_) (fun hlt=>?_)
 ·have hkl:k<c.sides.length:=oM;have hb1:=hs.based oM;have hgk:c.sides[((k:Nat):Int).toNat]?=some c.sides[k]:=gE hkl;have htk:(c.sides.take<|k+1).any (fun x=>decide (x.cell=id))=((c.sides.take k).any (fun x=>decide (x.cell=id))||decide (c.sides[k].cell=id)):=by
   rw[tS hkl,List.any_append]; simp
  have hmem:c.sides[k]∈c.sides:=gM hkl;generalize c.sides[k]=x at *;refine kP<|tN<|sQ<|bK<|rZ<|lU (fA aw I aO I)<|lK (qL (v:=.slice rp c.sides.length rc) bh I<|cO 0 I I)<|lM I<|lU (iA aI aB I I hb1 oM sL)<|lU (fC co I zT3 I hb1)<|lK (aZ (e:=encSide) (o:=0) (u:=vi x.cell) iT3 I hs.rd hgk I)<|lM I<|yE I<|tZ<|iP I (fun he=>?_) (fun he=>?_)
  ·exact rZ<|aT I<|rE<|bR<|tR<|tR<|bR<|tR<|dR (s':=s) uR<|za7 (.inl I) results88 I ⟨by rw[show lH c id=true from zj8.2 ⟨x,hmem,zf8 he⟩],I,I⟩
  ·exact kP<|bN<|tN<|rG<|lM I<|yD I<|lA I<|nL<|ST.again (k+1) sB I I ⟨oM,by rw[htk,hno,zf7 he]; rfl⟩ oM
 ·have hkk:c.sides.take k=c.sides:=tL oM;rw[hkk] at hno;exact xI<|tX<|tX<|bX<|tN<|rZ<|aT I<|rE<|dR (s':=s) uR<|za7 (.inl I) results88 I ⟨by rw[show lH c id=false from hno],I,I⟩
theorem cj (E:World)(g:PH)(s:Own)(v:Value)(l:List Cl)(id:Int)(hv:ak g v l)(hf:a8 l) :
  Ctr Tryz.prog E 54 #[.agg #[v],vi id] g s (fun r g' s'=>s=s'∧Le g g'∧dJ g' r (ah l id)):=by
 have hft:=bL hf;have hfl:=hft.1;obtain ⟨p,c,rfl⟩:=hv.form;refine zb1 (args:=[.agg #[.slice p l.length c],vi id]) func54 I ntmps54 (bE I)<|rZ (bW (bO I) fun b2=>?_);refine aT I<|rZ<|aT I<|rZ<|lK (qV 0 ar ag I I I)<|lW (SO.call call42 I<|dy E g _ _ l hv hf) ?_;rintro v9 g1 _ ⟨rfl,hle,hc⟩;obtain ⟨rs,hrs,hall⟩:=hc;obtain ⟨q,dd,rfl⟩:=hrs.form;refine aT I<|sQ<|rZ<|aT I<|bK ?_;have hrl:=hall.length;unfold ah;generalize aW l=A at *;refine zb5 3 1<|SC.loop (ι:=Value×Nat) (fun i=>[(1,vi id),(5,i.1),(6,.slice q rs.length dd),(7,vi i.2)]) (fun _=>g1) (fun i=>rowA ae 3 i.1 (((A.take i.2).filter fun c=>lH c id).map Cl.id)::pt b2 (.cells #[.slice p l.length c] 29 (0,0))::s)
  (fun i=>i.2≤A.length) (fun i=>A.length - i.2) (.slice none 0 0,0) sB rfl rfl (zf6 _) ?_
 rintro ⟨ov,k⟩ hk;dsimp only at hk ⊢;refine sQ<|sW I<|lM I<|lU (eN aF I)<|yL I<|tZ<|iP I (fun hlt=>?_) (fun hlt=>?_)
 ·have hkl:k<A.length:=oM;have hkr:k<rs.length:=oM;have hb1:=hrs.based oM;have hcr:=hall.get (gE hkl)<|gE hkr;have hgr:rs[((k:Nat):Int).toNat]?=some rs[k]:=gE hkr;have hsucc:=nJ hkl (fun c=>lH c id) Cl.id;have hlek:=us A k (fun c=>lH c id) Cl.id;have hxl:=hft.2 _<|gM hkl;generalize A[k]=x at *;generalize rs[k]=r at *;refine kP<|tN<|sQ<|bK<|sW I<|lM I<|lU (iA aF au I I hb1 oM sL)<|lK (eA bQ au I hrs.rd hgr)<|lM I<|lW (SO.call call88 I<|uU E g1 _ x r id hcr hxl) ?_;rintro _ _ _ ⟨rfl,rfl,rfl⟩;refine tZ<|iQ I (fun hd=>?_) (fun hd=>?_)
  ·refine rG<|lM I<|lM I<|lM I<|lU (iA aF au I I hb1 oM sL)<|lU (fC aw I zT3 I hb1)<|lK (aZ (e:=encCell) (o:=0) (u:=vi x.id) iT3 I hrs.rd hgr (by rw[← hcr.1]; rfl)) ?_;refine lW (bS sty22 I I I (ab sB) dC) ?_;rintro _ _ _ ⟨b28,rfl,rfl,rfl⟩;refine lW (aP (e:=ae) 0 x.id sty22 I I I I I oM oM) ?_;rintro ov' _ _ ⟨rfl,rfl⟩;refine lA I<|nL<|bN<|tN<|rG<|lM I<|yD I<|lA I<|nL ?_;refine ST.to (fun w hw=>?_) (g':=g1) (s':=rowA ae 3 ov' (((A.take<|k+1).filter fun c=>lH c id).map Cl.id)::pt b2 (.cells #[.slice p l.length c] 29 (0,0))::s) ?_
   ·rw[hsucc,zg1<|hd]; exact hw
   exact ST.again (ov',k+1) sB I I (by dsimp only; omega) lN
  ·refine kP<|bN<|tN<|rG<|lM I<|yD I<|lA I<|nL ?_;refine ST.to (fun w hw=>?_) (g':=g1) (s':=rowA ae 3 ov (((A.take<|k+1).filter fun c=>lH c id).map Cl.id)::pt b2 (.cells #[.slice p l.length c] 29 (0,0))::s) ?_
   ·rw[hsucc,zf9 (by rw[hd]; simp),zc6]; exact hw
   exact ST.again (ov,k+1) sB I I (by dsimp only; omega) lN
 ·have hkk:A.take k=A:=tL oM;rw[hkk];refine xI (tX<|tX<|bX<|tN<|sW I<|aT I<|rE<|fT fun g2 hle2 hs2=>?_);exact dR (s':=s) uR<|za7 (.inl I) results54 I ⟨I,hle.trans hle2,hs2⟩
theorem aR (E:World)(g:PH)(s:Own)(v:Value)(l:List Cl)(id:Int)(hv:ak g v l)(hf:a8 l) :
  Ctr Tryz.prog E 68 #[.agg #[v],vi id] g s (fun r g' s'=>s=s'∧Le g g'∧∃ x,r = .tuple #[rcv x,vb (findC l id).isSome]∧ay g' ((findC l id).getD bg) x):=by
 have hft:=bL hf;have hfl:=hft.1;obtain ⟨p,c,rfl⟩:=hv.form;have hsrt:=kx l;have hnd:=jV l;refine zb1 (args:=[.agg #[.slice p l.length c],vi id]) func68 I ntmps68 (bE I)<|rZ (bW (bO I) fun b2=>?_);refine bW (aL zl3) fun b4=>aT I<|rZ<|lK (qV 1 ar ag I I I)<|lW (SO.call call42 I<|dy E g _ _ l hv hf) ?_;rintro v9 g1 _ ⟨rfl,hle,hc⟩;obtain ⟨rs,hrs,hall⟩:=hc;have hcs:ak g1 _ (aW l):=⟨rs,hrs,hall⟩;obtain ⟨q,dd,rfl⟩:=hrs.form;refine aT I<|sW I<|lM I<|lW (SO.call call62 I<|jx E g1 _ _ (aW l) id hcs hfl hsrt) ?_;rintro _ _ _ ⟨rfl,rfl,rfl⟩;refine aT I<|sQ<|sW I<|yL I<|tZ ?_;have hrl:=hall.length;unfold findC;generalize aW l=A at *;have haf:=qS hsrt id;refine iP I (fun hneg=>?_) (fun hneg=>?_)
 ·rcases haf with ⟨h1,h2⟩ | ⟨x,k,h1,h2,h3⟩
  ·have hno:(A.find? fun c=>decide (c.id=id))=none:=h1;exact rZ<|lU (za2 I<|buildE54)<|oZ (sK 0 au I I I I I sB)<|aT I<|rE<|tR<|ST.retCD1 0 s (.inl I) results68 I I bQ au I I uR ⟨I,hle,yj,by rw[hno]; rfl,by rw[hno]; exact yw g1⟩
  ·rw[h2] at hneg; omega
 ·rcases haf with ⟨h1,h2⟩ | ⟨x,k,h1,h2,h3⟩
  ·rw[h2] at hneg; omega
  ·have hyes:(A.find? fun c=>decide (c.id=id))=some x:=h1;rw[h2];have hkl:k<A.length:=(zf5.1 h3).1;have hkr:k<rs.length:=oM;have hb1:=hrs.based oM;have hcr:=hall.get h3<|gE hkr;have hgr:rs[((k:Nat):Int).toNat]?=some rs[k]:=gE hkr;generalize rs[k]=r at *;obtain ⟨ri,rd,⟨rp,rn,rc⟩⟩:=r;exact kP<|tN<|sW I<|lM I<|lU (iA aF au I I hb1 oM sL)<|lK (eA bQ au I hrs.rd hgr)<|oZ (sK 0 au I I I I I sB)<|aT I<|rE<|ST.retCD1 0 s (.inl I) results68 I I bQ au I I uR ⟨I,hle,⟨ri,rd,⟨rp,rn,rc⟩⟩,by rw[hyes]; rfl,by rw[hyes]; exact hcr⟩
end Go.Proofs.YtmmghffoakhheaaGreatDoor
namespace Go.Sy
open Go
section
variable {α:Type}{k:Nat}{P:Program}{N:Nat}{E:World}{f:Fr}{g:PH}{s:Own}{dst:Option Tmp}{ty:TypeId}{pos:String}{af:Array Edge}{gd:Option (Nat×Bool)}
theorem SO.makeC {x y:Operand}{t T:TypeId}{bytes n:Nat}{z:Value}(e:Enc α k)(hT:STy P t T k bytes z)(hx:ev f x=some (vi 0))(hy:ev f y=some (vi n))(hb:n * bytes≤140737488355328)(hlen:n≤4611686018427387904) :
  SO P N E ⟨dst,.makeSlice t x y,ty,pos,af,gd⟩ f g s fun v' g' s'=>g=g'∧s'=rowA e T v' []::s :=
 SO.of_run fun ac w ha hw=>by
  obtain ⟨ti,ht1,ht2,ht3,ht4⟩:=hT.info;have hbi:(ti.bytes:Int) * ((n:Nat):Int)≤281474976710656:=by
   rw[ht4,← Int.natCast_mul,Nat.mul_comm]; omega
  have h5:=run_make (P:=P) w t T ti z hT.und ht1 ht2 .i64 .i64 0 n oM oM hbi oM;simp only[Int.toNat_natCast] at h5;rw[ht3] at h5;have hrun:(execOp ac.eval ⟨dst,.makeSlice t x y,ty,pos,af,gd⟩).run P w = .ok (.value<|.slice (some ⟨w.heap.size,0,none⟩) 0 n) (w.alloc<|.cells (madeCells z.cells<|n * k) T):=by
   simp[execOp,ha.ev hx,ha.ev hy,h5]
  have hnew:(w.alloc<|.cells (madeCells z.cells<|n * k) T).heap[w.heap.size]?=some (.cells (madeCells z.cells<|n * k) T (0,0)):=heap_alloc_new w _;refine⟨_,_,g,_,hrun,?_,I,I⟩;cases n with
  | zero =>
   have h6:=hw.emptyRow T k<|some ⟨w.heap.size,0,none⟩;have h7:=h6.alloc (e:=pt w.heap.size<|.cells (madeCells z.cells<|0 * k) T (0,0)) (o:=.cells (madeCells z.cells<|0 * k) T (0,0)) rfl rfl;exact h7.sublist<|zj1 _ _
  | succ n =>
   have hsz:(madeCells z.cells<|(n+1) * k).size=(n+1) * k:=by simp[madeCells]
   exact hw.alloc (e:=rowA e T (.slice (some ⟨w.heap.size,0,none⟩) 0<|n+1) []) (o:=.cells (madeCells z.cells<|(n+1) * k) T (0,0)) I ⟨by simp,.inr ⟨_,n,_,I,I,by simp,by unfold maxLen; omega,hsz,by simp⟩⟩
def kJ:Enc Int 1:=⟨fun n=>[.int .u8 n],fun _=>rfl,fun _ u hu=>by simp at hu; subst hu; rfl,by decide⟩
def DS:Enc Int 1:=⟨fun n=>[.int .u64 n],fun _=>rfl,fun _ u hu=>by simp at hu; subst hu; rfl,by decide⟩
def byt (l:List Int):List UInt8:=l.map fun n=>UInt8.ofNat n.toNat
def txt (l:List UInt8):Value:=.string ⟨l.toArray⟩
theorem AD (l:List Int):∀ s:ByteArray,l.foldl (fun r n=>r.push<|UInt8.ofNat n.toNat) s=⟨s.data++(byt l).toArray⟩:=by
 induction l with
 | nil=>intro s; simp[byt]
 | cons a t ih =>
  intro s;simp only[zi7];rw[ih];simp[byt,ByteArray.push]
theorem xV (l:List Int):l.flatMap kJ.enc=l.map (Value.int .u8):=by
 induction l with
 | nil=>rfl
 | cons a t ih=>simp only[zh5,zg4,ih]; rfl
theorem SQ.bytesText {x:Operand}{S D e:TypeId}{p:Option Addr}{c:Nat}{l:List Int}(hs:P.underlying S=some (.slice e))(he:P.underlying e=some (.int .u8))(hd:P.underlying D=some .string)
  (hx:ev f x=some (.slice p l.length c)) (hr:Rd g s (.slice p l.length c) (l.flatMap kJ.enc)) :
  SQ P N E ⟨dst,.convert S D x,ty,pos,af,gd⟩ f g s (txt<|byt l):=fun a w ha hw=>by
 have h1:(convert S D<|.slice p l.length c).run P w = .ok (txt<|byt l) w:=by
  rw[run_convert_bytes_string w S D e p l.length c hs he hd];rw[xV] at hr;cases l with
  | nil =>
   cases p with
   | none=>simp[Conv.bytesToString,txt,byt]; rfl
   | some a =>
    have h2:=run_bytesToString (P:=P) w a 0 c [] (by simp[loadCells]; exact cM (P:=P) (w:=w) (b:=a.block) (o:=a.off) 0 0 [] #[] I (fun j y hy=>by simp at hy));rw[zc4,h2];rfl
  | cons n t =>
   obtain ⟨q,n',c',he1,hsp,hc0⟩:=hr E w hw 0 (.int .u8 n) rfl;injection he1 with he1 he2 he3
   subst he1;obtain ⟨qb,qo,qs⟩:=q;dsimp only at hsp;subst hsp;have h2:=run_bytesToString (P:=P) w ⟨qb,qo,none⟩ (n::t).length c (n::t) (by
    have:=cM (P:=P) (w:=w) (b:=qb) (o:=qo) (n::t).length 0 ((n::t).map (Value.int .u8)) #[] (by simp) (fun j y hy=>by
     obtain ⟨q',n2,c2,he4,_,hc1⟩:=hr E w hw j y hy;injection he4 with he4
     injection he4 with he4
     subst he4;simpa using hc1)
    simpa [loadCells] using this)
   rw[h2,AD];simp[txt]
 simp[execOp,ha.ev hx,h1]
theorem vW (l:List UInt8):(⟨l.toArray⟩:ByteArray).toList=l:=by rw[ByteArray.toList_eq]
theorem SU.neqT {x y:Operand}{T U:TypeId}{l m:List UInt8}(hx:ev f x=some (txt l))(hy:ev f y=some (txt m)) :
  SU P N ⟨dst,.binOp .neq T x y U,ty,pos,af,gd⟩ f (.bool<|decide (l≠m)):=fun ac w ha=>by
 have hg:(eqGuard .neq T x y (txt l)<|txt m).run P w = .ok () w:=by simp[eqGuard,txt]
 have hb:(binOp .neq T (txt l)<|txt m).run P w = .ok (.bool<|decide (l≠m)) w:=by
  unfold txt;rw[binOp_string_neq,vW,vW];by_cases h:l=m <;> simp[h,bne] <;> rfl
 simp only[execOp,ha.ev hx,ha.ev hy,Sem.run_bind,hg,zd1,hb];rfl
end
end Go.Sy
namespace Go.Proofs.YtmmghffoakhheaaGreatDoor
open _root_.Go.Proofs.Tryz _root_.Go.Proofs.YtmmghffoakhheaaGreatDoor.Tryz
open Go Go.Sy Go.Pl Go.Proofs Go.Shelf
set_option maxRecDepth 100000
set_option maxHeartbeats 1000000
theorem DV {f:Fr}{t:Nat}{a b:Int}(h:a7 f t=some (vi a))(e:a=b):a7 f t=some (vi b):=e ▸ h
theorem Tryz.sty191:STy Tryz.prog 191 189 1 8 (.int .u64 0):=⟨underlying191,⟨t189,by kernel_rfl,by kernel_rfl,by kernel_rfl,by kernel_rfl⟩,rfl,by decide⟩
theorem Tryz.sty23:STy Tryz.prog 23 5 1 1 (.int .u8 0):=⟨underlying23,⟨t5,by kernel_rfl,by kernel_rfl,by kernel_rfl,by kernel_rfl⟩,rfl,by decide⟩
def ep (l:List Int):List Int:=(l.reverse.dropWhile (· == 0)).reverse
theorem pJ {m:List Int}(h:0<m.length)(h0:m.getD (m.length - 1) 1=0):ep (m.take<|m.length - 1)=ep m:=by
 rcases List.eq_nil_or_concat m with rfl | ⟨a,x,rfl⟩
 ·simp at h
 ·have hx:x=0:=by simpa [zh1] using h0
  subst hx;simp[ep]
theorem pH {m:List Int}(h:(decide ((m.length:Int)>0)&&decide (m.getD (m.length - 1) 1=0))=false):ep m=m:=by
 rcases List.eq_nil_or_concat m with rfl | ⟨a,x,rfl⟩
 ·rfl
 ·have hx:x≠0:=by simpa [zh1] using h
  simp[ep,hx]
theorem Ad (E:World)(g:PH)(s:Own)(v:Value)(l:List Int)(hv:SlA DS g v l)(hl:l.length<1099511627776) :
  Ctr Tryz.prog E 171 #[v] g s (fun r g' s'=>g=g'∧s=s'∧SlA DS g r (ep l)):=by
 refine zb1 (args:=[v]) func171 I ntmps171 (bE I)<|rZ<|aT I<|sQ<|bK<|SC.loop (ι:=Value×List Int) (fun i=>[(0,i.1)]) (fun _=>g) (fun _=>s) (fun i=>SlA DS g i.1 i.2∧ep i.2=ep l∧i.2.length≤l.length) (fun i=>i.2.length) (v,l) ⟨I,trivial⟩ I I ⟨hv,I,lR _⟩ ?_;rintro ⟨v1,m⟩ ⟨hm,htr,hle⟩;dsimp only at hm htr hle ⊢;obtain ⟨p,c,rfl⟩:=za3 hm;have hcap:=(SlA.cap hm).2;have f1:(m.length:Int)>0→(decide ((m.length:Int)>0)&&decide (m.getD (m.length - 1) 1=0))=decide (m.getD (m.length - 1) 1=0):=fun h=>by rw[zf8 h,Bool.true_and]
 have f2:¬ (m.length:Int)>0→(decide ((m.length:Int)>0)&&decide (m.getD (m.length - 1) 1=0))=false:=fun h=>by simp only[h,decide_false,Bool.false_and]
 have hgl:(m.length:Int)>0→m[((m.length:Int) - 1).toNat]?=some (m.getD (m.length - 1) 1):=fun h=>by
  have h1:((m.length:Int) - 1).toNat=m.length - 1:=oM;have h2:m.length - 1<m.length:=oM;rw[h1,zh1,gE h2]; rfl
 have hbs:(m.length:Int)>0→based (.slice p m.length c)=true:=fun h=>za5 hm oM;refine sQ<|SC.cutB 14 ((decide ((m.length:Int)>0)&&decide (m.getD (m.length - 1) 1=0))) ?_ ?_
 ·refine rG<|lM I<|lU (eN rF I)<|lU (gR I I)<|lM I<|sP ?_ ?_
  ·intro h6;exact yC I<|yC I<|lY I I I (eN rF I)<|lY I I I (sU I I oM)<|lY I I I (iA rF sizeOf189 I I (hbs h6) oM sL)<|SL.gq (gT I I I dC) (eB isAgg189 I (za6 hm) (hgl h6) I) dC<|lY I I I (eQ I I)<|yP I<|nL<|za9 (by (rw[f1 h6]; rfl)) mI
  ·intro h6;exact yA I<|yA I<|yA I<|yA I<|yA I<|yA I<|yA I<|yF I<|nL<|za9 (by (rw[f2 h6]; rfl)) mI
 refine iQ I (fun hc=>?_) (fun hc=>?_)
 ·rw[zj3,zj6,zj6] at hc;obtain ⟨hpos,hlast⟩:=hc;have h1:((m.length:Int) - 1).toNat=m.length - 1:=oM;refine kP<|tN<|bK<|rG<|lM I<|lM I<|lU (eN rF I)<|lU (sU I I oM)<|lU (SU.sliceH rF sizeOf189 I I oM oM)<|lA I<|nL<|bN<|ST.again (sliced p 0 ((m.length:Int) - 1).toNat c 1,m.take<|m.length - 1) ⟨I,trivial⟩ I I ⟨?_,?_,?_⟩ (by dsimp only; rw[ze4]; omega)
  ·have:=SlA.cut hm (l:=0) (m:=m.length - 1) (zf6 _) oM;dsimp only;rw[h1];simpa using this
  ·dsimp only; rw[pJ oM hlast]; exact htr
  ·dsimp only; rw[ze4]; omega
 ·exact xI<|tX<|tX<|bX<|tN<|sW I<|aT I<|rE<|za7 (.inl I) results171 I ⟨I,I,by rw[← htr,pH hc]; exact hm⟩
theorem tT (E:World)(g:PH)(s:Own)(v:Value)(l:List Int)(hv:SlA ae g v l)(hl:l.length<1099511627776) :
  Ctr Tryz.prog E 179 #[v] g s (fun r g' s'=>g=g'∧s=s'∧SlA ae g r (ep l)):=by
 refine zb1 (args:=[v]) func179 I ntmps179 (bE I)<|rZ<|aT I<|sQ<|bK<|SC.loop (ι:=Value×List Int) (fun i=>[(0,i.1)]) (fun _=>g) (fun _=>s) (fun i=>SlA ae g i.1 i.2∧ep i.2=ep l∧i.2.length≤l.length) (fun i=>i.2.length) (v,l) ⟨I,trivial⟩ I I ⟨hv,I,lR _⟩ ?_;rintro ⟨v1,m⟩ ⟨hm,htr,hle⟩;dsimp only at hm htr hle ⊢;obtain ⟨p,c,rfl⟩:=za3 hm;have hcap:=(SlA.cap hm).2;have f1:(m.length:Int)>0→(decide ((m.length:Int)>0)&&decide (m.getD (m.length - 1) 1=0))=decide (m.getD (m.length - 1) 1=0):=fun h=>by rw[zf8 h,Bool.true_and]
 have f2:¬ (m.length:Int)>0→(decide ((m.length:Int)>0)&&decide (m.getD (m.length - 1) 1=0))=false:=fun h=>by simp only[h,decide_false,Bool.false_and]
 have hgl:(m.length:Int)>0→m[((m.length:Int) - 1).toNat]?=some (m.getD (m.length - 1) 1):=fun h=>by
  have h1:((m.length:Int) - 1).toNat=m.length - 1:=oM;have h2:m.length - 1<m.length:=oM;rw[h1,zh1,gE h2]; rfl
 have hbs:(m.length:Int)>0→based (.slice p m.length c)=true:=fun h=>za5 hm oM;refine sQ<|SC.cutB 14 ((decide ((m.length:Int)>0)&&decide (m.getD (m.length - 1) 1=0))) ?_ ?_
 ·refine rG<|lM I<|lU (eN aG I)<|lU (gR I I)<|lM I<|sP ?_ ?_
  ·intro h6;exact yC I<|yC I<|lY I I I (eN aG I)<|lY I I I (sU I I oM)<|lY I I I (iA aG zT3 I I (hbs h6) oM sL)<|SL.gq (gT I I I dC) (eB iT3 I (za6 hm) (hgl h6) I) dC<|lY I I I (eQ I I)<|yP I<|nL<|za9 (by (rw[f1 h6]; rfl)) mI
  ·intro h6;exact yA I<|yA I<|yA I<|yA I<|yA I<|yA I<|yA I<|yF I<|nL<|za9 (by (rw[f2 h6]; rfl)) mI
 refine iQ I (fun hc=>?_) (fun hc=>?_)
 ·rw[zj3,zj6,zj6] at hc;obtain ⟨hpos,hlast⟩:=hc;have h1:((m.length:Int) - 1).toNat=m.length - 1:=oM;refine kP<|tN<|bK<|rG<|lM I<|lM I<|lU (eN aG I)<|lU (sU I I oM)<|lU (SU.sliceH aG zT3 I I oM oM)<|lA I<|nL<|bN<|ST.again (sliced p 0 ((m.length:Int) - 1).toNat c 1,m.take<|m.length - 1) ⟨I,trivial⟩ I I ⟨?_,?_,?_⟩ (by dsimp only; rw[ze4]; omega)
  ·have:=SlA.cut hm (l:=0) (m:=m.length - 1) (zf6 _) oM;dsimp only;rw[h1];simpa using this
  ·dsimp only; rw[pJ oM hlast]; exact htr
  ·dsimp only; rw[ze4]; omega
 ·exact xI<|tX<|tX<|bX<|tN<|sW I<|aT I<|rE<|za7 (.inl I) results179 I ⟨I,I,by rw[← htr,pH hc]; exact hm⟩
theorem sb (E:World)(g:PH)(s:Own)(v:Value)(hv:v.cells = #[v]) :
  Ctr Tryz.prog E 172 #[v] g s (fun r g' s'=>s=s'∧Le g g'∧∃ b,r = .func (.func 189) #[] #[pp b 0]∧g' b=some (.cells #[v] 191 (0,0))):=by
 refine zb1 (args:=[v]) func172 I ntmps172 (bE I)<|rZ (bW (bO I) fun b1=>?_);refine aT I<|rZ<|lU (SU.mkFunc I)<|aT I<|rE ?_;rw[hv];refine ST.freeze fun g1 hle hb=>?_;exact za7 (.inl I) results172 I ⟨I,hle,_,I,hb⟩
def sn (l:List Int):List (Nat×Int):=(l.zipIdx.map fun p=>(p.2,p.1)).reverse
theorem od (l:List Int):(sn l).length=l.length:=by simp[sn]
theorem BG {l:List Int}{k:Nat}(h:k<l.length):(sn l)[l.length - 1 - k]?=some (k,l[k]):=by
 unfold sn;rw[List.getElem?_reverse (by simp; omega)];simp only[ze6,List.length_zipIdx];rw[show l.length - 1 - (l.length - 1 - k)=k by omega];simp[h]
theorem pB (E:World)(g0:PH)(b:Nat)(v:Value)(l:List Int)(hb:g0 b=some (.cells #[v] 191 (0,0)))(hv:SlA DS g0 v l)(hl:l.length<1099511627776) :
  D0 Tryz.prog E 189 [pp b 0] (fun x:Nat×Int=>[vi x.1,.int .u64 x.2]) (sn l) g0:=by
 intro k ι G S J i0 h0 hmono hY sx;obtain ⟨p,c,rfl⟩:=za3 hv;refine Ctr.ofX (args:=[.func (.yield k) #[] #[],pp b 0]) func189 I ntmps189 (bE I)<|XC.seq<|XC.region<|XL.q (qL (v:=.slice p l.length c) isAgg191 I<|cK (hmono _ _ h0 _ _ hb) I) dC<|XL.u (eN rF I) dC<|XL.u (sU I I oM) dC<|XL.u (aS I) dC<|XL.nil<|XT.thenN<|XC.block<|XC.loop (ι:=ι×Nat) (fun i=>[(0,.func (.yield k) #[] #[]),(1,pp b 0),(3,vi<|(i.2:Int) - 1)]) (fun i=>G i.1) (fun i=>S i.1++sx) (fun i=>i.2≤l.length∧J ((sn l).take<|l.length - i.2) i.1) (fun i=>i.2) (i0,l.length)
  sB rfl rfl ⟨lR _,by simpa using h0⟩ ?_
 rintro ⟨j,n⟩ ⟨hn,hJ⟩;dsimp only at hn hJ ⊢;have hle:=hmono _ _ hJ;refine XC.seq<|XC.seq<|XC.region<|XL.u (mV I) dC<|XL.u (gQ I I) dC<|XL.nil<|XT.thenN<|XC.ifP I (fun hge=>?_) (fun hge=>?_)
 ·have hn1:n - 1<l.length:=oM;have hv':=za4 hv hle;have hb1:=za5 hv' oM;have hgx:l[((n:Int) - 1).toNat]?=some l[n - 1]:=by rw[show ((n:Int) - 1).toNat=n - 1 by omega]; exact gE hn1
  have hrg:=BG hn1;rw[show l.length - 1 - (n - 1)=l.length - n by omega] at hrg;have hsp:sn l=(sn l).take (l.length - n)++(n - 1,l[n - 1])::(sn l).drop (l.length - n+1):=by
   obtain ⟨h1,h2⟩:=zf5.1 hrg;rw[← h2,List.getElem_cons_drop,zj2]
  have hy:=hY _ _ _ j sx hsp hJ;have htk:(sn l).take (l.length - (n - 1))=(sn l).take (l.length - n)++[(n - 1,l[n - 1])]:=by
   obtain ⟨h1,h2⟩:=zf5.1 hrg;rw[show l.length - (n - 1)=l.length - n+1 by omega,tS h1,h2]
  generalize l[n - 1]=x at *;have hvn:vi ((n - 1:Nat):Int)=vi ((n:Int) - 1):=ze2 vi oM;dsimp only at hy;rw[hvn] at hy;refine XC.skip<|XT.thenN<|XC.seq<|XC.block<|XC.seq<|XC.region<|XL.u (mV I) dC<|XL.u (mV I) dC<|XL.q (qL (v:=.slice p l.length c) isAgg191 I<|cK (hle _ _ hb) I) dC<|XL.u (mV I) dC<|XL.u (iA rF sizeOf189 I I hb1 oM sL) dC<|XL.q (eB isAgg189 I (za6 hv') hgx I) dC<|XL.x (XO.yield I I hy) dC ?_;rintro _ _ _ ⟨rfl,j',hJ',rfl,rfl⟩;exact XL.u (SU.not I) dC<|XL.nil<|XT.thenN<|XC.condF I<|XC.skip<|XT.blockN<|XT.thenN<|XC.region<|XL.u (mV I) dC<|XL.u (sU I I oM) dC<|XL.u (aS I) dC<|XL.nil<|XT.again (j',n - 1) ⟨I,I,DV I oM,trivial⟩ I I ⟨by dsimp only; omega,by dsimp only; rw[htk]; exact hJ'⟩ (by dsimp only; omega)
 ·have hn0:n=0:=oM;subst hn0;exact XC.exit<|XT.thenX<|XT.thenX<|XT.blockX<|XT.leave0 (.inr I)<|ST.ret0 (.inr I) results189 ⟨j,by have:=hJ; rwa [tL (by rw[od]; omega)] at this,I,I⟩
def vu:Ren :=
 {
  f:=fun x =>
   match x with
   | 161=>173
   | 231=>190
   | 227=>191
   | 233=>192
   | 235=>193
   | 228=>200
   | 197=>201
   | 151=>202
   | 260=>204
   | 152=>205
   | 137=>206
   | 119=>207
   | 224=>208
   | 225=>209
   | 217=>210
   | 266=>211
   | n=>n,
  t:=fun x =>
   match x with
   | 9=>9
   | 4=>4
   | 3=>3
   | 5=>5
   | 117=>228
   | 116=>227
   | 0=>0
   | 124=>231
   | 105=>238
   | 21=>21
   | 119=>243
   | 46=>184
   | 139=>246
   | 138=>245
   | n=>n,
  g:=fun x =>
   match x with
   | 3=>0
   | 4=>1
   | n=>n }
theorem Tryz.lays161:Lays.n161 Tryz.prog vu :=
  {
  mixed:=Eq.refl true,f119:=zb7 func207<|ze2 some kR,
  f137:=zb7 func206<|ze2 some kR,
  f151:=zb7 func202<|ze2 some kR,
  f152:=zb7 func205<|ze2 some kR,
  f161:=zb7 func173<|ze2 some kR,
  f197:=zb7 func201<|ze2 some kR,
  f217:=zb7 func210<|ze2 some kR,
  f224:=zb7 func208<|ze2 some kR,
  f225:=zb7 func209<|ze2 some kR,
  f227:=zb7 func191<|ze2 some kR,
  f228:=zb7 func200<|ze2 some kR,
  f231:=zb7 func190<|ze2 some kR,
  f233:=zb7 func192<|ze2 some kR,
  f235:=zb7 func193<|ze2 some kR,
  f260:=zb7 func204<|ze2 some kR,
  f266:=zb7 func211<|ze2 some kR,t0:=underlying0,
  a0:=isAgg0,z0:=sizeOf0,v0:=zeroValue0,t3:=uT3,a3:=iT3,
  z3:=zT3,v3:=zeroValue3,t4:=underlying4,a4:=isAgg4,z4:=zT4,
  v4:=zeroValue4,t5:=uT5,a5:=isAgg5,z5:=sizeOf5,v5:=zeroValue5,
  t9:=underlying9,a9:=isAgg9,z9:=sizeOf9,v9:=zeroValue9,t21:=underlying21,
  a21:=isAgg21,z21:=sizeOf21,v21:=zeroValue21,t46:=gJ,a46:=isAgg184,
  z46:=sizeOf184,v46:=zeroValue184,t105:=underlying238,a105:=isAgg238,
  z105:=sizeOf238,v105:=zeroValue238,t116:=underlying227,a116:=isAgg227,
  z116:=sizeOf227,t117:=underlying228,a117:=isAgg228,z117:=sizeOf228,
  v117:=zeroValue228,t119:=underlying243,a119:=isAgg243,z119:=sizeOf243,
  t124:=underlying231,a124:=isAgg231,z124:=sizeOf231,v124:=zeroValue231,
  t138:=underlying245,a138:=isAgg245,z138:=sizeOf245,v138:=zeroValue245,
  t139:=underlying246,a139:=isAgg246,z139:=sizeOf246,v139:=zeroValue246,
  g3:=kR,g4:=kR }
def mw (l:List UInt8):List UInt8:=l.dropWhile (· == 0)
theorem rN (E:World)(g:PH)(s:Own)(l:List UInt8) :
  Ctr Tryz.prog E 173 #[txt l,txt [0]] g s (fun r g' s'=>r=txt (mw l)∧g=g'∧s=s'):=by
 intro w hw;refine (Any.strings_TrimLeft_one lays161 ⟨l.toArray⟩ 0 dC w).mono ?_;rintro e w' ⟨rfl,rfl⟩;exact⟨_,g,s,I,hw,I,I,I⟩
def by4 (x:Int):List Int:=[IntKind.u8.wrap<|x.fdiv<|2 ^ min (24:Int).toNat IntKind.u64.bits,IntKind.u8.wrap<|x.fdiv<|2 ^ min (16:Int).toNat IntKind.u64.bits,IntKind.u8.wrap<|x.fdiv<|2 ^ min (8:Int).toNat IntKind.u64.bits,IntKind.u8.wrap x]
def byP (x:Nat×Int):List Int:=by4 x.2
theorem x9 (l:List (Nat×Int)):(l.flatMap byP).length=4 * l.length:=by
 induction l with
 | nil=>rfl
 | cons a t ih=>simp only[zh5,ze5,ih,ze8,byP,by4,zc4]; omega
theorem vX (l:List Int):(ep l).length≤l.length:=by
 unfold ep;rw[List.length_reverse];have:=(List.dropWhile_sublist (l:=l.reverse) (· == 0)).length_le;simpa using this
def mW (l:List Int):List UInt8:=mw (byt<|(sn<|ep l).flatMap byP)
def A6 (neg:Bool)(bs:List UInt8):Value:=.agg #[vb<|neg&&decide (bs≠[]),txt bs]
theorem Tryz.build154 (a:Bool)(l:List UInt8)(w:World):(Instr.build 154 #[(0,vb a),(1,txt l)]).run Tryz.prog w = .ok (.agg #[vb a,txt l]) w:=by
 have h1:(vb a).cells = #[vb a]:=rfl;have h2:(txt l).cells = #[txt l]:=rfl;simp[Instr.build,Instr.fill,h1,h2];rfl
theorem tY (E:World)(g:PH)(s:Own)(v:Value)(l:List Int)(neg:Bool)(hv:SlA DS g v l)(hl:l.length<1099511627776) :
  Ctr Tryz.prog E 154 #[v,vb neg] g s (fun r g' s'=>r=A6 neg (mW l)∧s=s'∧Le g g'):=by
 have htl:=vX l;refine Ctr.ofX (args:=[v,vb neg]) func154 I ntmps154 (bE I)<|XC.seq<|XC.region<|XL.o (aL zeroValue154) dC ?_;rintro _ _ _ ⟨b4,rfl,rfl,rfl⟩;refine XL.nil<|XT.thenN<|XC.seq<|XC.region<|XL.u (mV I) dC<|XL.o (SO.call call171 I<|Ad E g _ v l hv hl) dC ?_;rintro v10 _ _ ⟨rfl,rfl,hm⟩;obtain ⟨q,d,rfl⟩:=za3 hm;refine XL.u (aS I) dC<|XL.nil<|XT.thenN<|XC.seq<|XC.region<|XL.u (mV I) dC<|XL.u (eN rF I) dC<|XL.u (SU.eq (v':=vi<|(4 * (ep l).length:Nat)) (SU.mul I I oM)<|ze2 vi oM) dC<|XL.o (SO.makeC kJ sty23 I I oM oM) dC ?_;rintro v14 _ _ ⟨rfl,rfl⟩;refine XL.facts fun ⟨w0,hw0⟩=>?_;obtain ⟨p14,c14,rfl⟩:=aj (i:=0) hw0 rfl;clear hw0 w0;refine XL.o (aL zeroValue23) dC ?_;rintro _ _ _ ⟨b5,rfl,rfl,rfl⟩;refine XL.on (sK 0 sizeOf23 I I I I I sB) ?_;rintro _ _ _ ⟨rfl,rfl⟩;refine XL.nil<|XT.thenN<|XC.seq<|XC.seq<|XC.region<|XL.u (mV I) dC<|XL.o (SO.call call172 I<|sb E _ _ _ I) dC ?_;rintro _ g1 _ ⟨rfl,hle,bb,rfl,hbb⟩;refine XL.nil<|XT.thenN<|XC.block<|XC.to (g':=g1) (s':=rowA kJ 5 (.slice p14 0 c14) []::pt b5 (.cells #[.slice p14 0 c14] 23 (0,0))::pt b4 (.cells #[vb false,txt []] 154 (0,0))::s) (fun w hw=>hw.perm<|zk1 _ _ _)<|XC.rangeFunc (α:=Nat×Int) (ι:=Value×List Int) (encs:=fun x=>[vi x.1,.int .u64 x.2]) (xs:=sn<|ep l) (g0:=g1) (fun _=>g1) (fun i=>rowA kJ 5 i.1 i.2::pt b5 (.cells #[i.1] 23 (0,0))::pt b4 (.cells #[vb false,txt []] 154 (0,0))::[]) (fun pre i=>i.2=pre.flatMap byP) (.slice p14 0 c14,[]) s
  (fun x=>[(18,.int .u64 x.2),(17,vi x.1),(5,pp b5 0)]) (fun _ x _=>[(7,.int .u64 x.2),(5,pp b5 0)]) rfl rfl call189 (fun _=>rfl) rfl rfl (pB E g1 bb _ _ hbb (za4 hm hle) oM) (fun _ _ _=>zb8 _) rfl
  (fun x a h=>Dt (h.sub (g:=[(5,pp b5 0)]) ⟨rfl,trivial⟩) dC dC) ?_ ?_ ?_
 ·intro k pre x i sx hJ;exact XC.region<|XL.u (aS I) dC<|XL.nil<|XT.assignEnd sB
 ·rintro k pre ⟨xi,x⟩ suf ⟨bv,bs⟩ sx hxs hJ;dsimp only at hJ ⊢;have hpl:pre.length<(ep l).length:=by
   have:=ze2 List.length hxs;rw[od,ze5,ze8] at this;omega
  have hbl:bs.length=4 * pre.length:=by rw[hJ,x9]
  refine XC.facts fun ⟨w0,hw0⟩=>?_;obtain ⟨q2,d2,rfl⟩:=aj (i:=0) hw0 rfl;clear hw0 w0;refine XC.block<|XC.region<|XL.q (qL (v:=.slice q2 bs.length d2) isAgg23 I<|cO 1 I I) dC<|XL.u (mV I) dC<|XL.u (SU.shr I I dC) dC<|XL.u (zd9 o5 uT5 I) dC<|XL.u (mV I) dC<|XL.u (SU.shr I I dC) dC<|XL.u (zd9 o5 uT5 I) dC<|XL.u (mV I) dC<|XL.u (SU.shr I I dC) dC<|XL.u (zd9 o5 uT5 I) dC<|XL.u (mV I) dC<|XL.u (zd9 o5 uT5 I) dC<|XL.o (bS sty23 I I I (ab sB) dC) dC ?_;rintro _ _ _ ⟨b31,rfl,rfl,rfl⟩;refine XL.to (fun w hw=>At.litRow (e:=kJ) (l:=by4 x) (n:=3) hw I I dC)<|XL.o (SO.appendE (m:=4) 1 (bs++by4 x).length ((bs++by4 x).flatMap kJ.enc) sty23 I I I I I (zb6 0 I) (kJ.length<|by4 x) (kJ.ones _) (by simp[by4]) (by simp) (by simp[by4]; omega) (by simp[by4]; omega)) dC ?_;rintro v32 _ _ ⟨rfl,rfl⟩;refine XL.facts fun ⟨w0,hw0⟩=>?_;obtain ⟨q3,d3,rfl⟩:=aj (e:=kJ) (l:=bs++by4 x) (i:=1) hw0 rfl;clear hw0 w0;refine XL.on (sK 2 sizeOf23 I I I I I sB) ?_;rintro _ _ _ ⟨rfl,rfl⟩;exact XL.nil<|XT.blockN<|XT.drop (zj1 _ _)<|XT.roundEnd (.slice q3 (bs++by4 x).length d3,bs++by4 x) I I (by dsimp only; rw[List.flatMap_append,hJ]; simp[byP])
 ·rintro D ⟨bv,bs⟩ hJ;dsimp only at hJ ⊢;refine XT.facts fun ⟨w0,hw0⟩=>?_;obtain ⟨q2,d2,rfl⟩:=aj (i:=1) hw0 rfl;clear hw0 w0;refine XT.blockN<|XT.thenN<|XC.seq<|XC.region<|XL.q (qL (v:=.slice q2 bs.length d2) isAgg23 I<|cO 2 I I) dC<|XL.q (SQ.bytesText underlying23 uT5 underlying9 I<|zb6 1 I) dC<|XL.o (SO.call call173 I<|rN E g1 _<|byt bs) dC ?_;rintro _ _ _ ⟨rfl,rfl,rfl⟩;refine XL.u (aS I) dC<|XL.nil<|XT.thenN ?_;have hbs:mw (byt bs)=mW l:=by unfold mW; rw[hJ]
  rw[hbs];generalize mW l=T at *;cases neg
  ·refine XC.seq<|XC.region<|XL.u (mV I) dC<|XL.u (mV I) dC<|XL.off (gZ I I I dC) dC<|XL.off (gZ I I I dC) dC<|XL.u (wF I I) dC<|XL.u (mV I) dC<|XL.u (za2 I<|build154 _ _) dC<|XL.on (sK 3 sizeOf154 I I I I I sB) ?_;rintro _ _ _ ⟨rfl,rfl⟩;exact XL.nil<|XT.thenN<|XC.ret<|XT.leave1 (.inl I)<|ST.retCD 2 s (.inl I) results154 I isAgg154 sizeOf154 I I (.cons _<|.cons _<|.cons _<|.refl _) ⟨I,I,hle⟩
  ·refine XC.seq<|XC.region<|XL.u (mV I) dC<|XL.u (mV I) dC<|XL.gu (gT I I I dC) (mV I) dC<|XL.gu (gT I I I dC) (SU.neqT I I) dC<|XL.u (wT I I) dC<|XL.u (mV I) dC<|XL.u (za2 I<|build154 _ _) dC<|XL.on (sK 3 sizeOf154 I I I I I sB) ?_;rintro _ _ _ ⟨rfl,rfl⟩;exact XL.nil<|XT.thenN<|XC.ret<|XT.leave1 (.inl I)<|ST.retCD 2 s (.inl I) results154 I isAgg154 sizeOf154 I I (.cons _<|.cons _<|.cons _<|.refl _) ⟨I,I,hle⟩
open Go Go.Sy Go.Pl Go.Proofs
theorem SU.negK {P:Program}{N:Nat}{f:Fr}{dst:Option Tmp}{ty:TypeId}{pos:String}{af:Array Edge}{gd:Option (Nat×Bool)}{x:Operand}{T:TypeId}{k:IntKind}{n:Int}(hx:ev f x=some (.int k n)):SU P N ⟨dst,.unOp .neg T x,ty,pos,af,gd⟩ f (.int k<|k.wrap<|0 - n):=fun a w ha=>by
 simp only[execOp,ha.ev hx]; rfl
theorem CJ (n:Int):IntKind.u64.wrap n=n % 18446744073709551616:=by simp[IntKind.wrap,IntKind.bits,IntKind.signed]
theorem Ej (m:Nat)(h:m<18446744073709551616):IntKind.u64.wrap (BitVec.ofInt IntKind.u64.bits (m:Int) &&& BitVec.ofInt IntKind.u64.bits 4294967295).toNat=((m % 4294967296:Nat):Int):=by
 have h1:(BitVec.ofInt IntKind.u64.bits (m:Int) &&& BitVec.ofInt IntKind.u64.bits 4294967295).toNat=m % 4294967296:=by
  have hb:IntKind.u64.bits=64:=rfl;rw[hb,BitVec.toNat_and];have e1:(BitVec.ofInt 64 (m:Int)).toNat=m:=by
   rw[BitVec.toNat_ofInt];omega
  have e2:(BitVec.ofInt 64 4294967295).toNat=2 ^ 32 - 1:=by decide
  rw[e1,e2,Nat.and_two_pow_sub_one_eq_mod]
 rw[h1];exact IntWalk.u64_in _ oM
theorem EK (m:Nat):((m:Nat):Int).fdiv (2 ^ min (32:Int).toNat IntKind.u64.bits)=((m / 4294967296:Nat):Int):=by
 have h1:((2:Int) ^ min (32:Int).toNat IntKind.u64.bits)=4294967296:=by decide
 rw[h1,Int.fdiv_eq_ediv_of_nonneg _ dC];omega
theorem Tryz.buildE154 (w:World):(Instr.build 154 #[]).run Tryz.prog w = .ok (.agg #[vb false,txt []]) w:=by
 simp[Instr.build,Instr.fill];rfl
def yl (n:Int):List Int:=[((n.natAbs % 4294967296:Nat):Int),((n.natAbs / 4294967296:Nat):Int)]
theorem B9 (E:World)(g:PH)(s:Own)(n:Int)(h0 : -9223372036854775808≤n)(h1:n<9223372036854775808) :
  Ctr Tryz.prog E 143 #[vi n] g s (fun r g' s'=>r=A6 (decide (n<0)) (mW<|yl n)∧s=s'∧Le g g'):=by
 refine zb1 (args:=[vi n]) func143 I ntmps143 (bE I)<|rZ (bW (aL zeroValue154) fun b2=>?_);refine tZ<|sW I<|lU (zd9 uT3 o5 I)<|aT I<|SC.cut (ι:=Unit) (fun _=>[(0,vi n),(2,pp b2 0),(3,.int .u64 (n.natAbs:Int))]) (fun _=>g) (fun _=>pt b2 (.cells #[vb false,txt []] 154 (0,0))::s) (fun _=>True) ?_ ?_
 ·refine sW I<|yL I<|tZ<|iP I (fun hn=>?_) (fun hn=>?_)
  ·have hw:IntKind.u64.wrap (0 - IntKind.u64.wrap n)=(n.natAbs:Int):=by
    rw[CJ,CJ]; omega
   exact rG<|lM I<|lU (SU.negK I)<|lA I<|nL<|za8 () ⟨I,I,by rw[← hw]; rfl,trivial⟩ rfl rfl trivial
  ·have hw:IntKind.u64.wrap n=(n.natAbs:Int):=by
    rw[CJ]; omega
   exact kP<|za8 () ⟨I,I,by rw[← hw]; rfl,trivial⟩ rfl rfl trivial
 rintro _ -;try dsimp only
 refine sW I<|lU (SU.eq (v':=.int .u64 ((n.natAbs % 4294967296:Nat):Int)) (SU.and I I)<|ze2 _<|Ej _ oM)<|lM I<|lU (SU.eq (v':=.int .u64 ((n.natAbs / 4294967296:Nat):Int)) (SU.shr I I dC)<|ze2 _<|EK _)<|lW (bS sty191 I I I (ab sB) dC) ?_;rintro _ _ _ ⟨b14,rfl,rfl,rfl⟩;refine zb4 fun g1 hle1 hb=>?_;refine lM I<|yL I<|lW (SO.call call154 I<|tY E g1 _ _ (yl n) _ (SlA.lit hb I I)<|by simp[yl]) ?_;rintro _ g2 _ ⟨rfl,rfl,hle2⟩;refine oZ (sK 0 sizeOf154 I I I I I sB) ?_;refine tZ<|rE ?_;exact ST.retCD 0 s (.inl I) results143 I isAgg154 sizeOf154 I I uR ⟨I,I,hle1.trans hle2⟩
def hiB (x:Int):Int:=IntKind.u8.wrap (IntKind.i64.wrap<|x.tdiv 256)
def loB (x:Int):Int:=IntKind.u8.wrap (x.tmod 256)
def ey:List Int→List Int
 | []=>[]
 | x::D=>ey D++((if decide (D≠[])||decide (x≥256) then [hiB x] else [])++[loB x])
theorem tr:∀ D:List Int,(ey D).length≤2 * D.length
 | []=>by simp[ey]
 | x::D=>by
  have:=tr D;simp only[ey,ze5,ze8,zc4];split <;> simp <;> omega
theorem tQ (E:World)(g:PH)(s:Own)(v:Value)(neg:Bool)(l:List Int)(hv:SlA ae g v l)(hl:l.length<1099511627776) :
  Ctr Tryz.prog E 165 #[vb neg,v] g s (fun r g' s'=>r = .agg #[vb<|neg&&decide (ep l≠[]),txt<|byt<|ey<|ep l]∧s=s'∧Le g g'):=by
 have htl:=vX l;refine zb1 (args:=[vb neg,v]) func165 I ntmps165 (bE I)<|rZ (bW (aL zeroValue154) fun b4=>?_);refine tZ<|sW I<|lW (SO.call call179 I<|tT E g _ v l hv hl) ?_;rintro v8 _ _ ⟨rfl,rfl,hm⟩;obtain ⟨q,d,rfl⟩:=za3 hm;refine aT I<|sQ<|sW I<|lU (eN aG I)<|yE I<|tZ ?_;generalize ep l=t at *;refine iP I (fun hz=>?_) (fun hz=>?_)
 ·have ht0:t=[]:=zf4 oM;subst ht0;exact rZ<|lU (za2 I<|buildE154)<|oZ (sK 0 sizeOf154 I I I I I sB)<|tZ<|rE<|tR<|ST.retCD 0 s (.inl I) results165 I isAgg154 sizeOf154 I I uR ⟨by cases neg <;> rfl,I,zb8 g⟩
 ·refine kP<|tN<|rZ<|aT I<|sQ<|sW I<|lU (eN aG I)<|lU (sU I I oM)<|aT I<|bK<|zb5 5 1<|SC.loop (ι:=Nat×Value) (fun i=>[(0,vb neg),(1,.slice q t.length d),(4,pp b4 0),(5,i.2),(6,vi<|(i.1:Int) - 1)]) (fun _=>g) (fun i=>rowA kJ 5 i.2 (ey<|t.drop i.1)::pt b4 (.cells #[vb false,txt []] 154 (0,0))::s) (fun i=>i.1≤t.length) (fun i=>i.1) (t.length,.slice none 0 0)
   sB rfl (by dsimp only; rw[List.drop_length]; rfl) (lR _) ?_
  rintro ⟨n,bv⟩ hn;dsimp only at hn ⊢;refine sQ<|sW I<|lU (gQ I I)<|tZ<|iP I (fun hge=>?_) (fun hge=>?_)
  ·have hn1:n - 1<t.length:=oM;have hb1:=za5 hm oM;have hgx:t[((n:Int) - 1).toNat]?=some t[n - 1]:=by rw[show ((n:Int) - 1).toNat=n - 1 by omega]; exact gE hn1
   have hdr:t.drop (n - 1)=t[n - 1]::t.drop n:=by
    have:=zg6 hn1;rwa [show n - 1+1=n by omega] at this
   have hne:decide (t.drop n≠[])=decide ((n:Int) - 1<(t.length:Int) - 1):=by
    rw[decide_eq_decide];constructor
    ·intro h;have:=List.length_pos_iff.2 h;rw[ze9] at this;omega
    ·intro h e;have:=ze2 List.length e;rw[ze9,zc4] at this;omega
   have hlb:=tr<|t.drop n;rw[ze9] at hlb;generalize t[n - 1]=x at *;have hst:ey (t.drop<|n - 1)=ey (t.drop n)++((if decide ((n:Int) - 1<(t.length:Int) - 1)||decide (x≥256) then [hiB x] else [])++[loB x]):=by rw[hdr,ey,hne]
   generalize ey (t.drop n)=B at *;have f1:(n:Int) - 1<(t.length:Int) - 1→(decide ((n:Int) - 1<(t.length:Int) - 1)||decide (x≥256))=true:=fun h=>by rw[zf8 h,Bool.true_or]
   have f2:¬ (n:Int) - 1<(t.length:Int) - 1→(decide ((n:Int) - 1<(t.length:Int) - 1)||decide (x≥256))=decide (x≥256):=fun h=>by rw[zf7 h,Bool.false_or]
   refine kP<|tN<|sQ<|bK<|SC.cut (ι:=Value) (fun i=>[(0,vb neg),(1,.slice q t.length d),(4,pp b4 0),(5,i),(6,vi<|(n:Int) - 1)]) (fun _=>g) (fun i=>rowA kJ 5 i (B++(if decide ((n:Int) - 1<(t.length:Int) - 1)||decide (x≥256) then [hiB x] else []))::pt b4 (.cells #[vb false,txt []] 154 (0,0))::s) (fun _=>True) ?_ ?_
   ·refine SC.cutB 31 ((decide ((n:Int) - 1<(t.length:Int) - 1)||decide (x≥256))) ?_ ?_
    ·refine rG<|lM I<|lM I<|lU (eN aG I)<|lU (sU I I oM)<|yL I<|lM I<|sP ?_ ?_
     ·intro h25;exact yA I<|yA I<|yA I<|yA I<|yA I<|yP I<|nL<|za9 (by (rw[f1 h25]; rfl)) mI
     ·intro h25;exact yC I<|yC I<|lY I I I (iA aG zT3 I I hb1 oM sL)<|SL.gq (gT I I I dC) (eB iT3 I (za6 hm) hgx I) dC<|lY I I I (gQ I I)<|yF I<|nL<|za9 (by (rw[f2 h25]; rfl)) mI
    refine iQ I (fun hc=>?_) (fun hc=>?_)
    ·refine rG<|lM I<|lM I<|lM I<|lU (iA aG zT3 I I hb1 oM sL)<|lK (eB iT3 I (za6 hm) hgx I)<|lU (SU.quo I I dC)<|lU (SU.eq (v':=.int .u8<|hiB x) (zd9 uT3 uT5 I) I)<|lW (bS sty23 I I I (ab sB) dC) ?_;rintro _ _ _ ⟨b39,rfl,rfl,rfl⟩;refine lW (aP (e:=kJ) 0 (hiB x) sty23 I I I I I oM oM) ?_;rintro bv' _ _ ⟨rfl,rfl⟩;exact lA I<|nL<|za8 bv' sB I (by rw[zg1 hc]; rfl) trivial
    ·exact kP<|za8 bv sB I (by rw[zf9 (by rw[hc]; simp),zc6]) trivial
   rintro bv2 -;try dsimp only
   have hB2:(B++(if decide ((n:Int) - 1<(t.length:Int) - 1)||decide (x≥256) then [hiB x] else [])).length≤B.length+1:=by
    rw[ze5]; split <;> simp
   rw[← zg8] at hst;generalize (B++(if decide ((n:Int) - 1<(t.length:Int) - 1)||decide (x≥256) then [hiB x] else []))=B2 at *;refine rG<|lM I<|lM I<|lM I<|lU (iA aG zT3 I I hb1 oM sL)<|lK (eB iT3 I (za6 hm) hgx I)<|lU (zd8 I I dC)<|lU (SU.eq (v':=.int .u8<|loB x) (zd9 uT3 uT5 I) I)<|lW (bS sty23 I I I (ab sB) dC) ?_;rintro _ _ _ ⟨b48,rfl,rfl,rfl⟩;refine lW (aP (e:=kJ) 0 (loB x) sty23 I I I I I oM oM) ?_;rintro bv3 _ _ ⟨rfl,rfl⟩;exact lA I<|nL<|bN<|tN<|rG<|lM I<|lU (sU I I oM)<|lA I<|nL<|ST.again (n - 1,bv3) ⟨I,I,I,I,DV I oM,trivial⟩ I (by dsimp only; rw[hst]; rfl) (by dsimp only; omega) (by dsimp only; omega)
  ·have hn0:n=0:=oM;subst hn0;refine zd4 fun ⟨w0,hw0⟩=>?_;obtain ⟨q2,d2,rfl⟩:=aj (i:=0) hw0 rfl;clear hw0 w0;rw[List.drop_zero] at *;exact xI<|tX<|tX<|bX<|tN<|sW I<|lM I<|lK (SQ.bytesText underlying23 uT5 underlying9 I<|zb6 0 I)<|lU (za2 I<|build154 _ _)<|oZ (sK 1 sizeOf154 I I I I I sB)<|tZ<|rE<|ST.retCD 1 s (.inl I) results165 I isAgg154 sizeOf154 I I uR ⟨by rw[show decide (t≠[])=true from zf8 (fun e:t=[]=>hz (by rw[e]; rfl)),Bool.and_true]; rfl,rfl,zb8 g⟩
def lI (m:Nat):List Int:=if h:m=0 then [] else ((m % 65536:Nat):Int)::lI (m / 65536)
termination_by m
decreasing_by omega
theorem eR:lI 0=[]:=by unfold lI; rfl
theorem fN {m:Nat}(h:m≠0):lI m=((m % 65536:Nat):Int)::lI (m / 65536):=by rw[lI,dif_neg h]
theorem oC:∀ (k m:Nat),m<65536 ^ k→(lI m).length≤k
 | 0,m,h=>by
  have:m=0:=by simpa using h
  subst this; rw[eR]; simp
 | k+1,m,h=>by
  by_cases h0:m=0
  ·subst h0; rw[eR]; simp
  ·rw[fN h0,ze8];have:=oC k (m / 65536) (by rw[Nat.div_lt_iff_lt_mul dC]; rwa [Nat.pow_succ] at h);omega
theorem AL (m:Nat):ep (lI m)=lI m:=by
 have key:∀ m,lI m=[]∨∃ a x,lI m=a++[x]∧x≠0:=by
  intro m;induction m using Nat.strongRecOn with
  | _ m ih =>
   by_cases h0:m=0
   ·left; subst h0; exact eR
   ·right;rw[fN h0]
    rcases ih (m / 65536) oM with h | ⟨a,x,h,hx⟩
    ·refine⟨[],_,by rw[h]; rfl,?_⟩;by_cases h1:m / 65536=0
     ·omega
     ·rw[fN h1] at h; cases h
    ·exact⟨_::a,x,by rw[h]; rfl,hx⟩
 rcases key m with h | ⟨a,x,h,hx⟩
 ·rw[h]; rfl
 ·rw[h]; simp[ep,hx]
theorem uV (E:World)(g:PH)(s:Own)(n:Int)(h0 : -9223372036854775808≤n)(h1:n<9223372036854775808) :
  Ctr Tryz.prog E 147 #[vi n] g s (fun r g' s'=>r = .agg #[vb<|decide (n<0)&&decide (lI n.natAbs≠[]),txt<|byt<|ey<|lI n.natAbs]∧s=s'∧Le g g'):=by
 have hdl:=oC 4 n.natAbs oM;refine zb1 (args:=[vi n]) func147 I ntmps147 (bE I)<|rZ (bW (aL zeroValue154) fun b2=>?_);refine tZ<|rZ<|aT I<|sW I<|lU (zd9 uT3 o5 I)<|aT I<|SC.cut (ι:=Unit) (fun _=>[(0,vi n),(2,pp b2 0),(3,.slice none 0 0),(4,.int .u64 (n.natAbs:Int))]) (fun _=>g) (fun _=>pt b2 (.cells #[vb false,txt []] 154 (0,0))::s) (fun _=>True) ?_ ?_
 ·refine sW I<|yL I<|tZ<|iP I (fun hn=>?_) (fun hn=>?_)
  ·have hw:IntKind.u64.wrap (0 - IntKind.u64.wrap n)=(n.natAbs:Int):=by
    rw[CJ,CJ]; omega
   exact rG<|lM I<|lU (SU.negK I)<|lA I<|nL<|za8 () ⟨I,I,I,by rw[← hw]; rfl,trivial⟩ rfl rfl trivial
  ·have hw:IntKind.u64.wrap n=(n.natAbs:Int):=by
    rw[CJ]; omega
   exact kP<|za8 () ⟨I,I,I,by rw[← hw]; rfl,trivial⟩ rfl rfl trivial
 rintro _ -;try dsimp only
 refine sQ<|bK<|zb5 3 1<|SC.loop (ι:=Nat×Value×List Int) (fun i=>[(0,vi n),(2,pp b2 0),(3,i.2.1),(4,.int .u64 (i.1:Int))]) (fun _=>g) (fun i=>rowA ae 3 i.2.1 i.2.2::pt b2 (.cells #[vb false,txt []] 154 (0,0))::s) (fun i=>i.2.2++lI i.1=lI n.natAbs∧i.1≤n.natAbs) (fun i=>i.1) (n.natAbs,.slice none 0 0,[])
  sB rfl rfl ⟨rfl,lR _⟩ ?_
 rintro ⟨m,bv,D⟩ ⟨hD,hm⟩;dsimp only at hD hm ⊢;have hDl:D.length≤4:=by have:=ze2 List.length hD; rw[ze5] at this; omega
 refine sQ<|sW I<|lU (gR I I)<|tZ<|iP I (fun hpos=>?_) (fun hpos=>?_)
 ·have hm0:m≠0:=oM;have hds:=fN hm0;refine kP<|tN<|bK<|sW I<|lM I<|lU (zd8 I I dC)<|lU (SU.eq (v':=vi ((m % 65536:Nat):Int)) (zd9 o5 uT3 I)<|ze2 vi (by rw[show ((m:Int)).tmod 65536=((m % 65536:Nat):Int) by rw[Int.tmod_eq_emod_of_nonneg oM]; omega]; exact zk9 _ oM)) ?_;refine lW (bS sty22 I I I (ab sB) dC) ?_;rintro _ _ _ ⟨b17,rfl,rfl,rfl⟩;refine lW (aP (e:=ae) 0 ((m % 65536:Nat):Int) sty22 I I I I I oM oM) ?_;rintro bv' _ _ ⟨rfl,rfl⟩;refine aT I<|rG<|lM I<|lU (SU.eq (v':=.int .u64 ((m / 65536:Nat):Int)) (SU.quo I I dC)<|ze2 _ (by rw[show ((m:Int)).tdiv 65536=((m / 65536:Nat):Int) by rw[Int.tdiv_eq_ediv_of_nonneg oM]; omega]; exact IntWalk.u64_in _ oM)) ?_;refine lA I<|nL<|bN ?_;exact ST.again (m / 65536,bv',D++[((m % 65536:Nat):Int)]) sB I I ⟨by dsimp only; rw[← hD,hds]; simp,by dsimp only; omega⟩ (by dsimp only; omega)
 ·have hm0:m=0:=oM;subst hm0;rw[eR,zc6] at hD;subst hD;refine xI (tX<|tX<|bX<|tN<|sQ<|fS fun g1 hle1 hs1=>?_);refine rG<|lM I<|yL I<|lM I<|lW (SO.call call165 I<|tQ E g1 _ bv _ (lI n.natAbs) hs1 oM) ?_;rintro _ g2 _ ⟨rfl,rfl,hle2⟩;exact oZ (sK 0 sizeOf154 I I I I I sB)<|tZ<|rE<|ST.retCD 0 s (.inl I) results147 I isAgg154 sizeOf154 I I uR ⟨by rw[AL]; rfl,rfl,hle1.trans hle2⟩
theorem jc {a b:Nat}(h:a % 256=b % 256):UInt8.ofNat a=UInt8.ofNat b:=by
 apply UInt8.toNat.inj;simpa using h
theorem u8w (k:Nat):IntKind.u8.wrap (k:Int)=((k % 256:Nat):Int):=by simp[IntKind.wrap,IntKind.bits,IntKind.signed]
theorem rf (k:Nat):UInt8.ofNat (IntKind.u8.wrap (k:Int)).toNat=UInt8.ofNat k:=by
 rw[u8w,Int.toNat_natCast]; exact jc oM
theorem ru (k e:Nat):(k:Int).fdiv ((e:Nat):Int)=((k / e:Nat):Int):=by
 rw[Int.fdiv_eq_ediv_of_nonneg _ oM]; simp
theorem zj (k:Nat):byt (by4 (k:Int))=[UInt8.ofNat<|k / 16777216,UInt8.ofNat<|k / 65536,UInt8.ofNat<|k / 256,UInt8.ofNat k]:=by
 have h1:((2:Int) ^ min (24:Int).toNat IntKind.u64.bits)=((16777216:Nat):Int):=by decide
 have h2:((2:Int) ^ min (16:Int).toNat IntKind.u64.bits)=((65536:Nat):Int):=by decide
 have h3:((2:Int) ^ min (8:Int).toNat IntKind.u64.bits)=((256:Nat):Int):=by decide
 unfold by4;rw[h1,h2,h3,ru,ru,ru];simp only[byt,zg4,List.map_nil,rf]
def beK:Nat→Nat→List UInt8
 | 0,_=>[]
 | k+1,m=>beK k (m / 65536)++[UInt8.ofNat<|m / 256,UInt8.ofNat m]
def yt (m:Nat):List UInt8:=mw (beK 4 m)
theorem rA:∀ k,mw (beK k 0)=[]
 | 0=>rfl
 | k+1=>by
  have ih:=rA k;unfold mw at *;rw[beK,List.dropWhile_append,ih];rfl
theorem ww {a:Nat}(h0:a≠0)(h:a<256):UInt8.ofNat a≠0:=fun e=>by
 have:=ze2 UInt8.toNat e;simp at this;omega
theorem md:∀ (k m:Nat),m<65536 ^ k→byt (ey<|lI m)=mw (beK k m)
 | 0,m,h=>by
  have:m=0:=by simpa using h
  subst this; rw[eR]; rfl
 | k+1,m,h=>by
  by_cases h0:m=0
  ·subst h0; rw[eR,rA]; rfl
  ·have ih:=md k (m / 65536) (by rw[Nat.div_lt_iff_lt_mul dC]; rwa [Nat.pow_succ] at h);rw[fN h0,beK];have hlo:UInt8.ofNat (loB ((m % 65536:Nat):Int)).toNat=UInt8.ofNat m:=by
    unfold loB;rw[show (((m % 65536:Nat):Int)).tmod 256=((m % 65536 % 256:Nat):Int) by rw[Int.tmod_eq_emod_of_nonneg oM]; omega,rf];exact jc oM
   have hhi:UInt8.ofNat (hiB ((m % 65536:Nat):Int)).toNat=UInt8.ofNat (m % 65536 / 256):=by
    unfold hiB;rw[show (((m % 65536:Nat):Int)).tdiv 256=((m % 65536 / 256:Nat):Int) by rw[Int.tdiv_eq_ediv_of_nonneg oM]; omega,zk9 _ oM,rf]
   by_cases h1:m / 65536=0
   ·rw[h1,eR];have hz:=rA k;unfold mw at *;rw[List.dropWhile_append,hz];have hm:m % 65536=m:=oM;rw[hm] at hlo hhi ⊢;simp only[ey,List.nil_append,ne_eq,not_true_eq_false,decide_false,Bool.false_or,List.isEmpty_nil,if_true];by_cases h2:(m:Int)≥256
    ·have hne:(UInt8.ofNat (m / 256) == 0)=false:=by simpa using ww (a:=m / 256) oM oM
     rw[zf8 h2,zg1 rfl,List.dropWhile_cons,hne];simp only[byt,zg5,zg4,List.map_nil,hlo,hhi];rfl
    ·have hq:m / 256=0:=oM;have hne:(UInt8.ofNat m == 0)=false:=by simpa using ww (a:=m) h0 oM
     rw[zf7 h2,zf9 (by simp),hq,List.dropWhile_cons,show (UInt8.ofNat 0 == 0)=true from rfl,zg1 rfl,List.dropWhile_cons,hne];simp only[byt,List.nil_append,zg4,List.map_nil,hlo];rfl
   ·have hD:lI (m / 65536)≠[]:=by rw[fN h1]; simp
    have hne:byt (ey<|lI<|m / 65536)≠[]:=by
     rw[fN h1];simp[byt,ey]
    have hq:UInt8.ofNat (m % 65536 / 256)=UInt8.ofNat (m / 256):=jc oM;rw[ih] at hne;unfold mw at *;rw[List.dropWhile_append];have he:(List.dropWhile (fun x=>x == 0)<|beK k<|m / 65536).isEmpty=false:=by simpa using hne
    rw[he];simp only[ey,Bool.false_eq_true,if_false];rw[zf8 hD,Bool.true_or,zg1 rfl];rw[← ih];simp only[byt,zg5,zg4,List.map_nil,hlo,hhi,hq];rfl
theorem D8 {a:Int}(h:a≠0):ep [a,0]=[a]:=by simp[ep,h]
theorem D7 {a b:Int}(h:b≠0):ep [a,b]=[a,b]:=by simp[ep,h]
theorem uC (n:Int)(h:n.natAbs<18446744073709551616):mW (yl n)=yt n.natAbs:=by
 obtain ⟨m,hm⟩:∃ m,m=n.natAbs:=⟨_,rfl⟩;unfold yl;rw[← hm] at h ⊢;have hlo:=zj<|m % 4294967296;have hhi:=zj<|m / 4294967296;have hbe:beK 4 m=[UInt8.ofNat<|m / 4294967296 / 16777216,UInt8.ofNat<|m / 4294967296 / 65536,UInt8.ofNat<|m / 4294967296 / 256,UInt8.ofNat<|m / 4294967296,UInt8.ofNat<|m % 4294967296 / 16777216,UInt8.ofNat<|m % 4294967296 / 65536,UInt8.ofNat<|m % 4294967296 / 256,UInt8.ofNat<|m % 4294967296]:=by
  simp only[beK,List.nil_append,List.cons_append];refine congr (ze2 List.cons ?_)<|congr (ze2 List.cons ?_)<|congr (ze2 List.cons ?_)<|congr (ze2 List.cons ?_)<|congr (ze2 List.cons ?_)<|congr (ze2 List.cons ?_)<|congr (ze2 List.cons ?_)<|congr (ze2 List.cons ?_) I
  all_goals exact jc oM
 unfold yt mW;rw[hbe];by_cases h1:m / 4294967296=0
 ·by_cases h2:m % 4294967296=0
  ·rw[h1,h2]; rfl
  ·have ht:ep [((m % 4294967296:Nat):Int),((m / 4294967296:Nat):Int)]=[((m % 4294967296:Nat):Int)]:=by
    rw[h1];exact D8 oM
   rw[ht];show mw (byt<|by4 _++[])=_;rw[zc6,hlo,h1];rfl
 ·have ht:ep [((m % 4294967296:Nat):Int),((m / 4294967296:Nat):Int)]=[((m % 4294967296:Nat):Int),((m / 4294967296:Nat):Int)]:=by
   exact D7 oM
  rw[ht];show mw (byt<|by4 _++(by4 _++[]))=_;rw[zc6];have:byt (by4 ((m / 4294967296:Nat):Int)++by4 ((m % 4294967296:Nat):Int))=byt (by4 ((m / 4294967296:Nat):Int))++byt (by4 ((m % 4294967296:Nat):Int)):=by simp[byt]
  rw[this,hhi,hlo];rfl
def CU (n:Int):Value:=A6 (decide (n<0)) (yt n.natAbs)
theorem Az (E:World)(g:PH)(s:Own)(n:Int)(h0 : -9223372036854775808≤n)(h1:n<9223372036854775808) :
  Ctr Tryz.prog E 143 #[vi n] g s (fun r g' s'=>r=CU n∧s=s'∧Le g g') :=
 (B9 E g s n h0 h1).mono fun _ _ _ ⟨h2,h3⟩=>⟨by rw[h2,uC _ oM]; rfl,h3⟩
theorem Cg (m:Nat):decide (lI m≠[])=decide (m≠0):=by
 rw[decide_eq_decide];by_cases h:m=0
 ·subst h; rw[eR]; simp
 ·rw[fN h]; simp[h]
theorem BU {m:Nat}(h:m<18446744073709551616):decide (yt m≠[])=decide (m≠0):=by
 rw[show yt m=byt (ey<|lI m) from (md 4 m oM).symm,decide_eq_decide];by_cases h0:m=0
 ·subst h0; rw[eR]; simp[ey,byt]
 ·rw[fN h0]; simp[h0,ey,byt]
theorem tU (E:World)(g:PH)(s:Own)(n:Int)(h0 : -9223372036854775808≤n)(h1:n<9223372036854775808) :
  Ctr Tryz.prog E 147 #[vi n] g s (fun r g' s'=>r=CU n∧s=s'∧Le g g') :=
 (uV E g s n h0 h1).mono fun _ _ _ ⟨h2,h3⟩=>⟨by
  rw[h2,md 4 _ oM,Cg];unfold CU A6;rw[BU oM];rfl,h3⟩
def eT (l:List Cl):List Int:=l.flatMap fun c=>c.sides.map Side.cell
theorem uL (A:List Cl)(k:Int):(eT A).contains k=jk A k:=by
 rw[Bool.eq_iff_iff];simp[eT,jk,lH]
theorem tO {A:List Cl}{k:Nat}(h:k<A.length):eT (A.take<|k+1)=eT (A.take k)++A[k].sides.map Side.cell:=by
 unfold eT;rw[tS h,List.flatMap_append];simp only[zh5,List.flatMap_nil,zc6]
theorem Cc {A:List Cl}{id:Int}(h:ao A id=none)(m:List Int):f8 A (m++[id])=f8 A m:=by
 unfold f8;refine zc8 fun c hc=>?_;have:=List.find?_eq_none.1 h c hc;simp only[zj5] at this;simp[this]
theorem Ag {ss:List Side}{j:Nat}(h:j<ss.length)(m:List Int):m++(ss.take<|j+1).map Side.cell=(m++(ss.take j).map Side.cell)++[ss[j].cell]:=by
 rw[tS h,zg5,zg8]; rfl
theorem mF (E:World)(g:PH)(s:Own)(v:Value)(l:List Cl)(hv:ak g v l)(hf:a8 l) :
  Ctr Tryz.prog E 31 #[.agg #[v]] g s (fun r g' s'=>s=s'∧Le g g'∧dJ g' r (cJ l)):=by
 have hft:=bL hf;have hfl:=hft.1;have hsrt:=kx l;have hnd:=jV l;refine zb1 (args:=[.agg #[v]]) func31 I ntmps31 (bE I)<|rZ (bW (bO I) fun b1=>?_);refine aT I<|rZ<|aT I<|rZ<|lK (qV 0 ar ag I I I)<|lW (SO.call call42 I<|dy E g _ _ l hv hf) ?_;rintro v11 g1 _ ⟨rfl,hle,hc⟩;obtain ⟨rs,hrs,hall⟩:=hc;have hcs:ak g1 _ (aW l):=⟨rs,hrs,hall⟩;obtain ⟨q,dd,rfl⟩:=hrs.form;have hrl:=hall.length;refine aT I<|sW I<|lU (eN aF I)<|lW (mK iU false sty109 I I I oM oM) ?_;rintro _ _ _ ⟨b14,rfl,rfl,rfl⟩;refine aT I<|sQ<|rZ<|aT I<|bK ?_;unfold cJ;generalize aW l=A at *;refine SC.to (g':=g1) (s':=rowA iU 4 (.slice (some ⟨b14,0,none⟩) rs.length rs.length) (f8 A<|eT<|A.take 0)::pt b1 (.cells #[v] 29 (0,0))::s) (fun w hw=>by rw[show eT (A.take 0)=[] from I,AF,hrl]; exact hw) ?_;refine SC.loop (ι:=Nat) (fun i=>[(3,.slice none 0 0),(4,.slice q rs.length dd),(5,.slice (some ⟨b14,0,none⟩) rs.length rs.length),(6,vi i)]) (fun _=>g1)
  (fun i=>rowA iU 4 (.slice (some ⟨b14,0,none⟩) rs.length rs.length) (f8 A<|eT<|A.take i)::pt b1 (.cells #[v] 29 (0,0))::s)
  (fun i=>i≤A.length) (fun i=>A.length - i) 0 sB rfl rfl (zf6 _) ?_
 intro k hk;refine sQ<|sW I<|lM I<|lU (eN aF I)<|yL I<|tZ<|iP I (fun hlt=>?_) (fun hlt=>?_)
 ·have hkl:k<A.length:=oM;have hkr:k<rs.length:=oM;have hb1:=hrs.based oM;have hcr:=hall.get (gE hkl)<|gE hkr;have hgr:rs[((k:Nat):Int).toNat]?=some rs[k]:=gE hkr;have hsucc:=tO hkl;have hxl:=hft.2 _<|gM hkl;generalize A[k]=x at *;generalize rs[k]=r at *;generalize eT (A.take k)=m at *;obtain ⟨ri,rd,rp,rn,rc⟩:=r;have hsv:SlA encSide g1 (.slice rp rn rc) x.sides:=hcr.2.2;have hxn:rn=x.sides.length:=by obtain ⟨q,cc,hq⟩:=za3 hsv; simp at hq; exact hq.2.1
  subst hxn;refine kP<|tN<|sQ<|bK<|rZ<|aT I<|bK<|SC.loop (ι:=Nat) (fun j=>[(3,.slice none 0 0),(4,.slice q rs.length dd),(5,.slice (some ⟨b14,0,none⟩) rs.length rs.length),(6,vi k),(7,vi j)]) (fun _=>g1)
   (fun j=>rowA iU 4 (.slice (some ⟨b14,0,none⟩) rs.length rs.length) (f8 A<|m++(x.sides.take j).map Side.cell)::pt b1 (.cells #[v] 29 (0,0))::s)
   (fun j=>j≤x.sides.length) (fun j=>x.sides.length - j) 0 sB rfl (by simp) (zf6 _) ?_
  intro j hj;refine sQ<|sW I<|lM I<|lM I<|lU (iA aF au I I hb1 oM sL)<|lU (fC aw I aO I hb1)<|lK (aZ (e:=encCell) (o:=2) (u:=.slice rp x.sides.length rc) bh I hrs.rd hgr I)<|lU (eN aI I)<|yL I<|tZ<|iP I (fun hlt2=>?_) (fun hlt2=>?_)
  ·have hjl:j<x.sides.length:=oM;have hb2:=za5 hsv oM;have hgj:x.sides[((j:Nat):Int).toNat]?=some x.sides[j]:=gE hjl;have hms:=Ag hjl m;generalize m++(x.sides.take j).map Side.cell=m2 at *;generalize x.sides[j]=z at *;have hfl2:(f8 A m2).length=A.length:=by simp[f8]
   rcases qS hsrt z.cell with ⟨hf0,hat⟩ | ⟨c,kk,hf0,hat,hck⟩
   ·refine kP<|tN<|sQ<|bK<|sW I<|lM I<|lM I<|lU (iA aF au I I hb1 oM sL)<|lU (fC aw I aO I hb1)<|lK (aZ (e:=encCell) (o:=2) (u:=.slice rp x.sides.length rc) bh I hrs.rd hgr I)<|lM I<|lU (iA aI aB I I hb2 oM sL)<|lU (fC co I zT3 I hb2)<|lK (aZ (o:=0) (u:=vi z.cell) iT3 I hsv.rd hgj I)<|lW (SO.call call62 I<|jx E g1 _ _ A z.cell hcs hfl hsrt) ?_;rintro _ _ _ ⟨rfl,rfl,rfl⟩;rw[hat];exact aT I<|sW I<|lU (SU.eq (v':=vb false) (gQ I I)<|ze2 vb<|zf7 oM)<|tZ<|cF I<|kP<|bN<|tN<|rG<|lM I<|yD I<|lA I<|nL<|ST.again (j+1) sB I (by rw[hms,Cc hf0]) oM oM
   ·have hkl2:kk<A.length:=(zf5.1 hck).1;have hset:(f8 A m2).set kk true=f8 A (m2++[z.cell]):=by rw[AE hnd hck,(eP hf0).2]
    refine kP<|tN<|sQ<|bK<|sW I<|lM I<|lM I<|lU (iA aF au I I hb1 oM sL)<|lU (fC aw I aO I hb1)<|lK (aZ (e:=encCell) (o:=2) (u:=.slice rp x.sides.length rc) bh I hrs.rd hgr I)<|lM I<|lU (iA aI aB I I hb2 oM sL)<|lU (fC co I zT3 I hb2)<|lK (aZ (o:=0) (u:=vi z.cell) iT3 I hsv.rd hgj I)<|lW (SO.call call62 I<|jx E g1 _ _ A z.cell hcs hfl hsrt) ?_;rintro _ _ _ ⟨rfl,rfl,rfl⟩;rw[hat];refine aT I<|sW I<|lU (SU.eq (v':=vb true) (gQ I I)<|ze2 vb<|zf8 oM)<|tZ<|za1 I<|rG<|lM I<|lM I<|lU (iA underlying109 zT4 I I I oM sL)<|oZ (sT (e:=iU) (a:=true) 0 zT4 I I I (by rw[hfl2]; omega) I) ?_;exact nL<|bN<|tN<|rG<|lM I<|yD I<|lA I<|nL<|ST.again (j+1) sB I (by rw[hms,← hset]; rfl) oM oM
  ·have hjj:x.sides.take j=x.sides:=tL oM;rw[hjj,← hsucc];exact xI<|tX<|tX<|bX<|bN<|tN<|rG<|lM I<|yD I<|lA I<|nL<|ST.again (k+1) sB I I oM oM
 ·have hkk:A.take k=A:=tL oM;rw[hkk];refine xI<|tX<|tX<|bX<|tN<|sQ<|rZ<|aT I<|bK<|cP (zk1 _ _ _)<|cP (zk1 _ _ _)<|zb5 3 1<|SC.loop (ι:=Value×Nat) (fun i=>[(3,i.1),(4,.slice q rs.length dd),(5,.slice (some ⟨b14,0,none⟩) rs.length rs.length),(9,vi i.2)]) (fun _=>g1)
   (fun i=>rowA ae 3 i.1 (((A.take i.2).filter fun c=>!jk A c.id).map Cl.id)::rowA iU 4 (.slice (some ⟨b14,0,none⟩) rs.length rs.length) (f8 A<|eT A)::pt b1 (.cells #[v] 29 (0,0))::s)
   (fun i=>i.2≤A.length) (fun i=>A.length - i.2) (.slice none 0 0,0) sB rfl rfl (zf6 _) ?_
  rintro ⟨ov,i⟩ hi;dsimp only at hi ⊢;refine sQ<|sW I<|lM I<|lU (eN aF I)<|yL I<|tZ<|iP I (fun hlt3=>?_) (fun hlt3=>?_)
  ·have hil:i<A.length:=oM;have hir:i<rs.length:=oM;have hb1:=hrs.based oM;have hcr:=hall.get (gE hil)<|gE hir;have hgr:rs[((i:Nat):Int).toNat]?=some rs[i]:=gE hir;have hsucc:=nJ hil (fun c=>!jk A c.id) Cl.id;have hlek:=us A i (fun c=>!jk A c.id) Cl.id;have hgf:(f8 A<|eT A)[((i:Nat):Int).toNat]?=some (jk A A[i].id):=by rw[← uL]; exact AG<|gE hil
   generalize A[i]=x at *;generalize rs[i]=r at *;refine kP<|tN<|sQ<|bK<|sW I<|lM I<|lU (iA underlying109 zT4 I I I oM sL)<|lK (eB (e:=iU) isAgg4 I (zb6 1 I) hgf I)<|lU (SU.not I)<|tZ<|iQ I (fun htop=>?_) (fun htop=>?_)
   ·refine rG<|lM I<|lM I<|lM I<|lU (iA aF au I I hb1 oM sL)<|lU (fC aw I zT3 I hb1)<|lK (aZ (e:=encCell) (o:=0) (u:=vi x.id) iT3 I hrs.rd hgr (by rw[← hcr.1]; rfl)) ?_;refine lW (bS sty22 I I I (ab sB) dC) ?_;rintro _ _ _ ⟨b64,rfl,rfl,rfl⟩;refine lW (aP (e:=ae) 0 x.id sty22 I I I I I oM oM) ?_;rintro ov' _ _ ⟨rfl,rfl⟩;refine lA I<|nL<|bN<|tN<|rG<|lM I<|yD I<|lA I<|nL ?_;refine ST.to (fun w hw=>?_) (g':=g1) (s':=rowA ae 3 ov' (((A.take<|i+1).filter fun c=>!jk A c.id).map Cl.id)::rowA iU 4 (.slice (some ⟨b14,0,none⟩) rs.length rs.length) (f8 A<|eT A)::pt b1 (.cells #[v] 29 (0,0))::s) ?_
    ·rw[hsucc,zg1 (by simpa using htop)]; exact hw
    exact ST.again (ov',i+1) sB I I (by dsimp only; omega) lN
   ·refine kP<|bN<|tN<|rG<|lM I<|yD I<|lA I<|nL ?_;refine ST.to (fun w hw=>?_) (g':=g1) (s':=rowA ae 3 ov (((A.take<|i+1).filter fun c=>!jk A c.id).map Cl.id)::rowA iU 4 (.slice (some ⟨b14,0,none⟩) rs.length rs.length) (f8 A<|eT A)::pt b1 (.cells #[v] 29 (0,0))::s) ?_
    ·rw[hsucc,zf9 (by simpa using htop),zc6]; exact hw
    exact ST.again (ov,i+1) sB I I (by dsimp only; omega) lN
  ·have hii:A.take i=A:=tL oM;rw[hii];refine xI (tX<|tX<|bX<|tN<|sW I<|aT I<|rE<|fT fun g2 hle2 hs2=>?_);exact dR (s':=s) uR<|za7 (.inl I) results31 I ⟨I,hle.trans hle2,hs2⟩
open Go.ChangeShapes Go.WideShapes Go.ChangeAt Go.RowKit
set_option maxRecDepth 100000
section
variable {H:Type}{enc:TypeId×Value→H}{W:World}{base:Nat}{spare:Nat→Bool}{hd:Bool}
theorem sh {n:Int}(h:(Lit.int .i64 n).wf=true):lB n:=by
 have h2:IntKind.i64.min≤n∧n≤IntKind.i64.max:=by simpa [Lit.wf] using h
 have e1:IntKind.i64.min = -9223372036854775808:=by decide
 have e2:IntKind.i64.max=9223372036854775807:=by decide
 unfold lB;omega
end
theorem y7 {α β:Type}{ka:α→Int}{kb:β→Int}{f:α→β}(h:∀ a,kb (f a)=ka a)(x:α):∀ l:List α,ins kb (f x) (l.map f)=(ins ka x l).map f
 | []=>rfl
 | y::r=>by
  simp only[zg4,ins,h];split
  ·rfl
  ·rw[y7 h x r]; rfl
theorem ma {α β:Type}{ka:α→Int}{kb:β→Int}{f:α→β}(h:∀ a,kb (f a)=ka a):∀ l:List α,sortBy kb (l.map f)=(sortBy ka l).map f
 | []=>rfl
 | x::r=>by
  simp only[zg4,sortBy];rw[ma h r,y7 h]
theorem jG {α:Type}{key:α→Int}(l:List α):(sortBy key l).Perm l:=by
 induction l with
 | nil=>exact .refl _
 | cons x r ih =>
  have h:∀ m:List α,(ins key x m).Perm (x::m):=by
   intro m;induction m with
   | nil=>exact .refl _
   | cons y t iht =>
    simp only[ins];split
    ·exact .refl _
    ·exact (List.Perm.cons _ iht).trans<|zk1 _ _ _
  exact (h _).trans<|List.Perm.cons _ ih
theorem uH {α:Type}{key:α→Int}{l m:List α}(h:l.Perm m)(hn:(l.map key).Nodup):sortBy key l=sortBy key m:=by
 have hst:∀ q:List α,(q.map key).Nodup→(sortBy key q).Pairwise fun a b=>key a<key b:=fun q hq=>by
  have h1:=ck (key:=key) q;have h2:((sortBy key q).map key).Nodup:=((jG q).map key).symm.nodup hq;have h3:(sortBy key q).Pairwise fun a b=>key a≠key b:=by
   rw[List.nodup_iff_pairwise_ne,zk5] at h2;exact h2
  exact (h1.and h3).imp fun h=>by omega
 have hm:(m.map key).Nodup:=(h.map key).nodup hn;refine List.Perm.eq_of_pairwise (le:=fun a b=>key a<key b) (fun a b _ _ h1 h2=>by omega) (hst l hn) (hst m hm) ?_;exact (jG l).trans<|h.trans (jG m).symm
theorem ShL.length {l m:List Cl}(h:ShL l m):l.length=m.length:=by
 obtain ⟨l1,hp,ha⟩:=h;rw[← hp.length_eq,ha.length]
abbrev Pr:=Int×Int
def D4 (adj:Pr→Pr→Bool)(l:List Pr):Prop:=l≠[]∧∀ x∈l,∃ y∈l,y≠x∧adj x y=true
def Cyc (adj:Pr→Pr→Bool)(m:List Pr):Prop:=∃ l,D4 adj l∧∀ x∈l,x∈m
def jQ (adj:Pr→Pr→Bool)(l:List Pr)(k:Nat):Bool:=(List.range l.length).any fun j=>decide (j≠k)&&adj (l.getD k (0,0)) (l.getD j (0,0))
def eZ (adj:Pr→Pr→Bool)(l:List Pr):Option Nat:=(List.range l.length).find? fun k=>!jQ adj l k
def uj (adj:Pr→Pr→Bool):Nat→List Pr→List Pr
 | 0,l=>l
 | n+1,l=>match eZ adj l with
  | none=>l
  | some k=>uj adj n<|l.eraseIdx k
def mr (adj:Pr→Pr→Bool)(m:List Pr):Bool:=decide (uj adj m.length m≠[])
theorem jC (adj:Pr→Pr→Bool)(n:Nat)(l:List Pr):uj adj (n+1) l=match eZ adj l with
  | none=>l
  | some k=>uj adj n (l.eraseIdx k):=rfl
theorem kF {adj:Pr→Pr→Bool}{l:List Pr}{k:Nat}(h:eZ adj l=some k):∃ hk:k<l.length,∀ j (hj:j<l.length),j≠k→adj l[k] l[j]=false:=by
 unfold eZ at h;have h1:=List.find?_some h;have h2:=List.mem_range.1<|zk7 h;refine⟨h2,fun j hj hne=>?_⟩;unfold jQ at h1;simp only[Bool.not_eq_true',zk6,List.mem_range,zj3,zj5,not_and,zj7] at h1;have:=h1 j hj hne;rwa [zh1,zh1,gE h2,gE hj] at this
theorem vB {adj:Pr→Pr→Bool}{l:List Pr}(h:eZ adj l=none){k:Nat}(hk:k<l.length):∃ j,∃ hj:j<l.length,j≠k∧adj l[k] l[j]=true:=by
 unfold eZ at h;have h1:=List.find?_eq_none.1 h k<|List.mem_range.2 hk;unfold jQ at h1;simp only[Bool.not_eq_true',Bool.not_eq_false,zj8,List.mem_range,zj3,zj5] at h1;obtain ⟨j,hj,hne,ha⟩:=h1;rw[zh1,zh1,gE hk,gE hj] at ha;exact⟨j,hj,hne,ha⟩
theorem Af {l:List Pr}{k i:Nat}(hi:i<l.length)(h:i≠k):l[i]∈l.eraseIdx k:=by
 rw[List.mem_eraseIdx_iff_getElem];exact⟨i,hi,h,I⟩
theorem qf {adj:Pr→Pr→Bool}{R:List Pr}(hR:D4 adj R):∀ (n:Nat) {l:List Pr},(∀ x∈R,x∈l)→∀ x∈R,x∈uj adj n l
 | 0,_,h=>h
 | n+1,l,h=>by
  rw[jC];cases hf:eZ adj l with
  | none=>exact h
  | some k =>
   obtain ⟨hk,hno⟩:=kF hf;refine qf hR n fun x hx=>?_;obtain ⟨i,hi,rfl⟩:=zc7<|h x hx;refine Af hi fun e=>?_;subst e;obtain ⟨y,hy,hne,ha⟩:=hR.2 _ hx;obtain ⟨j,hj,rfl⟩:=zc7<|h y hy;have:=hno j hj (fun e=>hne (by subst e; rfl));rw[this] at ha;exact absurd ha dC
theorem sX {adj:Pr→Pr→Bool}:∀ (n:Nat) {l:List Pr},l.length≤n→eZ adj (uj adj n l)=none
 | 0,l,h=>by
  rw[zf4 (by omega:l.length=0)];rfl
 | n+1,l,h=>by
  rw[jC];cases hf:eZ adj l with
  | none=>exact hf
  | some k =>
   obtain ⟨hk,-⟩:=kF hf;exact sX n (by rw[List.length_eraseIdx_of_lt hk]; omega)
theorem wu {adj:Pr→Pr→Bool}:∀ (n:Nat) (l:List Pr),(uj adj n l).Sublist l
 | 0,l=>zc3 l
 | n+1,l=>by
  rw[jC];cases eZ adj l with
  | none=>exact zc3 l
  | some k=>exact (wu n _).trans<|List.eraseIdx_sublist _ _
theorem sO {adj:Pr→Pr→Bool}{m:List Pr}(hm:m.Nodup):mr adj m=true↔Cyc adj m:=by
 unfold mr;rw[zj6];constructor
 ·intro h;have hf:=sX (adj:=adj) m.length<|lR _;have hs:=wu (adj:=adj) m.length m;have hn:=hm.sublist hs;refine⟨_,⟨h,fun x hx=>?_⟩,fun x hx=>hs.subset hx⟩;obtain ⟨k,hk,rfl⟩:=zc7 hx;obtain ⟨j,hj,hne,ha⟩:=vB hf hk;exact⟨_,gM hj,fun e=>hne<|(List.getElem_inj hn).1 e,ha⟩
 ·rintro ⟨R,hR,hsub⟩ e;obtain ⟨x,hx⟩:=List.exists_mem_of_ne_nil _ hR.1;have:=qf hR m.length hsub x hx;rw[e] at this;simp at this
inductive Pth (adj:Pr→Pr→Bool)(m:List Pr):Pr→Pr→Prop
 | one (x y:Pr) (hy:y∈m) (hne:y≠x) (ha:adj x y=true):Pth adj m x y
 | cons (x y z:Pr) (hy:y∈m) (hne:y≠x) (ha:adj x y=true) (h:Pth adj m y z):Pth adj m x z
theorem Pth.snoc {adj:Pr→Pr→Bool}{m:List Pr}{x y z:Pr}(h:Pth adj m x y)(hz:z∈m)(hne:z≠y)(ha:adj y z=true):Pth adj m x z:=by
 induction h with
 | one x y hy h1 h2=>exact .cons x y z hy h1 h2<|.one y z hz hne ha
 | cons x y w hy h1 h2 _ ih=>exact .cons x y z hy h1 h2<|ih hne ha
theorem DI {adj:Pr→Pr→Bool}{T:List Pr}{p:Pr}(hT:¬ Cyc adj T):Cyc adj (T++[p])↔Pth adj (T++[p]) p p:=by
 classical
 constructor
 ·rintro ⟨L,hL,hsub⟩;have hin:∀ R:List Pr,D4 adj R→(∀ x∈R,x∈T++[p])→p∈R:=fun R hR h=>Classical.byContradiction fun hp=>hT ⟨R,hR,fun x hx=>by
   rcases zf3.1 (h x hx) with h1 | h1
   ·exact h1
   ·exact absurd (by simpa using h1:x=p) fun e=>hp (e ▸ hx)⟩
  have hp:=hin L hL hsub;have hR:D4 adj (L.filter fun y=>decide (Pth adj (T++[p]) p y)):=by
   refine⟨?_,fun x hx=>?_⟩
   ·obtain ⟨y,hy,hne,ha⟩:=hL.2 p hp;intro e;have:y∈L.filter fun y=>decide (Pth adj (T++[p]) p y):=zh4.2 ⟨hy,by simpa using Pth.one p y (hsub y hy) hne ha⟩;rw[e] at this;simp at this
   ·obtain ⟨h1,h2⟩:=zh4.1 hx;obtain ⟨y,hy,hne,ha⟩:=hL.2 x h1;exact⟨y,zh4.2 ⟨hy,by simpa using (zg3 h2).snoc (hsub y hy) hne ha⟩,hne,ha⟩
  have:=hin _ hR fun x hx=>hsub x (zh4.1 hx).1;exact zg3 (zh4.1 this).2
 ·intro h;refine⟨(T++[p]).filter fun y=>decide (Pth adj (T++[p]) p y∧Pth adj (T++[p]) y p),⟨fun e=>?_,fun x hx=>?_⟩,fun x hx=>(zh4.1 hx).1⟩
  ·have:p∈(T++[p]).filter fun y=>decide (Pth adj (T++[p]) p y∧Pth adj (T++[p]) y p):=zh4.2 ⟨by simp,by simpa using h⟩;rw[e] at this;simp at this
  ·obtain ⟨h1,h2⟩:=zh4.1 hx;obtain ⟨h3,h4⟩:=zg3 h2;cases h4 with
   | one _ _ hy hne ha=>exact⟨p,zh4.2 ⟨by simp,by simpa using h⟩,hne,ha⟩
   | cons _ y _ hy hne ha h5=>exact⟨y,zh4.2 ⟨hy,by simpa using ⟨h3.snoc hy hne ha,h5⟩⟩,hne,ha⟩
def dM (p:Pr)(H:Int→Option Int)(rc:Pr→List Int→Bool×List Int)(x:Pr):List Int→List Int→Bool×List Int
 | [],seen=>(false,seen)
 | low::r,seen =>
  if low=x.1 then dM p H rc x r seen
  else if low=p.1 then (true,seen)
  else match H low with
   | none=>dM p H rc x r seen
   | some nx=>if seen.contains nx then dM p H rc x r seen else
    if (rc (low,nx)<|seen++[nx]).1=true then (true,(rc (low,nx)<|seen++[nx]).2) else dM p H rc x r (rc (low,nx)<|seen++[nx]).2
def bH (p:Pr)(S:Int→List Int)(H:Int→Option Int):Nat→Pr→List Int→Bool×List Int
 | 0,_,seen=>(false,seen)
 | n+1,x,seen=>dM p H (bH p S H n) x (S x.2) seen
def aK (T:List Pr)(low:Int):Option Int:=(T.find? fun q=>decide (q.1=low)).map Prod.snd
theorem ix {T:List Pr}{low nx:Int}(h:aK T low=some nx):(low,nx)∈T:=by
 unfold aK at h;rw[Option.map_eq_some_iff] at h;obtain ⟨q,hq,rfl⟩:=h;have h1:=List.find?_some hq;have h2:=zk7 hq;simp only[zj5] at h1;rw[← h1];exact h2
theorem na {T:List Pr}(hT:(T.map Prod.fst).Nodup){y:Pr}(hy:y∈T):aK T y.1=some y.2:=by
 induction T with
 | nil=>simp at hy
 | cons a T ih =>
  rw[zg4,zk3] at hT;unfold aK;rw[zi5]
  rcases zf1.1 hy with rfl | hy
  ·simp
  ·have:a.1≠y.1:=fun e=>hT.1 (by rw[e]; exact zf2.2 ⟨y,hy,I⟩);rw[zf7 this];exact ih hT.2 hy
def pD (S:Int→List Int)(x y:Pr):Bool:=(S x.2).contains y.1
section
variable {p:Pr}{S:Int→List Int}{T:List Pr}
theorem qm {rc:Pr→List Int→Bool×List Int}{x:Pr}(hrc:∀ y s,(rc y s).1=true→Pth (pD S) (T++[p]) y p):∀ (q:List Int) (seen:List Int),(∀ z∈q,z∈S x.2)→(dM p (aK T) rc x q seen).1=true→Pth (pD S) (T++[p]) x p
 | [],_,_,h=>by simp[dM] at h
 | low::r,seen,hq,h=>by
  have hr:=qm (x:=x) hrc r;have hin:low∈S x.2:=hq low (by simp);have hq':∀ z∈r,z∈S x.2:=fun z hz=>hq z (by simp[hz]);unfold dM at h;split at h
  ·exact hr _ hq' h
  ·rename_i h1;split at h
   ·rename_i h2;exact .one x p (by simp) (fun e=>h1<|by rw[h2,e]) (by unfold pD; rw[List.contains_iff_mem,← h2]; exact hin)
   ·cases hh:aK T low with
    | none=>rw[hh] at h; exact hr _ hq' h
    | some nx =>
     rw[hh] at h;dsimp only at h;split at h
     ·exact hr _ hq' h
     ·split at h
      ·rename_i h4;exact .cons x (low,nx) p (List.mem_append_left _<|ix hh) (fun e=>h1<|by rw[← e]) (by unfold pD; rw[List.contains_iff_mem]; exact hin)<|hrc _ _ h4
      ·exact hr _ hq' h
theorem og:∀ (n:Nat) (x:Pr) (seen:List Int),(bH p S (aK T) n x seen).1=true→Pth (pD S) (T++[p]) x p
 | 0,_,_,h=>by simp[bH] at h
 | n+1,x,seen,h=>qm (fun y s hy=>og n y s hy) (S x.2) seen (fun _ hz=>hz) h
def Bj (p:Pr)(S:Int→List Int)(T:List Pr)(x:Pr)(s:List Int):Prop:=∀ low∈S x.2,low≠x.1→low≠p.1∧∀ nx,aK T low=some nx→nx∈s
theorem Bj.mono {x:Pr}{s s':List Int}(h:Bj p S T x s)(hs:∀ z∈s,z∈s'):Bj p S T x s':=fun low hl hne=>⟨(h low hl hne).1,fun nx hn=>hs _<|(h low hl hne).2 nx hn⟩
def lJ (T:List Pr)(seen:List Int):Nat:=(T.filter fun q=>!seen.contains q.2).length
theorem nM {v v':List Int}(h:∀ x∈v,x∈v'):lJ T v'≤lJ T v:=by
 unfold lJ;rw[← List.countP_eq_length_filter,← List.countP_eq_length_filter];apply List.countP_mono_left;intro c _ hp;simp at hp ⊢;exact fun e=>hp<|h _ e
theorem uu:∀ {T:List Pr} {v:List Int} {q:Pr},q∈T→v.contains q.2=false→lJ T (v++[q.2])<lJ T v
 | [],_,_,hq,_=>by simp at hq
 | d::t,v,q,hq,hn=>by
  have hm:lJ t (v++[q.2])≤lJ t v:=nM (fun x hx=>by simp[hx]);have e1:∀ u:List Int,lJ (d::t) u=(if u.contains d.2 then 0 else 1)+lJ t u:=fun u=>by
   unfold lJ;rw[zi6];cases u.contains d.2 <;> simp <;> omega
  rw[e1,e1]
  rcases zf1.1 hq with rfl | hq'
  ·have:(v++[q.2]).contains q.2=true:=by simp
   rw[this,hn];simp;omega
  ·have:=uu hq' hn;cases h1:v.contains d.2
   ·cases h2:(v++[q.2]).contains d.2 <;> simp <;> omega
   ·have h2:(v++[q.2]).contains d.2=true:=by simp at h1 ⊢; exact .inl h1
    rw[h2];simp;exact this
def EG (p:Pr)(S:Int→List Int)(T:List Pr)(v s:List Int):Prop:=(∀ z∈v,z∈s)∧∀ low nx,aK T low=some nx→nx∈s→nx ∉ v→Bj p S T (low,nx) s
theorem om (hinj:∀ a b n,aK T a=some n→aK T b=some n→a=b){n:Nat}{rc:Pr→List Int→Bool×List Int}(hrc:∀ y v,lJ T v<n→(rc y v).1=false→EG p S T v (rc y v).2∧Bj p S T y (rc y v).2){x:Pr}:∀ (q v:List Int),lJ T v<n+1→(dM p (aK T) rc x q v).1=false →
  EG p S T v (dM p (aK T) rc x q v).2∧∀ low∈q,low≠x.1→low≠p.1∧∀ nx,aK T low=some nx→nx∈(dM p (aK T) rc x q v).2
 | [],v,_,_=>⟨⟨fun z hz=>hz,fun _ _ _ h1 h2=>absurd h1 h2⟩,by simp⟩
 | low::r,v,hc,h=>by
  have ih:=om hinj hrc (x:=x) r;unfold dM at h ⊢;split at h
  ·rename_i h1;rw[zg1 h1];obtain ⟨d1,d2⟩:=ih v hc h;exact⟨d1,fun z hz hne=>by
    rcases zf1.1 hz with rfl | hz
    ·exact absurd h1 hne
    ·exact d2 z hz hne⟩
  ·rename_i h1;rw[zf9 h1];split at h
   ·simp at h
   ·rename_i h2;rw[zf9 h2];cases hh:aK T low with
    | none =>
     rw[hh] at h;dsimp only at h ⊢;obtain ⟨d1,d2⟩:=ih v hc h;exact⟨d1,fun z hz hne=>by
      rcases zf1.1 hz with rfl | hz
      ·exact⟨h2,fun nx hn=>by rw[hh] at hn; cases hn⟩
      ·exact d2 z hz hne⟩
    | some nx =>
     rw[hh] at h;dsimp only at h ⊢;split at h
     ·rename_i h3;rw[zg1 h3];obtain ⟨d1,d2⟩:=ih v hc h;exact⟨d1,fun z hz hne=>by
       rcases zf1.1 hz with rfl | hz
       ·exact⟨h2,fun ny hn=>by
         rw[hh] at hn;injection hn with hn
         subst hn;exact d1.1 _ (List.contains_iff_mem.1 h3)⟩
       ·exact d2 z hz hne⟩
     ·rename_i h3;have h3':v.contains nx=false:=by simpa using h3
      rw[zf9 h3];split at h
      ·simp at h
      ·rename_i h4;rw[zf9 h4];have hlt:lJ T (v++[nx])<n:=by
        have:=uu (q:=(low,nx)) (ix hh) h3';dsimp only at this;omega
       obtain ⟨e1,e2⟩:=hrc (low,nx) (v++[nx]) hlt (by simpa using h4);have hc2:lJ T (rc (low,nx)<|v++[nx]).2<n+1:=by
        have:=nM (T:=T) e1.1;omega
       obtain ⟨d1,d2⟩:=ih _ hc2 h;refine⟨⟨fun z hz=>d1.1 z (e1.1 z<|by simp[hz]),fun a b hab hb hnv=>?_⟩,fun z hz hne=>?_⟩
       ·by_cases h5:b∈(rc (low,nx)<|v++[nx]).2
        ·by_cases h6:b∈v++[nx]
         ·rcases zf3.1 h6 with h7 | h7
          ·exact absurd h7 hnv
          ·have h7:b=nx:=by simpa using h7
           subst h7;rw[hinj a low b hab hh];exact e2.mono d1.1
         ·exact (e1.2 a b hab h5 h6).mono d1.1
        ·exact d1.2 a b hab hb h5
       ·rcases zf1.1 hz with rfl | hz
        ·exact⟨h2,fun ny hn=>by
          rw[hh] at hn;injection hn with hn
          subst hn;exact d1.1 _ (e1.1 _ (by simp))⟩
        ·exact d2 z hz hne
theorem mG (hinj:∀ a b n,aK T a=some n→aK T b=some n→a=b):∀ (n:Nat) (x:Pr) (v:List Int),lJ T v<n→(bH p S (aK T) n x v).1=false→EG p S T v (bH p S (aK T) n x v).2∧Bj p S T x (bH p S (aK T) n x v).2
 | 0,_,_,hc,_=>absurd hc oM
 | n+1,x,v,hc,h=>om hinj (fun y w hw hy=>mG hinj n y w hw hy) (S x.2) v hc h
theorem xy {n:Nat}(hT:¬ Cyc (pD S) T)(h1:((T++[p]).map Prod.fst).Nodup)(h2:(T.map Prod.snd).Nodup)(hn:T.length<n):(bH p S (aK T) n p []).1=mr (pD S) (T++[p]):=by
 have hnd:(T++[p]).Nodup:=(zk5.1 h1).imp fun h e=>h (by rw[e]);have hTf:(T.map Prod.fst).Nodup:=by
  rw[zg5] at h1;exact (List.nodup_append.1 h1).1
 have hp:∀ y∈T,y.1≠p.1:=fun y hy e=>by
  rw[zg5,List.nodup_append] at h1;exact h1.2.2 _ (zf2.2 ⟨y,hy,I⟩) p.1 (by simp) e
 have hinj:∀ a b n,aK T a=some n→aK T b=some n→a=b:=fun a b k ha hb=>by
  have m1:=ix ha;have m2:=ix hb;obtain ⟨i,hi,e1⟩:=zc7 m1;obtain ⟨j,hj,e2⟩:=zc7 m2;have:(T.map Prod.snd)[i]'(by simpa using hi)=(T.map Prod.snd)[j]'(by simpa using hj):=by simp[e1,e2]
  have:=(List.getElem_inj h2).1 this;subst this;rw[e1] at e2;exact ze2 Prod.fst e2
 rw[Bool.eq_iff_iff,sO hnd,DI hT];refine⟨fun h=>og n p [] h,fun h=>?_⟩;refine Classical.byContradiction fun hf=>?_;have hf:(bH p S (aK T) n p []).1=false:=by simpa using hf
 have hc:lJ T []<n:=by
  have:lJ T []≤T.length:=zc5 _ _;omega
 obtain ⟨d1,d2⟩:=mG hinj n p [] hc hf;generalize (bH p S (aK T) n p []).2=s at *;have key:∀ x z,Pth (pD S) (T++[p]) x z→z=p→(x=p∨(x∈T∧x.2∈s))→False:=by
  intro x z hxz;have stepx:∀ x y:Pr,(x=p∨(x∈T∧x.2∈s))→y∈T++[p]→y≠x→pD S x y=true→y≠p∧y∈T∧y.2∈s:=by
   intro x y hx hy hne ha;have hsh:Bj p S T x s:=by
    rcases hx with rfl | ⟨hx,hs⟩
    ·exact d2
    ·exact d1.2 x.1 x.2 (na hTf hx) hs (by simp)
   have hl:y.1≠x.1:=fun e=>hne (by
    rcases zf3.1 hy with hy1 | hy1
    ·rcases hx with rfl | ⟨hx,-⟩
     ·exact absurd e<|hp y hy1
     ·have a1:=na hTf hx;have a2:=na hTf hy1;rw[e,a1] at a2;injection a2 with a2
      exact Prod.ext e a2.symm
    ·have hy2:y=p:=by simpa using hy1
     subst hy2
     rcases hx with rfl | ⟨hx,-⟩
     ·rfl
     ·exact absurd e.symm (hp x hx))
   obtain ⟨g1,g2⟩:=hsh y.1 (List.contains_iff_mem.1 ha) hl;have hyp:y≠p:=fun e=>g1 (by rw[e])
   rcases zf3.1 hy with hy | hy
   ·exact⟨hyp,hy,g2 y.2<|na hTf hy⟩
   ·exact absurd (by simpa using hy) hyp
  induction hxz with
  | one x y hy hne ha=>exact fun e hx=>(stepx x y hx hy hne ha).1 e
  | cons x y w hy hne ha _ ih =>
   intro e hx;obtain ⟨a1,a2,a3⟩:=stepx x y hx hy hne ha;exact ih e<|.inr ⟨a2,a3⟩
 exact key p p h I<|.inl I
end
end Go.Proofs.YtmmghffoakhheaaGreatDoor
