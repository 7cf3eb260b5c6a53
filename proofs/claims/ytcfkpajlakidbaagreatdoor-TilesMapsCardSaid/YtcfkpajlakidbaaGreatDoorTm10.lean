/- 10 -/
import Derived.Test.YtcfkpajlakidbaaGreatDoorTm04
import Derived.RangeFuncLeaves
import Derived.RangeFuncRecord
import Derived.RangeFuncSeq
import Derived.OrdersIn
import Derived.TacticsIn
import Derived.Test.YtcfkpajlakidbaaGreatDoorTm06
import Derived.Test.YtcfkpajlakidbaaGreatDoorTm05
import Derived.Laws.BytesString
import Derived.Laws.Strings
import Derived.Test.YtcfkpajlakidbaaGreatDoorTm02
import Derived.Shelf.Strings.Trim
import Derived.Test.YtcfkpajlakidbaaGreatDoorTm08
import Derived.Test.YtcfkpajlakidbaaGreatDoorTm07
import Derived.Test.YtcfkpajlakidbaaGreatDoorTm09
set_option linter.unusedSimpArgs false
set_option linter.unusedVariables false
namespace Go.Sy
open Go
structure Md where
 ro:Option Nat
 ds:List Deferred
def wf (ro:Option Nat):Fence:={ fn:=fun _=>True,depth:=none,alive:=false,round:=ro }
def jZ (a:Act):Act:={ a with defers:=[] }
theorem ot (a:Act):(jZ a).eval=a.eval:=by funext x; cases x <;> rfl
theorem DJ (a:Act)(d:Option Tmp)(v:Value):jZ (a.put d v)=(jZ a).put d v:=by cases d <;> rfl
theorem qn (a:Act)(d:Option Tmp)(v:Value):(a.put d v).defers=a.defers:=by cases d <;> rfl
def Okd (ds:List Deferred)(N:Nat)(f:Fr)(a:Act):Prop:=a.defers=ds∧Ok N f (jZ a)
section
variable {P:Program}{M:Md}{N:Nat}{E:World}{Q:Exit→Act→World→Prop}{f f':Fr}{g g':PH}{s s':Own}{ops:Array Oper}
theorem Okd.put {ds:List Deferred}{a:Act}(h:Okd ds N f a){d:Nat}(hlt:d<N)(v:Value):Okd ds N ((d,v)::f) (a.put (some d) v):=⟨h.1,by rw[DJ]; exact h.2.put hlt v⟩
theorem Okd.sub {ds:List Deferred}{a:Act}(h:Okd ds N f a)(hs:Sub f' f):Okd ds N f' a:=⟨h.1,h.2.sub hs⟩
theorem Okd.ev {ds:List Deferred}{a:Act}(h:Okd ds N f a){x:Operand}{v:Value}(hx:Sy.ev f x=some v):a.eval x=v:=by rw[← ot]; exact h.2.ev hx
def XC (P:Program)(M:Md)(N:Nat)(E:World)(c:Code)(Q:Exit→Act→World→Prop)(f:Fr)(g:PH)(s:Own):Prop:=∀ a w,Okd M.ds N f a→At E g s w→c.wpIn (wf M.ro) 0 P Q a w
def XT (M:Md)(N:Nat)(E:World)(Q:Exit→Act→World→Prop)(e:Exit)(f:Fr)(g:PH)(s:Own):Prop:=∀ a w,Okd M.ds N f a→At E g s w→Q e a w
def XL (P:Program)(M:Md)(N:Nat)(E:World)(ops:Array Oper)(Q:Exit→Act→World→Prop)(l:List Oper)(f:Fr)(g:PH)(s:Own):Prop:=∀ a w,Okd M.ds N f a→At E g s w→wpListIn (wf M.ro) 0 P ops Q l a w
def XO (P:Program)(M:Md)(N:Nat)(E:World)(o:Oper)(f:Fr)(g:PH)(s:Own)(K:Value→PH→Own→Prop):Prop :=
 ∀ a w,Okd M.ds N f a→At E g s w→∀ (Q:Exit→Act→World→Prop) (next:Act→World→Prop),
  (∀ v g' s' w',K v g' s'→At E g' s' w'→next (a.put o.dst v) w')→o.wpIn (wf M.ro) 0 P a w next Q
theorem XC.to {c:Code}(h:∀ w,At E g s w→At E g' s' w)(hc:XC P M N E c Q f g' s'):XC P M N E c Q f g s:=fun a w ha hw=>hc a w ha (h w hw)
theorem XT.drop {e:Exit}(hs:s'.Sublist s)(h:XT M N E Q e f g s'):XT M N E Q e f g s:=fun a w ha hw=>h a w ha (hw.sublist hs)
theorem XT.to {e:Exit}(h:∀ w,At E g s w→At E g' s' w)(hc:XT M N E Q e f g' s'):XT M N E Q e f g s:=fun a w ha hw=>hc a w ha (h w hw)
theorem XL.to {l:List Oper}(h:∀ w,At E g s w→At E g' s' w)(hc:XL P M N E ops Q l f g' s'):XL P M N E ops Q l f g s:=fun a w ha hw=>hc a w ha (h w hw)
theorem XC.facts {c:Code}(h:(∃ w,At E g s w)→XC P M N E c Q f g s):XC P M N E c Q f g s:=fun a w ha hw=>h ⟨w,hw⟩ a w ha hw
theorem XL.facts {l:List Oper}(h:(∃ w,At E g s w)→XL P M N E ops Q l f g s):XL P M N E ops Q l f g s:=fun a w ha hw=>h ⟨w,hw⟩ a w ha hw
theorem XT.facts {e:Exit}(h:(∃ w,At E g s w)→XT M N E Q e f g s):XT M N E Q e f g s:=fun a w ha hw=>h ⟨w,hw⟩ a w ha hw
theorem XC.skip (h:XT M N E Q .normal f g s):XC P M N E .skip Q f g s:=fun a w ha hw=>wpIn_skip (h a w ha hw)
theorem XC.ret (h:XT M N E Q .ret f g s):XC P M N E .ret Q f g s:=fun a w ha hw=>wpIn_ret (h a w ha hw)
theorem XC.exit {id:Nat}(h:XT M N E Q (.exit id) f g s):XC P M N E (.exit id) Q f g s:=fun a w ha hw=>wpIn_exit (h a w ha hw)
theorem XC.seq {x y:Code}(h:XC P M N E x (Exit.then (y.wpIn (wf M.ro) 0 P Q) Q) f g s):XC P M N E (.seq x y) Q f g s:=fun a w ha hw=>wpIn_seq (h a w ha hw)
theorem XC.block {id:Nat}{c:Code}(h:XC P M N E c (Exit.inBlock id Q) f g s):XC P M N E (.block id c) Q f g s:=fun a w ha hw=>wpIn_block (h a w ha hw)
theorem XC.cond {c:Operand}{x y:Code}{t:Bool}(hc:ev f c=some (.bool t))(h:XC P M N E (if t then x else y) Q f g s):XC P M N E (.cond c x y) Q f g s :=
 fun a w ha hw=>wpIn_cond (ha.ev hc) (h a w ha hw)
theorem XC.condT {c:Operand}{x y:Code}(hc:ev f c=some (.bool true))(h:XC P M N E x Q f g s):XC P M N E (.cond c x y) Q f g s:=XC.cond hc h
theorem XC.condF {c:Operand}{x y:Code}(hc:ev f c=some (.bool false))(h:XC P M N E y Q f g s):XC P M N E (.cond c x y) Q f g s:=XC.cond hc h
theorem XC.ifB {c:Operand}{x y:Code}{t:Bool}(hc:ev f c=some (.bool t))(h1:t=true→XC P M N E x Q f g s)(h2:t=false→XC P M N E y Q f g s) :
  XC P M N E (.cond c x y) Q f g s:=by
 cases t
 ·exact XC.condF hc (h2 I)
 ·exact XC.condT hc (h1 I)
theorem XC.ifP {c:Operand}{x y:Code}{p:Prop}[Decidable p](hc:ev f c=some (.bool (decide p)))(h1:p→XC P M N E x Q f g s)(h2:¬ p→XC P M N E y Q f g s) :
  XC P M N E (.cond c x y) Q f g s :=
 XC.ifB hc (fun h=>h1 (zf7 h)) (fun h=>h2 (of_decide_eq_false h))
theorem XT.thenN {c:Code}(h:XC P M N E c Q f g s):XT M N E (Exit.then (c.wpIn (wf M.ro) 0 P Q) Q) .normal f g s:=h
theorem XT.thenX {K:Act→World→Prop}{id:Nat}(h:XT M N E Q (.exit id) f g s):XT M N E (Exit.then K Q) (.exit id) f g s:=h
theorem XT.blockN {id:Nat}(h:XT M N E Q .normal f g s):XT M N E (Exit.inBlock id Q) .normal f g s:=h
theorem XT.blockX {id:Nat}(h:XT M N E Q .normal f g s):XT M N E (Exit.inBlock id Q) (.exit id) f g s:=fun a w ha hw=>by simpa [Exit.inBlock] using h a w ha hw
def Ej {ι:Type}(ds:List Deferred)(N:Nat)(E:World)(F:ι→Fr)(G:ι→PH)(S:ι→Own)(J:ι→Prop)(μ:ι→Nat)(i:ι)(a:Act)(w:World):Prop :=
 ∃ j,Okd ds N (F j) a∧At E (G j) (S j) w∧J j∧μ j<μ i
theorem XT.again {ι:Type}{F:ι→Fr}{G:ι→PH}{S:ι→Own}{J:ι→Prop}{μ:ι→Nat}{i:ι}(j:ι)(hf:Sub (F j) f)(hg:G j=g)(hs:S j=s)(hJ:J j)(hμ:μ j<μ i) :
  XT M N E (Exit.then (Ej M.ds N E F G S J μ i) Q) .normal f g s:=fun _ _ ha hw=>⟨j,ha.sub hf,by rw[hg,hs]; exact hw,hJ,hμ⟩
theorem XC.loop {ι:Type}{c:Code}(F:ι→Fr)(G:ι→PH)(S:ι→Own)(J:ι→Prop)(μ:ι→Nat)(i:ι)(hf:Sub (F i) f)(hg:G i=g)(hs:S i=s)(h0:J i)
  (round:∀ i,J i→XC P M N E c (Exit.then (Ej M.ds N E F G S J μ i) Q) (F i) (G i) (S i)):XC P M N E (.loop c) Q f g s:=by
 intro a w ha hw;have key:∀ n,∀ (i:ι) (a:Act) (w:World),μ i=n→Okd M.ds N (F i) a→At E (G i) (S i) w→J i→∀ (b:Frame) (k:List Item) (cs:List Frame),b.roundOf=(wf M.ro).round→(wf M.ro).fn b.fn→(wf M.ro).room (cs.length+1+0) →
   ∃ e a' w',Q e a' w'∧ArrivesIn (Machine.fenced P (wf M.ro)) P (lone (b.atR a (.code c :: .inLoop c::k)) cs w) b k cs e a' w':=by
  intro n;induction n using Nat.strongRecOn with
  | _ n ih =>
   intro i a w hn ha hI hJ b k cs hro hb hr;obtain ⟨e,a₁,w₁,hq,harr⟩:=round i hJ a w ha hI b (.inLoop c::k) cs hro hb hr;cases e with
   | normal =>
    obtain ⟨j,hok,hI₁,hJ₁,hlt⟩:=hq;obtain ⟨e₂,a₂,w₂,hq₂,harr₂⟩:=ih (μ j) (hn ▸ hlt) j a₁ w₁ rfl hok hI₁ hJ₁ b k cs hro hb hr;exact⟨e₂,a₂,w₂,hq₂,.of_steps (StepsIn.trans harr (.one (fenced_calm hb hr I) stepR_inLoop)) harr₂⟩
   | exit id=>exact⟨_,a₁,w₁,hq,.pass (x:=.inLoop c) rfl (fun _ _=>.inl (by simp)) harr⟩
   | goto l=>exact⟨_,a₁,w₁,hq,.pass (x:=.inLoop c) rfl (fun _ _=>.inl (by simp)) harr⟩
   | ret=>exact⟨_,a₁,w₁,hq,.pass (x:=.inLoop c) rfl (fun _ _=>.inl (by simp)) harr⟩
   | panic ch=>exact⟨_,a₁,w₁,hq,.pass (x:=.inLoop c) rfl (fun _ _=>.inl (by simp)) harr⟩
   | outgrown=>exact⟨_,a₁,w₁,hq,.pass (x:=.inLoop c) rfl (fun _ _=>.inl (by simp)) harr⟩
 intro b k cs hro hb hr;obtain ⟨e,a',w',hq,harr⟩:=key _ i a w rfl (ha.sub hf) (by rw[hg,hs]; exact hw) h0 b k cs hro hb hr;exact⟨e,a',w',hq,.of_steps (.one (fenced_calm hb hr I) stepR_loop) harr⟩
theorem XC.region {id:Nat}(h:XL P M N E ops Q ops.toList f g s):XC P M N E (.region id ops false) Q f g s:=fun a w ha hw=>wpIn_region_list (h a w ha hw)
theorem XL.nil (h:XT M N E Q .normal f g s):XL P M N E ops Q [] f g s:=fun a w ha hw=>h a w ha hw
theorem SO.xo {o:Oper}{K:Value→PH→Own→Prop}(hno:∀ c,o.op ≠ .defer c)(h:SO P N E o f g s K):XO P M N E o f g s K:=by
 intro a w ha hw Q next hn;refine⟨fun _ _=>trivial,?_⟩;rw[Oper.semAt_eq _ _ _ hno];have h1:=h (jZ a) w ha.2 hw (fun _ _ _=>False) (fun a' w'=>a'.defers=[]∧∃ v g' s',a'=(jZ a).put o.dst v∧K v g' s'∧At E g' s' w') (fun v g' s' w' hK hw'=>⟨qn _ _ _,v,g',s',rfl,hK,hw'⟩);unfold Oper.wp at h1;rw[ot] at h1;have key:∀ v w',(((jZ a).put o.dst v).defers=[]∧∃ v' g' s',(jZ a).put o.dst v=(jZ a).put o.dst v'∧K v' g' s'∧At E g' s' w')→next (a.put o.dst v) w':=by
  rintro v w' ⟨_,v',g',s',he,hK,hw'⟩;have:a.put o.dst v=a.put o.dst v':=by
   cases hd:o.dst with
   | none=>rfl
   | some d =>
    rw[hd] at he;have h2:=zd6 Act.tmps he;cases a;simp only[Act.put,jZ] at h2 ⊢;rw[h2]
  rw[this];exact hn v' g' s' w' hK hw'
 generalize (execOp a.eval o).run P w=r at h1;cases r with
 | ok n w' =>
  cases n <;> simp only[Oper.upon] at h1 <;> first | exact h1.elim | skip
  ·exact key _ _ h1
  ·exact key _ _ h1
  ·rename_i f' args;exact⟨fun h=>(by cases h),(CallsIn.more (n:=0) ((callsIn_wide (n:=0)).2 (Calls.mono h1 (fun e w'' he=>by cases e with | returned v=>exact key _ _ he | panicked c=>exact he.elim | outgrown=>obtain ⟨_,_,h2⟩:=he; exact h2.elim))) (zf1 _))⟩
  ·exact absurd h1.1 (by rw[qn]; simp)
  ·exact⟨fun h=>(by cases h),fun c cs _=>let ⟨v,w'',r,st⟩:=h1 c cs; ⟨v,w'',key _ _ r,stepsIn_wide.2 st⟩⟩
 | halt x w'=>cases x <;> simp only[Oper.upon] at h1 <;> exact h1.elim
theorem XL.step {o:Oper}{l:List Oper}{K:Value→PH→Own→Prop}(hg:Gd N ops f o true)(ho:XO P M N E o f g s K)
  (h:∀ v g' s' a,K v g' s'→Okd M.ds N f a→∃ f',Okd M.ds N f' (a.put o.dst v)∧XL P M N E ops Q l f' g' s'):XL P M N E ops Q (o::l) f g s:=by
 intro a w ha hw;unfold wpListIn;have hwt:Region.wanted o (yielded ops a.tmps)=true:=hg (jZ a) ha.2;rw[zf5 hwt];refine ho a w ha hw Q _ fun v g' s' w' hK hw'=>?_;obtain ⟨f',hf',hn⟩:=h v g' s' a hK ha;exact hn _ _ hf' hw'
theorem XL.x {d:Nat}{op:Op}{ty:TypeId}{pos:String}{af:Array Edge}{l:List Oper}{K:Value→PH→Own→Prop}(ho:XO P M N E ⟨some d,op,ty,pos,af,none⟩ f g s K)(hd:d<N)
  (h:∀ v g' s',K v g' s'→XL P M N E ops Q l ((d,v)::f) g' s'):XL P M N E ops Q (⟨some d,op,ty,pos,af,none⟩::l) f g s :=
 XL.step (Gd.none rfl) ho fun v g' s' _ hK ha=>⟨_,ha.put hd v,h v g' s' hK⟩
theorem XL.go {d:Nat}{op:Op}{ty:TypeId}{pos:String}{af:Array Edge}{gd:Option (Nat×Bool)}{l:List Oper}{K:Value→PH→Own→Prop}(hg:Gd N ops f ⟨some d,op,ty,pos,af,gd⟩ true)(ho:SO P N E ⟨some d,op,ty,pos,af,gd⟩ f g s K)(hd:d<N)
  (h:∀ v g' s',K v g' s'→XL P M N E ops Q l ((d,v)::f) g' s') (hno:∀ c,op ≠ .defer c:=by intro _ h; cases h):XL P M N E ops Q (⟨some d,op,ty,pos,af,gd⟩::l) f g s :=
 XL.step hg (ho.xo hno) fun v g' s' _ hK ha=>⟨_,ha.put hd v,h v g' s' hK⟩
theorem XL.o {d:Nat}{op:Op}{ty:TypeId}{pos:String}{af:Array Edge}{l:List Oper}{K:Value→PH→Own→Prop}(ho:SO P N E ⟨some d,op,ty,pos,af,none⟩ f g s K)(hd:d<N)
  (h:∀ v g' s',K v g' s'→XL P M N E ops Q l ((d,v)::f) g' s') (hno:∀ c,op ≠ .defer c:=by intro _ h; cases h):XL P M N E ops Q (⟨some d,op,ty,pos,af,none⟩::l) f g s :=
 XL.go (Gd.none rfl) ho hd h hno
theorem XL.on {op:Op}{ty:TypeId}{pos:String}{af:Array Edge}{l:List Oper}{K:Value→PH→Own→Prop}(ho:SO P N E ⟨none,op,ty,pos,af,none⟩ f g s K)
  (h:∀ v g' s',K v g' s'→XL P M N E ops Q l f g' s') (hno:∀ c,op ≠ .defer c:=by intro _ h; cases h):XL P M N E ops Q (⟨none,op,ty,pos,af,none⟩::l) f g s :=
 XL.step (Gd.none rfl) (ho.xo hno) fun v g' s' _ hK ha=>⟨f,ha,h v g' s' hK⟩
theorem XL.gq {d:Nat}{op:Op}{ty:TypeId}{pos:String}{af:Array Edge}{gd:Option (Nat×Bool)}{l:List Oper}{v:Value}(hg:Gd N ops f ⟨some d,op,ty,pos,af,gd⟩ true)(hq:SQ P N E ⟨some d,op,ty,pos,af,gd⟩ f g s v)(hd:d<N)
  (h:XL P M N E ops Q l ((d,v)::f) g s) (hno:∀ c,op ≠ .defer c:=by intro _ h; cases h):XL P M N E ops Q (⟨some d,op,ty,pos,af,gd⟩::l) f g s :=
 XL.go hg hq.so hd (fun v' g' s' ⟨e1,e2,e3⟩=>by subst e1; subst e2; subst e3; exact h) hno
theorem XL.q {d:Nat}{op:Op}{ty:TypeId}{pos:String}{af:Array Edge}{l:List Oper}{v:Value}(hq:SQ P N E ⟨some d,op,ty,pos,af,none⟩ f g s v)(hd:d<N)
  (h:XL P M N E ops Q l ((d,v)::f) g s) (hno:∀ c,op ≠ .defer c:=by intro _ h; cases h):XL P M N E ops Q (⟨some d,op,ty,pos,af,none⟩::l) f g s:=XL.gq (Gd.none rfl) hq hd h hno
theorem XL.gu {d:Nat}{op:Op}{ty:TypeId}{pos:String}{af:Array Edge}{gd:Option (Nat×Bool)}{l:List Oper}{v:Value}(hg:Gd N ops f ⟨some d,op,ty,pos,af,gd⟩ true)(hq:SU P N ⟨some d,op,ty,pos,af,gd⟩ f v)(hd:d<N)
  (h:XL P M N E ops Q l ((d,v)::f) g s) (hno:∀ c,op ≠ .defer c:=by intro _ h; cases h):XL P M N E ops Q (⟨some d,op,ty,pos,af,gd⟩::l) f g s:=XL.gq hg hq.sq hd h hno
theorem XL.u {d:Nat}{op:Op}{ty:TypeId}{pos:String}{af:Array Edge}{l:List Oper}{v:Value}(hq:SU P N ⟨some d,op,ty,pos,af,none⟩ f v)(hd:d<N)
  (h:XL P M N E ops Q l ((d,v)::f) g s) (hno:∀ c,op ≠ .defer c:=by intro _ h; cases h):XL P M N E ops Q (⟨some d,op,ty,pos,af,none⟩::l) f g s:=XL.q hq.sq hd h hno
theorem XL.off {d:Nat}{op:Op}{ty:TypeId}{pos:String}{af:Array Edge}{gd:Option (Nat×Bool)}{l:List Oper}(hg:Gd N ops f ⟨some d,op,ty,pos,af,gd⟩ false)(hd:d<N)
  (h:XL P M N E ops Q l ((d,undef)::f) g s):XL P M N E ops Q (⟨some d,op,ty,pos,af,gd⟩::l) f g s:=by
 intro a w ha hw;unfold wpListIn;have hwt:Region.wanted (⟨some d,op,ty,pos,af,gd⟩:Oper) (yielded ops a.tmps)=false:=hg (jZ a) ha.2;rw[zf4 (by rw[hwt]; simp)];exact⟨fun _ _=>trivial,h _ _ (ha.put hd undef) hw⟩
theorem At.obj {w:World}{b i:Nat}{o o':Obj}(h:At E g s w)(hi:s[i]?=some (pt b o)):At E g (s.set i (pt b o')) (w.putObj b o'):=by
 have h2:=h.fresh _ (zf6 hi) b rfl;refine h.turn hi I ⟨I,lR _⟩ I (by simp[World.putObj]) (fun k _ hk=>World.putObj_heap_other (fun e=>hk (by simp[pt,e]))) ?_ (fun b' hb'=>?_)
 ·simp only[pt,Option.bind_some];exact World.putObj_heap_same h2.2
 ·simp only[pt,zg2] at hb';subst hb';exact⟨by simpa [World.putObj] using h2.2,.inl I⟩
theorem At.here {w:World}{b i:Nat}{o:Obj}(h:At E g s w)(hi:s[i]?=some (pt b o)):w.heap[b]?=some o:=by
 have:=h.own _ (zf6 hi);simpa [pt] using this
end
def Ei (P:Program)(E:World)(l:Nat)(args:Array Value)(g:PH)(s:Own)(R:Value→PH→Own→Prop):Prop :=
 ∀ w,At E g s w→YieldAt Fence.wide 0 P l args w fun e w'=>∃ v g' s',e = .returned v∧At E g' s' w'∧R v g' s'
def Cr (P:Program)(E:World)(gf:FuncId)(lb:List Value){α:Type}(encs:α→List Value)(xs:List α)(g0:PH):Prop :=
 ∀ (l:Nat) (ι:Type) (G:ι→PH) (S:ι→Own) (J:List α→ι→Prop) (i0:ι),J [] i0→(∀ pre i,J pre i→Le g0 (G i)) →
  (∀ pre x suf i sx,xs=pre++x::suf→J pre i→Ei P E l (encs x).toArray (G i) (S i++sx) (fun v g' s'=>v = .bool true∧∃ j,J (pre++[x]) j∧g'=G j∧s'=S j++sx)) →
  ∀ sx,Ctr P E gf (.func (.yield l) #[] #[]::lb).toArray (G i0) (S i0++sx) (fun _ g' s'=>∃ j,J xs j∧g'=G j∧s'=S j++sx)
section
variable {P:Program}{M:Md}{N:Nat}{E:World}{Q:Exit→Act→World→Prop}{f:Fr}{g:PH}{s:Own}{dst:Option Tmp}{ty:TypeId}{pos:String}{af:Array Edge}{gd:Option (Nat×Bool)}
theorem XO.yield {x:Operand}{l:List Operand}{tys:Array TypeId}{vs:List Value}{k:Nat}{R:Value→PH→Own→Prop}(hx:ev f x=some (.func (.yield k) #[] #[]))(hl:evs f l=some vs)(hY:Ei P E k vs.toArray g s R) :
  XO P M N E ⟨dst,.call ⟨.value x,l.toArray,tys⟩,ty,pos,af,gd⟩ f g s R:=by
 intro a w ha hw Q next hn;refine⟨fun _ _=>trivial,?_⟩;rw[Oper.semAt_eq _ _ _ (fun _ h=>by cases h)];obtain ⟨fn,tmps,assign,body,hy,hR⟩:=hY w hw;have h1:a.eval x = .func (.yield k) #[] #[]:=ha.ev hx;have h2:l.map a.eval=vs:=by have:=ha.2.evs hl; rwa [ot] at this
 have h3:(execOp a.eval ⟨dst,.call ⟨.value x,l.toArray,tys⟩,ty,pos,af,gd⟩).run P w = .ok (.round k fn tmps assign body) w:=by
  simp only[execOp,resolve,h1,List.map_toArray,h2];simp[Deferred.ofValue,Sem.run_bind,invoke,hy]
 rw[h3];refine⟨fun h=>(by cases h),RoundIn.mono hR fun e w' he=>?_⟩;obtain ⟨v,g',s',rfl,hat,hRR⟩:=he;exact hn v g' s' w' hRR hat
theorem Ctr.ofX {n:FuncId}{fn:Func}{c:Code}{args:List Value}{R:Value→PH→Own→Prop}
  (hf:P.funcs[n]?=some fn) (hb:fn.body=some c) (hN:fn.ntmps=N) (hle:args.length≤N)
  (h:XC P ⟨none,[]⟩ N E c (bodyPostM (wf none) 0 P fn (si E R)) (lJ 0 args) g s):Ctr P E n args.toArray g s R:=by
 intro w hw;refine (callsIn_wide (n:=0)).1 (callsIn_of_wp_marks (F:=wf none) hf hb trivial (h _ w ⟨I,⟨I,?_,fun t v hv=>?_⟩⟩ hw) I)
 ·simp[jZ,hN]; omega
 ·obtain ⟨_,h2⟩:=jK args 0 t v hv;have hlt:t<args.length:=(ze9.1 (by simpa using h2)).1;simp only[Nat.sub_zero] at h2;obtain ⟨_,h3⟩:=ze9.1 h2;simp[jZ,Array.getElem?_append,hlt,h3]
theorem XT.leave0 {fn:Func}{R:Value→PH→Own→Prop}{e:Exit}(he:e = .ret∨e = .normal)(h:ST N E (bodyPost P fn (si E R)) e f g s):XT ⟨none,[]⟩ N E (bodyPostM (wf none) 0 P fn (si E R)) e f g s:=by
 intro a w ha hw;have h1:=h (jZ a) w ha.2 hw
 rcases he with rfl | rfl
 all_goals
  obtain ⟨_,v,h2,h3⟩:=h1;show LeavesInM _ _ _ _ _ _ a.defers _ _;rw[ha.1];exact⟨v,h2,h3⟩
theorem XT.leave1 {fn:Func}{R:Value→PH→Own→Prop}{e:Exit}{D:Nat}(he:e = .ret∨e = .normal)(h:ST N E (bodyPost P fn (si E R)) e f g s) :
  XT ⟨none,[⟨.collected D,#[]⟩]⟩ N E (bodyPostM (wf none) 0 P fn (si E R)) e f g (pt D (.deferred (some []))::s):=by
 intro a w ha hw;have hD:w.heap[D]?=some (.deferred (some [])):=At.here (i:=0) hw rfl;have hw2:=(At.obj (i:=0) (o':=.deferred none) hw rfl).sublist (zi4 _ _);have h1:=h (jZ a) _ ha.2 hw2
 rcases he with rfl | rfl
 all_goals
  obtain ⟨_,v,h2,h3⟩:=h1;show LeavesInM _ _ _ _ _ _ a.defers _ _;rw[ha.1];exact⟨by simp,.inl ⟨D,_,I,run_takeDeferred hD,v,h2,h3⟩⟩
theorem z7 {a:Act}{t t':Nat}{u u':Value}(h:Ok N f (jZ a))(ht:t<N)(ht':t'<N):Ok N ((t',u')::(t,u)::f) { tmps:=((#[t,t']:Array Tmp).zip [u,u'].toArray).foldl (fun t (p,v)=>t.setIfInBounds p v) a.tmps,defers:=[] }:=by
 have:=(h.put ht u).put ht' u';simpa [Act.put,jZ] using this
def rY {α ι:Type}(E:World)(G:ι→PH)(S:ι→Own)(J:List α→ι→Prop)(pre:List α)(x:α)(sx:Own):Exit→Act→World→Prop:=fun e _ w'=>e = .normal∧∃ j,At E (G j) (S j++sx) w'∧J (pre++[x]) j
def ug {N:Nat}(E:World)(g:PH)(s:Own)(fb:Fr):Exit→Act→World→Prop:=fun e a' w'=>e = .normal∧Okd [] N fb a'∧At E g s w'
theorem XT.roundEnd {α ι:Type}{G:ι→PH}{S:ι→Own}{J:List α→ι→Prop}{pre:List α}{x:α}{sx:Own}(j:ι)(hg:G j=g)(hs:S j++sx=s)(hj:J (pre++[x]) j):XT M N E (rY E G S J pre x sx) .normal f g s:=fun _ _ _ hw=>⟨rfl,j,by rw[hg,hs]; exact hw,hj⟩
theorem XT.assignEnd {fb:Fr}{ro:Option Nat}(hf:Sub fb f):XT ⟨ro,[]⟩ N E (ug (N:=N) E g s fb) .normal f g s:=fun _ _ ha hw=>⟨rfl,ha.sub hf,hw⟩
theorem XC.rangeFunc {α ι:Type}{gop:Operand}{ps:Array Tmp}{assign body:Code}{gf:FuncId}{lb:List Value}{encs:α→List Value}{xs:List α}{g0:PH}(G:ι→PH)(S:ι→Own)(J:List α→ι→Prop)(i0:ι)(sx0:Own)(fa:α→Fr)(fb:List α→α→ι→Fr)
  (hro:M.ro=none) (hg:ev f gop=some (.func (.func gf) #[] lb.toArray)) (eg:∀ args w,(callFunc gf args).run P w = .ok (.enter gf args) w) (hps:∀ x,(encs x).length=ps.size)
  (hG:G i0=g) (hS:S i0++sx0=s) (hseq:Cr P E gf lb encs xs g0) (hmono:∀ pre i,J pre i→Le g0 (G i)) (h0:J [] i0)
  (hfa:∀ x a,Ok N f (jZ a)→Ok N (fa x) { tmps:=(ps.zip (encs x).toArray).foldl (fun t (p,v)=>t.setIfInBounds p v) a.tmps,defers:=[] })
  (hassign:∀ l pre x i sx,J pre i→XC P ⟨some l,[]⟩ N E assign (ug (N:=N) E (G i) (S i++sx) (fb pre x i)) (fa x) (G i) (S i++sx))
  (hbody:∀ l pre x suf i sx,xs=pre++x::suf→J pre i→XC P ⟨some l,[]⟩ N E body (rY E G S J pre x sx) (fb pre x i) (G i) (S i++sx))
  (hdone:∀ D j,J xs j→XT ⟨none,⟨.collected D,#[]⟩::M.ds⟩ N E Q .normal f (G j) (pt D (.deferred (some []))::(S j++sx0))):XC P M N E (.rangeFunc gop ps assign body) Q f g s:=by
 subst hG hS;intro a w ha hw;rw[hro];refine wpIn_rangeFunc ?_;intro fn _;obtain ⟨rec,hrec⟩:∃ rec:LoopState→Option Code→Loop,rec=fun st pe=>{ state:=st,pending:=pe,fn,tmps:=a.tmps,params:=ps,assign,body,defers:=w.heap.size }:=⟨_,rfl⟩;obtain ⟨L,hL⟩:∃ L,L=w.heap.size+1:=⟨_,rfl⟩;obtain ⟨D,hD⟩:∃ D,D=w.heap.size:=⟨_,rfl⟩;obtain ⟨W1,hW1⟩:∃ W1,(w.alloc (.deferred (some []))).alloc (.loop (rec .ready none))=W1:=⟨_,rfl⟩;have hA:At E (G i0) (pt L (.loop (rec .ready none))::pt D (.deferred (some []))::(S i0++sx0)) W1:=by
  rw[← hW1,hL,hD];have h1:At E (G i0) (pt w.heap.size (.deferred (some []))::(S i0++sx0)) (w.alloc (.deferred (some []))):=hw.alloc (e:=pt w.heap.size (.deferred (some []))) rfl rfl;have h2:=h1.alloc (e:=pt (w.alloc (.deferred (some []))).heap.size (.loop (rec .ready none))) rfl rfl;rw[World.size_alloc] at h2;exact h2
 obtain ⟨S2,hS2⟩:∃ S2:ι→Own,S2=fun i=>S i++(pt L (.loop (rec .ready none))::pt D (.deferred (some []))::sx0):=⟨_,rfl⟩;have hA2:At E (G i0) (S2 i0++[]) W1:=by
  rw[hS2,zc3];dsimp only;refine hA.perm ?_;have h1:(pt L (.loop (rec .ready none))::pt D (.deferred (some []))::(S i0++sx0))=[pt L (.loop (rec .ready none)),pt D (.deferred (some []))]++(S i0++sx0):=rfl;have h2:S i0++(pt L (.loop (rec .ready none))::pt D (.deferred (some []))::sx0)=S i0++([pt L (.loop (rec .ready none)),pt D (.deferred (some []))]++sx0):=rfl;rw[h1,h2,← zg3,← zg3];exact List.perm_append_comm.append_right _
 refine⟨L,[{ target:=.collected D,args:=#[] }],W1,{ target:=.fn (.func gf) lb.toArray,args:=#[.func (.yield L) #[] #[]] },W1,gf,(.func (.yield L) #[] #[]::lb).toArray,W1,?_,?_,fun _ _=>trivial,?_,fun h=>(by cases h),?_⟩
 ·rw[← hW1,hrec,hL,hD]; exact run_enterLoop_outer _ _ _ _ _
 ·have h1:a.eval gop = .func (.func gf) #[] lb.toArray:=ha.ev hg;simp only[resolve,h1];simp[go_sem]
 ·have:(#[.func (.yield L) #[] #[]]++lb.toArray:Array Value)=(.func (.yield L) #[] #[]::lb).toArray:=by simp
  simp[invoke,go_sem,eg]
 ·refine (callsIn_wide (n:=0 - 1)).2 ((hseq L ι G S2 J i0 h0 hmono ?_ [] W1 hA2).mono ?_)
  ·intro pre x suf i sx hxs hJ W hW;rw[hS2] at hW;simp only[zg3,List.cons_append] at hW;have hlen:(S i).length=(S i).length:=rfl;have gl:∀ (i:ι) (u u':Ent) (r:Own),(S i++u::u'::r)[(S i).length]?=some u:=fun i u u' r=>by simp
   have hl:=hW.here (gl i _ _ _);have hy:=run_yield (P:=P) (args:=(encs x).toArray) hl (by rw[hrec]; simpa using hps x);rw[hrec] at hy;refine⟨fn,_,assign,body,hy,roundIn_of_wpIn trivial ?_⟩;refine Code.wpIn_mono (fun e a1 w1 h1=>?_) (hassign L pre x i _ hJ { tmps:=(ps.zip (encs x).toArray).foldl (fun t (p,v)=>t.setIfInBounds p v) a.tmps,defers:=[] } W ⟨I,hfa x a ha.2⟩ hW);obtain ⟨rfl,ha1,hw1⟩:=h1;have hl1:=hw1.here (gl i _ _ _);refine⟨_,run_beginRound hl1 (by rw[hrec]),?_⟩;have hset:∀ (i:ι) (u u' v:Ent) (r:Own),(S i++u::u'::r).set (S i).length v=S i++v::u'::r:=fun i u u' v r=>by simp
   have hw2:=hw1.obj (o':=.loop { rec .ready none with state:=.busy }) (gl i _ _ _);rw[hset] at hw2;refine Code.wpIn_mono (fun e a3 w3 h3=>?_) (hbody L pre x suf i _ hxs hJ a1 _ ha1 hw2);obtain ⟨rfl,j,hw3,hJ3⟩:=h3;have hl3:=hw3.here (gl j _ _ _);have he:=run_endRound (P:=P) none hl3;have hw4:=hw3.obj (o':=.loop { (rec .ready none) with state:=.ready,pending:=none }) (gl j _ _ _);rw[hset] at hw4;refine⟨_,_,he,.bool true,G j,S2 j++sx,I,?_,I,j,hJ3,I,I⟩;rw[hS2];simp only[zg3,List.cons_append];rw[hrec] at hw4 ⊢;exact hw4
  ·rintro e W2 ⟨v,g',s',rfl,hat,j,hJ,rfl,rfl⟩;rw[hS2,zc3] at hat;have gl:∀ (i:ι) (u u':Ent) (r:Own),(S i++u::u'::r)[(S i).length]?=some u:=fun i u u' r=>by simp
   have hl:=hat.here (gl j _ _ _);have he:=run_endLoop (P:=P) hl (by rw[hrec]; simp);have h2:=hat.obj (o':=.loop { (rec .ready none) with state:=.exhausted }) (gl j _ _ _);have hset:∀ (i:ι) (u u' v:Ent) (r:Own),(S i++u::u'::r).set (S i).length v=S i++v::u'::r:=fun i u u' v r=>by simp
   rw[hset] at h2;have hpn:(rec .ready none).pending=none:=by rw[hrec]
   refine⟨none,_,he.trans (zd6 (fun p=>Result.ok p _) hpn),?_⟩;refine hdone D j hJ _ _ ⟨by rw[← ha.1]; rfl,ha.2⟩ ?_;have h3:=(h2.sublist (s':=S j++pt D (.deferred (some []))::sx0) (by exact (zb9 _).append (zi4 _ _))).perm List.perm_middle;exact h3
end
end Go.Sy
namespace Go.Sy
open Go
section
variable {P:Program}{M:Md}{N:Nat}{E:World}{Q:Exit→Act→World→Prop}{f:Fr}{g:PH}{s:Own}{dst:Option Tmp}{ty:TypeId}{pos:String}{af:Array Edge}{gd:Option (Nat×Bool)}
end
end Go.Sy
namespace Go.Sy
open Go
section
variable {P:Program}{M:Md}{N:Nat}{E:World}{Q:Exit→Act→World→Prop}{f:Fr}{g:PH}{s:Own}{dst:Option Tmp}{ty:TypeId}{pos:String}{af:Array Edge}{gd:Option (Nat×Bool)}
def qQ {κ:Type}{N:Nat}(E:World)(g:PH)(s:Own)(fb:κ→Fr)(X:κ→Own):Exit→Act→World→Prop:=fun e a' w'=>e = .normal∧∃ q,Okd [] N (fb q) a'∧At E g (X q++s) w'
theorem XT.assignEndA {κ:Type}{fb:κ→Fr}{X:κ→Own}{ro:Option Nat}{s0:Own}(q:κ)(hf:Sub (fb q) f)(hs:X q++s0=s):XT ⟨ro,[]⟩ N E (qQ (N:=N) E g s0 fb X) .normal f g s:=fun _ _ ha hw=>⟨rfl,q,ha.sub hf,by rw[hs]; exact hw⟩
theorem XC.rangeFuncA {α ι κ:Type}{gop:Operand}{ps:Array Tmp}{assign body:Code}{gf:FuncId}{lb:List Value}{encs:α→List Value}{xs:List α}{g0:PH}(G:ι→PH)(S:ι→Own)(J:List α→ι→Prop)(i0:ι)(sx0:Own)(fa:α→Fr)(fb:List α→α→ι→κ→Fr)(X:α→κ→Own)
  (hro:M.ro=none) (hg:ev f gop=some (.func (.func gf) #[] lb.toArray)) (eg:∀ args w,(callFunc gf args).run P w = .ok (.enter gf args) w) (hps:∀ x,(encs x).length=ps.size)
  (hG:G i0=g) (hS:S i0++sx0=s) (hseq:Cr P E gf lb encs xs g0) (hmono:∀ pre i,J pre i→Le g0 (G i)) (h0:J [] i0)
  (hfa:∀ x a,Ok N f (jZ a)→Ok N (fa x) { tmps:=(ps.zip (encs x).toArray).foldl (fun t (p,v)=>t.setIfInBounds p v) a.tmps,defers:=[] })
  (hassign:∀ l pre x i sx,J pre i→XC P ⟨some l,[]⟩ N E assign (qQ (N:=N) E (G i) (S i++sx) (fb pre x i) (X x)) (fa x) (G i) (S i++sx))
  (hbody:∀ l pre x suf i sx q,(∃ (r:Loop) (k:Nat),sx[k]?=some (pt l (.loop r)))→xs=pre++x::suf→J pre i→XC P ⟨some l,[]⟩ N E body (rY E G S J pre x sx) (fb pre x i q) (G i) (X x q++(S i++sx)))
  (hdone:∀ D j,J xs j→XT ⟨none,⟨.collected D,#[]⟩::M.ds⟩ N E Q .normal f (G j) (pt D (.deferred (some []))::(S j++sx0))):XC P M N E (.rangeFunc gop ps assign body) Q f g s:=by
 subst hG hS;intro a w ha hw;rw[hro];refine wpIn_rangeFunc ?_;intro fn _;obtain ⟨rec,hrec⟩:∃ rec:LoopState→Option Code→Loop,rec=fun st pe=>{ state:=st,pending:=pe,fn,tmps:=a.tmps,params:=ps,assign,body,defers:=w.heap.size }:=⟨_,rfl⟩;obtain ⟨L,hL⟩:∃ L,L=w.heap.size+1:=⟨_,rfl⟩;obtain ⟨D,hD⟩:∃ D,D=w.heap.size:=⟨_,rfl⟩;obtain ⟨W1,hW1⟩:∃ W1,(w.alloc (.deferred (some []))).alloc (.loop (rec .ready none))=W1:=⟨_,rfl⟩;have hA:At E (G i0) (pt L (.loop (rec .ready none))::pt D (.deferred (some []))::(S i0++sx0)) W1:=by
  rw[← hW1,hL,hD];have h1:At E (G i0) (pt w.heap.size (.deferred (some []))::(S i0++sx0)) (w.alloc (.deferred (some []))):=hw.alloc (e:=pt w.heap.size (.deferred (some []))) rfl rfl;have h2:=h1.alloc (e:=pt (w.alloc (.deferred (some []))).heap.size (.loop (rec .ready none))) rfl rfl;rw[World.size_alloc] at h2;exact h2
 obtain ⟨S2,hS2⟩:∃ S2:ι→Own,S2=fun i=>S i++(pt L (.loop (rec .ready none))::pt D (.deferred (some []))::sx0):=⟨_,rfl⟩;have hA2:At E (G i0) (S2 i0++[]) W1:=by
  rw[hS2,zc3];dsimp only;refine hA.perm ?_;have h1:(pt L (.loop (rec .ready none))::pt D (.deferred (some []))::(S i0++sx0))=[pt L (.loop (rec .ready none)),pt D (.deferred (some []))]++(S i0++sx0):=rfl;have h2:S i0++(pt L (.loop (rec .ready none))::pt D (.deferred (some []))::sx0)=S i0++([pt L (.loop (rec .ready none)),pt D (.deferred (some []))]++sx0):=rfl;rw[h1,h2,← zg3,← zg3];exact List.perm_append_comm.append_right _
 refine⟨L,[{ target:=.collected D,args:=#[] }],W1,{ target:=.fn (.func gf) lb.toArray,args:=#[.func (.yield L) #[] #[]] },W1,gf,(.func (.yield L) #[] #[]::lb).toArray,W1,?_,?_,fun _ _=>trivial,?_,fun h=>(by cases h),?_⟩
 ·rw[← hW1,hrec,hL,hD]; exact run_enterLoop_outer _ _ _ _ _
 ·have h1:a.eval gop = .func (.func gf) #[] lb.toArray:=ha.ev hg;simp only[resolve,h1];simp[go_sem]
 ·have:(#[.func (.yield L) #[] #[]]++lb.toArray:Array Value)=(.func (.yield L) #[] #[]::lb).toArray:=by simp
  simp[invoke,go_sem,eg]
 ·refine (callsIn_wide (n:=0 - 1)).2 ((hseq L ι G S2 J i0 h0 hmono ?_ [] W1 hA2).mono ?_)
  ·intro pre x suf i sx hxs hJ W hW;rw[hS2] at hW;simp only[zg3,List.cons_append] at hW;have hlen:(S i).length=(S i).length:=rfl;have gl:∀ (i:ι) (u u':Ent) (r:Own),(S i++u::u'::r)[(S i).length]?=some u:=fun i u u' r=>by simp
   have hl:=hW.here (gl i _ _ _);have hy:=run_yield (P:=P) (args:=(encs x).toArray) hl (by rw[hrec]; simpa using hps x);rw[hrec] at hy;refine⟨fn,_,assign,body,hy,roundIn_of_wpIn trivial ?_⟩;refine Code.wpIn_mono (fun e a1 w1 h1=>?_) (hassign L pre x i _ hJ { tmps:=(ps.zip (encs x).toArray).foldl (fun t (p,v)=>t.setIfInBounds p v) a.tmps,defers:=[] } W ⟨I,hfa x a ha.2⟩ hW);obtain ⟨rfl,q,ha1,hw1⟩:=h1;have glX:∀ (X:Own) (i:ι) (u u':Ent) (r:Own),(X++(S i++u::u'::r))[X.length+(S i).length]?=some u:=fun X i u u' r=>by rw[zg7 oM,Nat.add_sub_cancel_left]; exact gl i u u' r
   have hl1:=hw1.here (glX _ i _ _ _);refine⟨_,run_beginRound hl1 (by rw[hrec]),?_⟩;have hset:∀ (i:ι) (u u' v:Ent) (r:Own),(S i++u::u'::r).set (S i).length v=S i++v::u'::r:=fun i u u' v r=>by simp
   have hsetX:∀ (X:Own) (i:ι) (u u' v:Ent) (r:Own),(X++(S i++u::u'::r)).set (X.length+(S i).length) v=X++(S i++v::u'::r):=fun X i u u' v r=>by rw[List.set_append_right _ _ oM,Nat.add_sub_cancel_left,hset]
   have hw2:=hw1.obj (o':=.loop { rec .ready none with state:=.busy }) (glX _ i _ _ _);rw[hsetX] at hw2;refine Code.wpIn_mono (fun e a3 w3 h3=>?_) (hbody L pre x suf i _ q ⟨_,0,I⟩ hxs hJ a1 _ ha1 hw2);obtain ⟨rfl,j,hw3,hJ3⟩:=h3;have hl3:=hw3.here (gl j _ _ _);have he:=run_endRound (P:=P) none hl3;have hw4:=hw3.obj (o':=.loop { (rec .ready none) with state:=.ready,pending:=none }) (gl j _ _ _);rw[hset] at hw4;refine⟨_,_,he,.bool true,G j,S2 j++sx,I,?_,I,j,hJ3,I,I⟩;rw[hS2];simp only[zg3,List.cons_append];rw[hrec] at hw4 ⊢;exact hw4
  ·rintro e W2 ⟨v,g',s',rfl,hat,j,hJ,rfl,rfl⟩;rw[hS2,zc3] at hat;have gl:∀ (i:ι) (u u':Ent) (r:Own),(S i++u::u'::r)[(S i).length]?=some u:=fun i u u' r=>by simp
   have hl:=hat.here (gl j _ _ _);have he:=run_endLoop (P:=P) hl (by rw[hrec]; simp);have h2:=hat.obj (o':=.loop { (rec .ready none) with state:=.exhausted }) (gl j _ _ _);have hset:∀ (i:ι) (u u' v:Ent) (r:Own),(S i++u::u'::r).set (S i).length v=S i++v::u'::r:=fun i u u' v r=>by simp
   rw[hset] at h2;have hpn:(rec .ready none).pending=none:=by rw[hrec]
   refine⟨none,_,he.trans (zd6 (fun p=>Result.ok p _) hpn),?_⟩;refine hdone D j hJ _ _ ⟨by rw[← ha.1]; rfl,ha.2⟩ ?_;have h3:=(h2.sublist (s':=S j++pt D (.deferred (some []))::sx0) (by exact (zb9 _).append (zi4 _ _))).perm List.perm_middle;exact h3
end
end Go.Sy
namespace Go.Sy
open Go
def ext (ds:List Deferred)(b:Act):Act:={ b with defers:=b.defers++ds }
theorem lI (ds:List Deferred)(b:Act)(d:Option Tmp)(v:Value):ext ds (b.put d v)=(ext ds b).put d v:=by cases d <;> rfl
theorem Dz (ds:List Deferred)(b:Act):(ext ds b).eval=b.eval:=by funext x; cases x <;> rfl
def nH (ops:Array Oper):Bool:=ops.toList.all fun o=>match o.op with | .defer _=>false | _=>true
theorem yv {ops:Array Oper}(h:nH ops=true){i:Nat}{o:Oper}(hi:ops[i]?=some o):∀ c,o.op ≠ .defer c:=by
 intro c hc;unfold nH at h;rw[List.all_eq_true] at h;have hm:o∈ops.toList:=by
  rw[Array.getElem?_eq_some_iff] at hi;obtain ⟨hlt,rfl⟩:=hi;simp
 have:=h o hm;rw[hc] at this;exact absurd this (by simp)
section
variable {P:Program}{ops:Array Oper}{ro:Option Nat}{ds:List Deferred}{Q Q0:Exit→Act→World→Prop}
theorem xQ {o:Oper}{b:Act}{w:World}{K0 K:Act→World→Prop}(hno:∀ c,o.op ≠ .defer c)(hQ0:∀ e b w,Q0 e b w→e = .normal)(hK:∀ b' w',K0 b' w'→K (ext ds b') w')
  (h1:o.wp P b w K0 Q0):o.wpIn (wf ro) 0 P (ext ds b) w K Q:=by
 refine⟨fun _ _=>trivial,?_⟩;rw[Oper.semAt_eq _ _ _ hno,Dz];unfold Oper.wp at h1;generalize (execOp b.eval o).run P w=r at h1;cases r with
 | ok n w' =>
  cases n <;> simp only[Oper.upon] at h1 <;> first | exact h1.elim | skip
  ·have:=hK _ _ h1;rw[lI] at this;exact this
  ·have:=hK _ _ h1;rw[lI] at this;exact this
  ·refine⟨fun h=>(by cases h),(CallsIn.more (n:=0) ((callsIn_wide (n:=0)).2 (Calls.mono h1 (fun e w'' he=>?_))) (zf1 _))⟩;cases e with
   | returned v =>
    have:=hK _ _ he;rw[lI] at this;exact this
   | panicked c=>exact absurd (hQ0 _ _ _ he) (by simp)
   | outgrown =>
    obtain ⟨_,_,h2⟩:=he;exact absurd (hQ0 _ _ _ h2) (by simp)
  ·have:=hK _ _ h1;rw[lI] at this;exact this
  ·exact⟨fun h=>(by cases h),fun c cs _=>let ⟨v,w'',r,st⟩:=h1 c cs; ⟨v,w'',(by have:=hK _ _ r; rw[lI] at this; exact this),stepsIn_wide.2 st⟩⟩
 | halt x w' =>
  cases x <;> simp only[Oper.upon] at h1 <;> first | exact h1.elim | exact absurd (hQ0 _ _ _ h1) (by simp)
theorem pM {i:Nat}{b:Act}{w:World}{K0 K:Act→World→Prop}(hnd:nH ops=true)(hQ0:∀ e b w,Q0 e b w→e = .normal)(hK:∀ b' w',K0 b' w'→K (ext ds b') w')
  (h1:wpOp P ops Q0 i K0 b w):wpOpIn (wf ro) 0 P ops Q i K (ext ds b) w:=by
 unfold wpOp at h1;unfold wpOpIn;cases hi:ops[i]? with
 | none =>
  rw[hi] at h1;exact hK _ _ h1
 | some o =>
  rw[hi] at h1;dsimp only at h1 ⊢;have ht:(ext ds b).tmps=b.tmps:=rfl;rw[ht];split at h1
  ·rename_i hw;rw[zf5 hw]
   rcases h1 with h1 | ⟨_,a',w',h2⟩
   ·exact xQ (yv hnd hi) hQ0 hK h1
   ·exact absurd (hQ0 _ _ _ h2) (by simp)
  ·rename_i hw;rw[zf4 hw];refine⟨fun _ _=>trivial,?_⟩;have:=hK _ _ h1;rw[lI] at this;exact this
theorem jk (hnd:nH ops=true)(hQ0:∀ e b w,Q0 e b w→e = .normal∧Q .normal (ext ds b) w):∀ (fuel:Nat) (L:Array Bool) (b:Act) (w:World),wpAny P .any ops Q0 fuel L b w→wpAnyIn (wf ro) 0 P .any ops Q fuel L (ext ds b) w
 | 0,_,_,_,h=>⟨h.1,(hQ0 _ _ _ h.2).2⟩
 | fuel+1,L,b,w,h=>⟨fun hr=>(hQ0 _ _ _ (h.1 hr)).2,fun i hi=>pM hnd (fun e b w h=>(hQ0 e b w h).1) (fun b' w' hb=>jk hnd hQ0 fuel _ b' w' hb) (h.2 i hi)⟩
end
section
variable {P:Program}{M:Md}{N:Nat}{E:World}{Q:Exit→Act→World→Prop}{f:Fr}{g:PH}{s:Own}{ops:Array Oper}
def Qx (ds:List Deferred)(Q:Exit→Act→World→Prop):Exit→Act→World→Prop:=fun e b w=>e = .normal∧Q .normal (ext ds b) w
instance (ds:List Deferred):Quiet (Qx ds Q):=⟨fun _ _ _ _ _ h=>absurd h.1 (by simp)⟩
theorem ST.ofXT (h:XT M N E Q .normal f g s):ST N E (Qx M.ds Q) .normal f g s:=fun a w ha hw=>⟨rfl,h _ _ ⟨by simp[ext,ha.defers],by
 have:jZ (ext M.ds a)=a:=by
  obtain ⟨t,d⟩:=a;have hd:d=[]:=ha.defers;subst hd;rfl
 rw[this]; exact ha⟩ hw⟩
theorem XC.draw {id:Nat}(tail:List Nat)(plan:List (Nat×Nat))(hm:P.follows .mixedOrders=true)(hok:pG ops tail plan=true)(hnd:nH ops=true)
  (h:SP P N E ops (Qx M.ds Q) g s tail plan f g s):XC P M N E (.region id ops true) Q f g s:=by
 intro a w ha hw;have hx:a=ext M.ds (jZ a):=by
  obtain ⟨t,d⟩:=a;have hd:d=M.ds:=ha.1;subst hd;simp[ext,jZ]
 unfold pG at hok;simp only[zi6,beq_iff_eq] at hok;rw[hx];refine wpIn_region_any hm (jk hnd (fun e b w h=>h) _ _ _ _ (ig _ _ _ _ (S:=At E g s) (tail:=tail) ?_));have:=h (Array.replicate ops.size false) (jZ a) { w with drawn:=w.drawn+1 } hok.1.1 (i5 _) hok.2 ha.2 (hw.drew _ (Nat.le_succ _)) (fun _=>hw.drew _ (Nat.le_succ _));rw[hok.1.2] at this;exact this
end
end Go.Sy
namespace Go.Proofs.YtcfkpajlakidbaaGreatDoor
open _root_.Go.Proofs.Tryz _root_.Go.Proofs.YtcfkpajlakidbaaGreatDoor.Tryz
open Go Go.Sy Go.Pl Go.Proofs
set_option maxRecDepth 100000
set_option maxHeartbeats 1000000
theorem BI {α β:Type}{l:List α}{k:Nat}(h:k<l.length)(p:α→Bool)(f:α→β):((l.take (k+1)).filter p).map f=((l.take k).filter p).map f++(if p l[k] then [f l[k]] else []):=by
 rw[tS h,zh1,zf9];congr 1;simp only[zi1,List.filter_nil];split <;> rfl
theorem Fb {α β:Type}(l:List α)(k:Nat)(p:α→Bool)(f:α→β):(((l.take k).filter p).map f).length≤k:=by
 rw[ze1];refine zj8 (zc2 _ _) ?_;rw[zd8]; omega
def uT:List Cl→Int→Int
 | [],m=>m
 | c::r,m=>uT r (max m c.dim)
def zw (l:List Cl):Int:=uT (ae l) (-1)
theorem oX (c:Cl):∀ (l:List Cl) (m:Int),uT (l++[c]) m=max (uT l m) c.dim
 | [],_=>rfl
 | _::r,_=>oX c r _
theorem SU.maxI {P:Program}{N:Nat}{f:Fr}{dst:Option Tmp}{ty:TypeId}{pos:String}{af:Array Edge}{gd:Option (Nat×Bool)}{x y:Operand}{T U:TypeId}{m n:Int}(hx:ev f x=some (vi m))(hy:ev f y=some (vi n)) :
  SU P N ⟨dst,.call ⟨.builtin .max,#[x,y],#[T,U]⟩,ty,pos,af,gd⟩ f (vi (max m n)):=fun a w ha=>by
 have h:=run_max_int2 (P:=P) (w:=w) #[T,U] ty .i64 .i64 m n;have h2:(if m<n then n else m)=max m n:=by split <;> omega
 rw[h2] at h;simp[execOp,resolve,invoke,builtin,ha.ev hx,ha.ev hy,h]
end Go.Proofs.YtcfkpajlakidbaaGreatDoor
namespace Go.Sy
open Go
section
variable {α:Type}{k:Nat}{P:Program}{N:Nat}{E:World}{f:Fr}{g:PH}{s:Own}{dst:Option Tmp}{ty:TypeId}{pos:String}{af:Array Edge}{gd:Option (Nat×Bool)}
theorem SO.makeC {x y:Operand}{t T:TypeId}{bytes n:Nat}{z:Value}(e:Enc α k)(hT:STy P t T k bytes z)(hx:ev f x=some (vi 0))(hy:ev f y=some (vi n))(hb:n * bytes≤140737488355328)(hlen:n≤4611686018427387904) :
  SO P N E ⟨dst,.makeSlice t x y,ty,pos,af,gd⟩ f g s fun v' g' s'=>g=g'∧s'=rowA e T v' []::s :=
 SO.of_run fun ac w ha hw=>by
  obtain ⟨ti,ht1,ht2,ht3,ht4⟩:=hT.info;have hbi:(ti.bytes:Int) * ((n:Nat):Int)≤281474976710656:=by
   rw[ht4,← Int.natCast_mul,Nat.mul_comm]; omega
  have h5:=run_make (P:=P) w t T ti z hT.und ht1 ht2 .i64 .i64 0 n oM oM hbi oM;simp only[Int.toNat_natCast] at h5;rw[ht3] at h5;have hrun:(execOp ac.eval ⟨dst,.makeSlice t x y,ty,pos,af,gd⟩).run P w = .ok (.value (.slice (some ⟨w.heap.size,0,none⟩) 0 n)) (w.alloc (.cells (madeCells z.cells (n * k)) T)):=by
   simp[execOp,ha.ev hx,ha.ev hy,h5]
  have hnew:(w.alloc (.cells (madeCells z.cells (n * k)) T)).heap[w.heap.size]?=some (.cells (madeCells z.cells (n * k)) T (0,0)):=heap_alloc_new w _;refine⟨_,_,g,_,hrun,?_,I,I⟩;cases n with
  | zero =>
   have h6:=hw.emptyRow T k (some ⟨w.heap.size,0,none⟩);have h7:=h6.alloc (e:=pt w.heap.size (.cells (madeCells z.cells (0 * k)) T (0,0))) (o:=.cells (madeCells z.cells (0 * k)) T (0,0)) rfl rfl;exact h7.sublist (zi4 _ _)
  | succ n =>
   have hsz:(madeCells z.cells ((n+1) * k)).size=(n+1) * k:=by simp[madeCells]
   exact hw.alloc (e:=rowA e T (.slice (some ⟨w.heap.size,0,none⟩) 0 (n+1)) []) (o:=.cells (madeCells z.cells ((n+1) * k)) T (0,0)) I ⟨by simp,.inr ⟨_,n,_,I,I,by simp,by unfold maxLen; omega,hsz,by simp⟩⟩
def xP:Enc Int 1:=⟨fun n=>[.int .u8 n],fun _=>rfl,fun _ u hu=>by simp at hu; subst hu; rfl,by decide⟩
def fE:Enc Int 1:=⟨fun n=>[.int .u64 n],fun _=>rfl,fun _ u hu=>by simp at hu; subst hu; rfl,by decide⟩
def byt (l:List Int):List UInt8:=l.map fun n=>UInt8.ofNat n.toNat
def txt (l:List UInt8):Value:=.string ⟨l.toArray⟩
theorem BB (l:List Int):∀ s:ByteArray,l.foldl (fun r n=>r.push (UInt8.ofNat n.toNat)) s=⟨s.data++(byt l).toArray⟩:=by
 induction l with
 | nil=>intro s; simp[byt]
 | cons a t ih =>
  intro s;simp only[zi2];rw[ih];simp[byt,ByteArray.push]
theorem yT (l:List Int):l.flatMap xP.enc=l.map (Value.int .u8):=by
 induction l with
 | nil=>rfl
 | cons a t ih=>simp only[zg9,zf8,ih]; rfl
theorem SQ.bytesText {x:Operand}{S D e:TypeId}{p:Option Addr}{c:Nat}{l:List Int}(hs:P.underlying S=some (.slice e))(he:P.underlying e=some (.int .u8))(hd:P.underlying D=some .string)
  (hx:ev f x=some (.slice p l.length c)) (hr:Rd g s (.slice p l.length c) (l.flatMap xP.enc)) :
  SQ P N E ⟨dst,.convert S D x,ty,pos,af,gd⟩ f g s (txt (byt l)):=fun a w ha hw=>by
 have h1:(convert S D (.slice p l.length c)).run P w = .ok (txt (byt l)) w:=by
  rw[run_convert_bytes_string w S D e p l.length c hs he hd];rw[yT] at hr;cases l with
  | nil =>
   cases p with
   | none=>simp[Conv.bytesToString,txt,byt]; rfl
   | some a =>
    have h2:=run_bytesToString (P:=P) w a 0 c [] (by simp[loadCells]; exact cu (P:=P) (w:=w) (b:=a.block) (o:=a.off) 0 0 [] #[] I (fun j y hy=>by simp at hy));rw[zc1,h2];rfl
  | cons n t =>
   obtain ⟨q,n',c',he1,hsp,hc0⟩:=hr E w hw 0 (.int .u8 n) rfl;injection he1 with he1 he2 he3
   subst he1;obtain ⟨qb,qo,qs⟩:=q;dsimp only at hsp;subst hsp;have h2:=run_bytesToString (P:=P) w ⟨qb,qo,none⟩ (n::t).length c (n::t) (by
    have:=cu (P:=P) (w:=w) (b:=qb) (o:=qo) (n::t).length 0 ((n::t).map (Value.int .u8)) #[] (by simp) (fun j y hy=>by
     obtain ⟨q',n2,c2,he4,_,hc1⟩:=hr E w hw j y hy;injection he4 with he4
     injection he4 with he4
     subst he4;simpa using hc1)
    simpa [loadCells] using this)
   rw[h2,BB];simp[txt]
 simp[execOp,ha.ev hx,h1]
theorem wA (l:List UInt8):(⟨l.toArray⟩:ByteArray).toList=l:=by rw[ByteArray.toList_eq]
theorem SU.neqT {x y:Operand}{T U:TypeId}{l m:List UInt8}(hx:ev f x=some (txt l))(hy:ev f y=some (txt m)) :
  SU P N ⟨dst,.binOp .neq T x y U,ty,pos,af,gd⟩ f (.bool (decide (l≠m))):=fun ac w ha=>by
 have hg:(eqGuard .neq T x y (txt l) (txt m)).run P w = .ok () w:=by simp[eqGuard,txt]
 have hb:(binOp .neq T (txt l) (txt m)).run P w = .ok (.bool (decide (l≠m))) w:=by
  unfold txt;rw[binOp_string_neq,wA,wA];by_cases h:l=m <;> simp[h,bne] <;> rfl
 simp only[execOp,ha.ev hx,ha.ev hy,Sem.run_bind,hg,zc7,hb];rfl
end
end Go.Sy
namespace Go.Sy
open Go
section
variable {P:Program}{N:Nat}{f:Fr}{dst:Option Tmp}{ty:TypeId}{pos:String}{af:Array Edge}{gd:Option (Nat×Bool)}
theorem SU.or {x y:Operand}{T U:TypeId}{k:IntKind}{m n:Int}(hx:ev f x=some (.int k m))(hy:ev f y=some (.int k n)) :
  SU P N ⟨dst,.binOp .or T x y U,ty,pos,af,gd⟩ f (.int k (k.wrap (BitVec.ofInt k.bits m ||| BitVec.ofInt k.bits n).toNat)):=fun a w ha=>by
 simp only[execOp,ha.ev hx,ha.ev hy,eqGuard,binOp,ne_eq,not_true_eq_false,if_false,Op.intBits]; rfl
theorem SU.txtAt {x y:Operand}{T:TypeId}{l:List UInt8}{i:Int}{b:UInt8}(hT:P.underlying T=some .string)(hx:ev f x=some (txt l))(hy:ev f y=some (vi i))(h0:0≤i)(hb:l[i.toNat]?=some b) :
  SU P N ⟨dst,.index T x y,ty,pos,af,gd⟩ f (.int .u8 b.toNat):=fun a w ha=>by
 have h1:(⟨l.toArray⟩:ByteArray)[i.toNat]?=some b:=by
  obtain ⟨hlt,he⟩:=ze9.1 hb;rw[getElem?_pos _ _ (by simpa [ByteArray.size] using hlt)];exact zd6 some he
 simp only[execOp,ha.ev hx,ha.ev hy,Instr.index,Sem.run_bind,asIntOf,Sem.run_pure,zc7,run_underlying hT,txt,zf5 h0,h1]
theorem SU.lenTxt {x:Operand}{T:TypeId}{l:List UInt8}(hT:P.underlying T=some .string)(hx:ev f x=some (txt l)) :
  SU P N ⟨dst,.call ⟨.builtin .len,#[x],#[T]⟩,ty,pos,af,gd⟩ f (vi l.length):=fun a w ha=>by
 have hs:(⟨l.toArray⟩:ByteArray).size=l.length:=List.size_toArray;have h1:=ha.ev hx;unfold txt at h1;simp[execOp,resolve,invoke,builtin,h1,Builtin.len_,run_underlying hT,goInt,hs]
end
end Go.Sy
namespace Go.Proofs.YtcfkpajlakidbaaGreatDoor
open _root_.Go.Proofs.Tryz _root_.Go.Proofs.YtcfkpajlakidbaaGreatDoor.Tryz
open Go Go.Sy Go.Pl Go.Proofs Go.Shelf
set_option maxRecDepth 100000
set_option maxHeartbeats 1000000
theorem FD {f:Fr}{t:Nat}{a b:Int}(h:bq f t=some (vi a))(e:a=b):bq f t=some (vi b):=e ▸ h
theorem Tryz.sty142:STy Tryz.prog 142 140 1 8 (.int .u64 0):=⟨underlying142,⟨t140,by kernel_rfl,by kernel_rfl,by kernel_rfl,by kernel_rfl⟩,rfl,by decide⟩
theorem Tryz.sty183:STy Tryz.prog 183 5 1 1 (.int .u8 0):=⟨underlying183,⟨t5,by kernel_rfl,by kernel_rfl,by kernel_rfl,by kernel_rfl⟩,rfl,by decide⟩
def dL (l:List Int):List Int:=(l.reverse.dropWhile (· == 0)).reverse
theorem xU {m:List Int}(h:0<m.length)(h0:m.getD (m.length - 1) 1=0):dL (m.take (m.length - 1))=dL m:=by
 rcases List.eq_nil_or_concat m with rfl | ⟨a,x,rfl⟩
 ·simp at h
 ·have hx:x=0:=by simpa [zg5] using h0
  subst hx;simp[dL]
theorem xS {m:List Int}(h:(decide ((m.length:Int)>0)&&decide (m.getD (m.length - 1) 1=0))=false):dL m=m:=by
 rcases List.eq_nil_or_concat m with rfl | ⟨a,x,rfl⟩
 ·rfl
 ·have hx:x≠0:=by simpa [zg5] using h
  simp[dL,hx]
theorem jt (E:World)(g:PH)(s:Own)(v:Value)(l:List Int)(hv:SlA fE g v l)(hl:l.length<1099511627776) :
  Ctr Tryz.prog E 132 #[v] g s (fun r g' s'=>g=g'∧s=s'∧SlA fE g r (dL l)):=by
 refine za9 (args:=[v]) func132 I ntmps132 (bE I) ?_;refine rZ (aT I (sQ (bK ?_)));refine oP (ι:=Value×List Int) (fun i=>[(0,i.1)]) (fun _=>g) (fun _=>s) (fun i=>SlA fE g i.1 i.2∧dL i.2=dL l∧i.2.length≤l.length) (fun i=>i.2.length) (v,l) ⟨I,trivial⟩ I I ⟨hv,I,lR _⟩ ?_;rintro ⟨v1,m⟩ ⟨hm,htr,hle⟩;dsimp only at hm htr hle ⊢;obtain ⟨p,c,rfl⟩:=za2 hm;have hcap:=(SlA.cap hm).2;have f1:(m.length:Int)>0→(decide ((m.length:Int)>0)&&decide (m.getD (m.length - 1) 1=0))=decide (m.getD (m.length - 1) 1=0):=fun h=>by rw[zf3 h,Bool.true_and]
 have f2:¬ (m.length:Int)>0→(decide ((m.length:Int)>0)&&decide (m.getD (m.length - 1) 1=0))=false:=fun h=>by simp only[h,decide_false,Bool.false_and]
 have hgl:(m.length:Int)>0→m[((m.length:Int) - 1).toNat]?=some (m.getD (m.length - 1) 1):=fun h=>by
  have h1:((m.length:Int) - 1).toNat=m.length - 1:=oM;have h2:m.length - 1<m.length:=oM;rw[h1,zg5,gE h2]; rfl
 have hbs:(m.length:Int)>0→based (.slice p m.length c)=true:=fun h=>za4 hm oM;refine sQ ?_;refine SC.cutB 14 ((decide ((m.length:Int)>0)&&decide (m.getD (m.length - 1) 1=0))) ?_ ?_
 ·refine rG (lM I (lU (eN aV I) (lU (gR I I) (lM I ?_))));refine sP ?_ ?_
  ·intro h6;refine yC I (yC I (lY I I I (eN aV I) (lY I I I (sU I I oM) (lY I I I (iA aV di I I (hbs h6) oM sL) (SL.gq (gT I I I dC) (eB jh I (za5 hm) (hgl h6) I) dC (lY I I I (eQ I I) (yP I (nL ?_))))))));exact za8 (by (rw[f1 h6]; rfl)) mI
  ·intro h6;refine yA I (yA I (yA I (yA I (yA I (yA I (yA I (yF I (nL ?_))))))));exact za8 (by (rw[f2 h6]; rfl)) mI
 refine iQ I (fun hc=>?_) (fun hc=>?_)
 ·rw[zi6,zi8,zi8] at hc;obtain ⟨hpos,hlast⟩:=hc;have h1:((m.length:Int) - 1).toNat=m.length - 1:=oM;refine kP (tN (bK (rG (lM I (lM I (lU (eN aV I) (lU (sU I I oM) (lU (SU.sliceH aV di I I oM oM) (lA I (nL (bN ?_)))))))))));refine ST.again (sliced p 0 ((m.length:Int) - 1).toNat c 1,m.take (m.length - 1)) ⟨I,trivial⟩ I I ⟨?_,?_,?_⟩ (by dsimp only; rw[zd8]; omega)
  ·have:=SlA.cut hm (l:=0) (m:=m.length - 1) (zf1 _) oM;dsimp only;rw[h1];simpa using this
  ·dsimp only; rw[xU oM hlast]; exact htr
  ·dsimp only; rw[zd8]; omega
 ·refine xI (tX (tX (bX (tN (sW I (aT I (rE ?_)))))));exact za6 (.inl I) results132 I ⟨I,I,by rw[← htr,xS hc]; exact hm⟩
theorem sI (E:World)(g:PH)(s:Own)(v:Value)(hv:v.cells = #[v]) :
  Ctr Tryz.prog E 133 #[v] g s (fun r g' s'=>s=s'∧Le g g'∧∃ b,r = .func (.func 158) #[] #[pp b 0]∧g' b=some (.cells #[v] 142 (0,0))):=by
 refine za9 (args:=[v]) func133 I ntmps133 (bE I) ?_;refine rZ (bW (bO I) fun b1=>?_);refine aT I (rZ (lU (SU.mkFunc I) (aT I (rE ?_))));rw[hv];refine ST.freeze fun g1 hle hb=>?_;exact za6 (.inl I) results133 I ⟨I,hle,_,I,hb⟩
def sX (l:List Int):List (Nat×Int):=(l.zipIdx.map fun p=>(p.2,p.1)).reverse
theorem oN (l:List Int):(sX l).length=l.length:=by simp[sX]
theorem C2 {l:List Int}{k:Nat}(h:k<l.length):(sX l)[l.length - 1 - k]?=some (k,l[k]):=by
 unfold sX;rw[List.getElem?_reverse (by simp; omega)];simp only[ze1,List.length_zipIdx];rw[show l.length - 1 - (l.length - 1 - k)=k by omega];simp[h]
theorem pW (E:World)(g0:PH)(b:Nat)(v:Value)(l:List Int)(hb:g0 b=some (.cells #[v] 142 (0,0)))(hv:SlA fE g0 v l)(hl:l.length<1099511627776) :
  Cr Tryz.prog E 158 [pp b 0] (fun x:Nat×Int=>[vi x.1,.int .u64 x.2]) (sX l) g0:=by
 intro k ι G S J i0 h0 hmono hY sx;obtain ⟨p,c,rfl⟩:=za2 hv;refine Ctr.ofX (args:=[.func (.yield k) #[] #[],pp b 0]) func158 I ntmps158 (bE I) ?_;refine XC.seq ?_;refine XC.region ?_;refine XL.q (qL (v:=.slice p l.length c) isAgg142 I (cK (hmono _ _ h0 _ _ hb) I)) dC ?_;refine XL.u (eN aV I) dC ?_;refine XL.u (sU I I oM) dC ?_;refine XL.u (aS I) dC ?_;refine XL.nil ?_;refine XT.thenN ?_;refine XC.block ?_;refine XC.loop (ι:=ι×Nat) (fun i=>[(0,.func (.yield k) #[] #[]),(1,pp b 0),(3,vi ((i.2:Int) - 1))]) (fun i=>G i.1) (fun i=>S i.1++sx) (fun i=>i.2≤l.length∧J ((sX l).take (l.length - i.2)) i.1) (fun i=>i.2) (i0,l.length)
  sB rfl rfl ⟨lR _,by simpa using h0⟩ ?_
 rintro ⟨j,n⟩ ⟨hn,hJ⟩;dsimp only at hn hJ ⊢;have hle:=hmono _ _ hJ;refine XC.seq ?_;refine XC.seq ?_;refine XC.region ?_;refine XL.u (mV I) dC ?_;refine XL.u (gQ I I) dC ?_;refine XL.nil ?_;refine XT.thenN ?_;refine XC.ifP I (fun hge=>?_) (fun hge=>?_)
 ·have hn1:n - 1<l.length:=oM;have hv':=za3 hv hle;have hb1:=za4 hv' oM;have hgx:l[((n:Int) - 1).toNat]?=some l[n - 1]:=by rw[show ((n:Int) - 1).toNat=n - 1 by omega]; exact gE hn1
  have hrg:=C2 hn1;rw[show l.length - 1 - (n - 1)=l.length - n by omega] at hrg;have hsp:sX l=(sX l).take (l.length - n)++(n - 1,l[n - 1])::(sX l).drop (l.length - n+1):=by
   obtain ⟨h1,h2⟩:=ze9.1 hrg;rw[← h2,List.getElem_cons_drop,zi5]
  have hy:=hY _ _ _ j sx hsp hJ;have htk:(sX l).take (l.length - (n - 1))=(sX l).take (l.length - n)++[(n - 1,l[n - 1])]:=by
   obtain ⟨h1,h2⟩:=ze9.1 hrg;rw[show l.length - (n - 1)=l.length - n+1 by omega,tS h1,h2]
  generalize l[n - 1]=x at *;have hvn:vi ((n - 1:Nat):Int)=vi ((n:Int) - 1):=zd6 vi oM;dsimp only at hy;rw[hvn] at hy;refine XC.skip ?_;refine XT.thenN ?_;refine XC.seq ?_;refine XC.block ?_;refine XC.seq ?_;refine XC.region ?_;refine XL.u (mV I) dC ?_;refine XL.u (mV I) dC ?_;refine XL.q (qL (v:=.slice p l.length c) isAgg142 I (cK (hle _ _ hb) I)) dC ?_;refine XL.u (mV I) dC ?_;refine XL.u (iA aV di I I hb1 oM sL) dC ?_;refine XL.q (eB jh I (za5 hv') hgx I) dC ?_;refine XL.x (XO.yield I I hy) dC ?_;rintro _ _ _ ⟨rfl,j',hJ',rfl,rfl⟩;refine XL.u (SU.not I) dC ?_;refine XL.nil ?_;refine XT.thenN ?_;refine XC.condF I ?_;refine XC.skip ?_;refine XT.blockN ?_;refine XT.thenN ?_;refine XC.region ?_;refine XL.u (mV I) dC ?_;refine XL.u (sU I I oM) dC ?_;refine XL.u (aS I) dC ?_;refine XL.nil ?_;exact XT.again (j',n - 1) ⟨I,I,FD I oM,trivial⟩ I I ⟨by dsimp only; omega,by dsimp only; rw[htk]; exact hJ'⟩ (by dsimp only; omega)
 ·have hn0:n=0:=oM;subst hn0;refine XC.exit ?_;refine XT.thenX ?_;refine XT.thenX ?_;refine XT.blockX ?_;exact XT.leave0 (.inr I) (ST.ret0 (.inr I) results158 ⟨j,by have:=hJ; rwa [tL (by rw[oN]; omega)] at this,I,I⟩)
def vW:Ren :=
 {
  f:=fun x =>
   match x with
   | 161=>134
   | 231=>159
   | 227=>160
   | 233=>161
   | 235=>162
   | 228=>193
   | 197=>194
   | 151=>195
   | 260=>209
   | 152=>210
   | 137=>223
   | 119=>224
   | 224=>225
   | 225=>226
   | 217=>228
   | 266=>229
   | n=>n,
  t:=fun x =>
   match x with
   | 9=>9
   | 4=>4
   | 3=>3
   | 5=>5
   | 117=>210
   | 116=>209
   | 0=>0
   | 124=>213
   | 105=>236
   | 21=>21
   | 119=>264
   | 46=>132
   | 139=>267
   | 138=>266
   | n=>n,
  g:=fun x =>
   match x with
   | 3=>0
   | 4=>1
   | n=>n }
theorem Tryz.lays161:Lays.n161 Tryz.prog vW :=
  {
  mixed:=Eq.refl true,f119:=zb6 func224 (zd6 some kR),
  f137:=zb6 func223 (zd6 some kR),
  f151:=zb6 func195 (zd6 some kR),
  f152:=zb6 func210 (zd6 some kR),
  f161:=zb6 func134 (zd6 some kR),
  f197:=zb6 func194 (zd6 some kR),
  f217:=zb6 func228 (zd6 some kR),
  f224:=zb6 func225 (zd6 some kR),
  f225:=zb6 func226 (zd6 some kR),
  f227:=zb6 func160 (zd6 some kR),
  f228:=zb6 func193 (zd6 some kR),
  f231:=zb6 func159 (zd6 some kR),
  f233:=zb6 func161 (zd6 some kR),
  f235:=zb6 func162 (zd6 some kR),
  f260:=zb6 func209 (zd6 some kR),
  f266:=zb6 func229 (zd6 some kR),t0:=underlying0,
  a0:=isAgg0,z0:=sizeOf0,v0:=zeroValue0,t3:=uT3,a3:=iT3,
  z3:=zT3,v3:=zk6,t4:=uT4,a4:=iT4,z4:=zT4,
  v4:=zeroValue4,t5:=uT5,a5:=isAgg5,z5:=sizeOf5,v5:=zeroValue5,
  t9:=uT9,a9:=isAgg9,z9:=sizeOf9,v9:=zeroValue9,t21:=underlying21,
  a21:=isAgg21,z21:=sizeOf21,v21:=zeroValue21,t46:=jy,a46:=isAgg132,
  z46:=sizeOf132,v46:=zeroValue132,t105:=underlying236,a105:=isAgg236,
  z105:=sizeOf236,v105:=zeroValue236,t116:=underlying209,a116:=isAgg209,
  z116:=sizeOf209,t117:=underlying210,a117:=isAgg210,z117:=sizeOf210,
  v117:=zeroValue210,t119:=underlying264,a119:=isAgg264,z119:=sizeOf264,
  t124:=underlying213,a124:=isAgg213,z124:=sizeOf213,v124:=zeroValue213,
  t138:=underlying266,a138:=isAgg266,z138:=sizeOf266,v138:=zeroValue266,
  t139:=underlying267,a139:=isAgg267,z139:=sizeOf267,v139:=zeroValue267,
  g3:=kR,g4:=kR }
def mN (l:List UInt8):List UInt8:=l.dropWhile (· == 0)
theorem sk (E:World)(g:PH)(s:Own)(l:List UInt8) :
  Ctr Tryz.prog E 134 #[txt l,txt [0]] g s (fun r g' s'=>r=txt (mN l)∧g=g'∧s=s'):=by
 intro w hw;refine (Any.strings_TrimLeft_one lays161 ⟨l.toArray⟩ 0 dC w).mono ?_;rintro e w' ⟨rfl,rfl⟩;exact⟨_,g,s,I,hw,I,I,I⟩
def by4 (x:Int):List Int:=[IntKind.u8.wrap (x.fdiv (2 ^ min (24:Int).toNat IntKind.u64.bits)),IntKind.u8.wrap (x.fdiv (2 ^ min (16:Int).toNat IntKind.u64.bits)),IntKind.u8.wrap (x.fdiv (2 ^ min (8:Int).toNat IntKind.u64.bits)),IntKind.u8.wrap x]
def byP (x:Nat×Int):List Int:=by4 x.2
theorem y4 (l:List (Nat×Int)):(l.flatMap byP).length=4 * l.length:=by
 induction l with
 | nil=>rfl
 | cons a t ih=>simp only[zg9,zd9,ih,ze3,byP,by4,zc1]; omega
theorem CG (l:List Int):(dL l).length≤l.length:=by
 unfold dL;rw[List.length_reverse];have:=(List.dropWhile_sublist (l:=l.reverse) (· == 0)).length_le;simpa using this
def gn (l:List Int):List UInt8:=mN (byt ((sX (dL l)).flatMap byP))
def r6 (neg:Bool)(bs:List UInt8):Value:=.agg #[vb (neg&&decide (bs≠[])),txt bs]
theorem Tryz.build84 (a:Bool)(l:List UInt8)(w:World):(Instr.build 84 #[(0,vb a),(1,txt l)]).run Tryz.prog w = .ok (.agg #[vb a,txt l]) w:=by
 have h1:(vb a).cells = #[vb a]:=rfl;have h2:(txt l).cells = #[txt l]:=rfl;simp[Instr.build,Instr.fill,h1,h2];rfl
theorem ft (E:World)(g:PH)(s:Own)(v:Value)(l:List Int)(neg:Bool)(hv:SlA fE g v l)(hl:l.length<1099511627776) :
  Ctr Tryz.prog E 90 #[v,vb neg] g s (fun r g' s'=>r=r6 neg (gn l)∧s=s'∧Le g g'):=by
 have htl:=CG l;refine Ctr.ofX (args:=[v,vb neg]) func90 I ntmps90 (bE I) ?_;refine XC.seq ?_;refine XC.region ?_;refine XL.o (aL zk3) dC ?_;rintro _ _ _ ⟨b4,rfl,rfl,rfl⟩;refine XL.nil ?_;refine XT.thenN ?_;refine XC.seq ?_;refine XC.region ?_;refine XL.u (mV I) dC ?_;refine XL.o (cL call132 I (jt E g _ v l hv hl)) dC ?_;rintro v10 _ _ ⟨rfl,rfl,hm⟩;obtain ⟨q,d,rfl⟩:=za2 hm;refine XL.u (aS I) dC ?_;refine XL.nil ?_;refine XT.thenN ?_;refine XC.seq ?_;refine XC.region ?_;refine XL.u (mV I) dC ?_;refine XL.u (eN aV I) dC ?_;refine XL.u (SU.eq (v':=vi ((4 * (dL l).length:Nat))) (SU.mul I I oM) (zd6 vi oM)) dC ?_;refine XL.o (SO.makeC xP sty183 I I oM oM) dC ?_;rintro v14 _ _ ⟨rfl,rfl⟩;refine XL.facts fun ⟨w0,hw0⟩=>?_;obtain ⟨p14,c14,rfl⟩:=ag (i:=0) hw0 rfl;clear hw0 w0;refine XL.o (aL zeroValue183) dC ?_;rintro _ _ _ ⟨b5,rfl,rfl,rfl⟩;refine XL.on (sK 0 sizeOf183 I I I I I sB) ?_;rintro _ _ _ ⟨rfl,rfl⟩;refine XL.nil ?_;refine XT.thenN ?_;refine XC.seq ?_;refine XC.seq ?_;refine XC.region ?_;refine XL.u (mV I) dC ?_;refine XL.o (cL call133 I (sI E _ _ _ I)) dC ?_;rintro _ g1 _ ⟨rfl,hle,bb,rfl,hbb⟩;refine XL.nil ?_;refine XT.thenN ?_;refine XC.block ?_;refine XC.to (g':=g1) (s':=rowA xP 5 (.slice p14 0 c14) []::pt b5 (.cells #[.slice p14 0 c14] 183 (0,0))::pt b4 (.cells #[vb false,txt []] 84 (0,0))::s) (fun w hw=>hw.perm (zj2 _ _ _)) ?_;refine XC.rangeFunc (α:=Nat×Int) (ι:=Value×List Int) (encs:=fun x=>[vi x.1,.int .u64 x.2]) (xs:=sX (dL l)) (g0:=g1) (fun _=>g1) (fun i=>rowA xP 5 i.1 i.2::pt b5 (.cells #[i.1] 183 (0,0))::pt b4 (.cells #[vb false,txt []] 84 (0,0))::[]) (fun pre i=>i.2=pre.flatMap byP) (.slice p14 0 c14,[]) s
  (fun x=>[(18,.int .u64 x.2),(17,vi x.1),(5,pp b5 0)]) (fun _ x _=>[(7,.int .u64 x.2),(5,pp b5 0)]) rfl rfl call158 (fun _=>rfl) rfl rfl (pW E g1 bb _ _ hbb (za3 hm hle) oM) (fun _ _ _=>zb7 _) rfl
  (fun x a h=>z7 (h.sub (g:=[(5,pp b5 0)]) ⟨rfl,trivial⟩) dC dC) ?_ ?_ ?_
 ·intro k pre x i sx hJ;refine XC.region ?_;refine XL.u (aS I) dC ?_;refine XL.nil ?_;exact XT.assignEnd sB
 ·rintro k pre ⟨xi,x⟩ suf ⟨bv,bs⟩ sx hxs hJ;dsimp only at hJ ⊢;have hpl:pre.length<(dL l).length:=by
   have:=zd6 List.length hxs;rw[oN,zd9,ze3] at this;omega
  have hbl:bs.length=4 * pre.length:=by rw[hJ,y4]
  refine XC.facts fun ⟨w0,hw0⟩=>?_;obtain ⟨q2,d2,rfl⟩:=ag (i:=0) hw0 rfl;clear hw0 w0;refine XC.block ?_;refine XC.region ?_;refine XL.q (qL (v:=.slice q2 bs.length d2) isAgg183 I (cO 1 I I)) dC ?_;refine XL.u (mV I) dC ?_;refine XL.u (SU.shr I I dC) dC ?_;refine XL.u (zd4 px uT5 I) dC ?_;refine XL.u (mV I) dC ?_;refine XL.u (SU.shr I I dC) dC ?_;refine XL.u (zd4 px uT5 I) dC ?_;refine XL.u (mV I) dC ?_;refine XL.u (SU.shr I I dC) dC ?_;refine XL.u (zd4 px uT5 I) dC ?_;refine XL.u (mV I) dC ?_;refine XL.u (zd4 px uT5 I) dC ?_;refine XL.o (bS sty183 I I I (ab sB) dC) dC ?_;rintro _ _ _ ⟨b31,rfl,rfl,rfl⟩;refine XL.to (fun w hw=>At.litRow (e:=xP) (l:=by4 x) (n:=3) hw I I dC) ?_;refine XL.o (SO.appendE (m:=4) 1 (bs++by4 x).length ((bs++by4 x).flatMap xP.enc) sty183 I I I I I (zb5 0 I) (xP.length (by4 x)) (xP.ones _) (by simp[by4]) (by simp) (by simp[by4]; omega) (by simp[by4]; omega)) dC ?_;rintro v32 _ _ ⟨rfl,rfl⟩;refine XL.facts fun ⟨w0,hw0⟩=>?_;obtain ⟨q3,d3,rfl⟩:=ag (e:=xP) (l:=bs++by4 x) (i:=1) hw0 rfl;clear hw0 w0;refine XL.on (sK 2 sizeOf183 I I I I I sB) ?_;rintro _ _ _ ⟨rfl,rfl⟩;refine XL.nil ?_;refine XT.blockN ?_;refine XT.drop (zi4 _ _) ?_;exact XT.roundEnd (.slice q3 (bs++by4 x).length d3,bs++by4 x) I I (by dsimp only; rw[List.flatMap_append,hJ]; simp[byP])
 ·rintro D ⟨bv,bs⟩ hJ;dsimp only at hJ ⊢;refine XT.facts fun ⟨w0,hw0⟩=>?_;obtain ⟨q2,d2,rfl⟩:=ag (i:=1) hw0 rfl;clear hw0 w0;refine XT.blockN ?_;refine XT.thenN ?_;refine XC.seq ?_;refine XC.region ?_;refine XL.q (qL (v:=.slice q2 bs.length d2) isAgg183 I (cO 2 I I)) dC ?_;refine XL.q (SQ.bytesText underlying183 uT5 uT9 I (zb5 1 I)) dC ?_;refine XL.o (cL call134 I (sk E g1 _ (byt bs))) dC ?_;rintro _ _ _ ⟨rfl,rfl,rfl⟩;refine XL.u (aS I) dC ?_;refine XL.nil ?_;refine XT.thenN ?_;have hbs:mN (byt bs)=gn l:=by unfold gn; rw[hJ]
  rw[hbs];generalize gn l=T at *;cases neg
  ·refine XC.seq ?_;refine XC.region ?_;refine XL.u (mV I) dC ?_;refine XL.u (mV I) dC ?_;refine XL.off (gZ I I I dC) dC ?_;refine XL.off (gZ I I I dC) dC ?_;refine XL.u (wF I I) dC ?_;refine XL.u (mV I) dC ?_;refine XL.u (za1 I (build84 _ _)) dC ?_;refine XL.on (sK 3 iI I I I I I sB) ?_;rintro _ _ _ ⟨rfl,rfl⟩;refine XL.nil ?_;refine XT.thenN ?_;refine XC.ret ?_;exact XT.leave1 (.inl I) (ST.retCD 2 s (.inl I) results90 I mZ iI I I (.cons _ (.cons _ (.cons _ (.refl _)))) ⟨I,I,hle⟩)
  ·refine XC.seq ?_;refine XC.region ?_;refine XL.u (mV I) dC ?_;refine XL.u (mV I) dC ?_;refine XL.gu (gT I I I dC) (mV I) dC ?_;refine XL.gu (gT I I I dC) (SU.neqT I I) dC ?_;refine XL.u (wT I I) dC ?_;refine XL.u (mV I) dC ?_;refine XL.u (za1 I (build84 _ _)) dC ?_;refine XL.on (sK 3 iI I I I I I sB) ?_;rintro _ _ _ ⟨rfl,rfl⟩;refine XL.nil ?_;refine XT.thenN ?_;refine XC.ret ?_;exact XT.leave1 (.inl I) (ST.retCD 2 s (.inl I) results90 I mZ iI I I (.cons _ (.cons _ (.cons _ (.refl _)))) ⟨I,I,hle⟩)
open Go Go.Sy Go.Pl Go.Proofs
theorem SU.negK {P:Program}{N:Nat}{f:Fr}{dst:Option Tmp}{ty:TypeId}{pos:String}{af:Array Edge}{gd:Option (Nat×Bool)}{x:Operand}{T:TypeId}{k:IntKind}{n:Int}(hx:ev f x=some (.int k n)):SU P N ⟨dst,.unOp .neg T x,ty,pos,af,gd⟩ f (.int k (k.wrap (0 - n))):=fun a w ha=>by
 simp only[execOp,ha.ev hx]; rfl
theorem xN (n:Int):IntKind.u64.wrap n=n % 18446744073709551616:=by simp[IntKind.wrap,IntKind.bits,IntKind.signed]
theorem pF (m:Nat)(h:m<18446744073709551616):IntKind.u64.wrap (BitVec.ofInt IntKind.u64.bits (m:Int) &&& BitVec.ofInt IntKind.u64.bits 4294967295).toNat=((m % 4294967296:Nat):Int):=by
 have h1:(BitVec.ofInt IntKind.u64.bits (m:Int) &&& BitVec.ofInt IntKind.u64.bits 4294967295).toNat=m % 4294967296:=by
  have hb:IntKind.u64.bits=64:=rfl;rw[hb,BitVec.toNat_and];have e1:(BitVec.ofInt 64 (m:Int)).toNat=m:=by
   rw[BitVec.toNat_ofInt];omega
  have e2:(BitVec.ofInt 64 4294967295).toNat=2 ^ 32 - 1:=by decide
  rw[e1,e2,Nat.and_two_pow_sub_one_eq_mod]
 rw[h1];exact IntWalk.u64_in _ oM
theorem Gn (m:Nat):((m:Nat):Int).fdiv (2 ^ min (32:Int).toNat IntKind.u64.bits)=((m / 4294967296:Nat):Int):=by
 have h1:((2:Int) ^ min (32:Int).toNat IntKind.u64.bits)=4294967296:=by decide
 rw[h1,Int.fdiv_eq_ediv_of_nonneg _ dC];omega
def uh (n:Int):List Int:=[((n.natAbs % 4294967296:Nat):Int),((n.natAbs / 4294967296:Nat):Int)]
theorem Ds (E:World)(g:PH)(s:Own)(n:Int)(h0 : -9223372036854775808≤n)(h1:n<9223372036854775808) :
  Ctr Tryz.prog E 39 #[vi n] g s (fun r g' s'=>r=r6 (decide (n<0)) (gn (uh n))∧s=s'∧Le g g'):=by
 refine za9 (args:=[vi n]) func39 I ntmps39 (bE I) ?_;refine rZ (bW (aL zk3) fun b2=>?_);refine tZ (sW I (lU (zd4 uT3 px I) (aT I ?_)));refine SC.cut (ι:=Unit) (fun _=>[(0,vi n),(2,pp b2 0),(3,.int .u64 (n.natAbs:Int))]) (fun _=>g) (fun _=>pt b2 (.cells #[vb false,txt []] 84 (0,0))::s) (fun _=>True) ?_ ?_
 ·refine sW I (yL I (tZ ?_));refine iP I (fun hn=>?_) (fun hn=>?_)
  ·have hw:IntKind.u64.wrap (0 - IntKind.u64.wrap n)=(n.natAbs:Int):=by
    rw[xN,xN]; omega
   refine rG (lM I (lU (SU.negK I) (lA I (nL ?_))));exact za7 () ⟨I,I,by rw[← hw]; rfl,trivial⟩ rfl rfl trivial
  ·have hw:IntKind.u64.wrap n=(n.natAbs:Int):=by
    rw[xN]; omega
   refine kP ?_;exact za7 () ⟨I,I,by rw[← hw]; rfl,trivial⟩ rfl rfl trivial
 rintro _ -;try dsimp only
 refine sW I (lU (SU.eq (v':=.int .u64 ((n.natAbs % 4294967296:Nat):Int)) (SU.and I I) (zd6 _ (pF _ oM))) (lM I (lU (SU.eq (v':=.int .u64 ((n.natAbs / 4294967296:Nat):Int)) (SU.shr I I dC) (zd6 _ (Gn _))) (lW (bS sty142 I I I (ab sB) dC) ?_))));rintro _ _ _ ⟨b14,rfl,rfl,rfl⟩;refine zb3 fun g1 hle1 hb=>?_;refine lM I (yL I (lW (cL call90 I (ft E g1 _ _ (uh n) _ (SlA.lit hb I I) (by simp[uh]))) ?_));rintro _ g2 _ ⟨rfl,rfl,hle2⟩;refine oZ (sK 0 iI I I I I I sB) ?_;refine tZ (rE ?_);exact ST.retCD 0 s (.inl I) results39 I mZ iI I I uR ⟨I,I,hle1.trans hle2⟩
theorem oV {a b:Nat}(h:a % 256=b % 256):UInt8.ofNat a=UInt8.ofNat b:=by
 apply UInt8.toNat.inj;simpa using h
theorem u8w (k:Nat):IntKind.u8.wrap (k:Int)=((k % 256:Nat):Int):=by simp[IntKind.wrap,IntKind.bits,IntKind.signed]
theorem De (k:Nat):UInt8.ofNat (IntKind.u8.wrap (k:Int)).toNat=UInt8.ofNat k:=by
 rw[u8w,Int.toNat_natCast]; exact oV oM
theorem nm (k e:Nat):(k:Int).fdiv ((e:Nat):Int)=((k / e:Nat):Int):=by
 rw[Int.fdiv_eq_ediv_of_nonneg _ oM]; simp
theorem AB (k:Nat):byt (by4 (k:Int))=[UInt8.ofNat (k / 16777216),UInt8.ofNat (k / 65536),UInt8.ofNat (k / 256),UInt8.ofNat k]:=by
 have h1:((2:Int) ^ min (24:Int).toNat IntKind.u64.bits)=((16777216:Nat):Int):=by decide
 have h2:((2:Int) ^ min (16:Int).toNat IntKind.u64.bits)=((65536:Nat):Int):=by decide
 have h3:((2:Int) ^ min (8:Int).toNat IntKind.u64.bits)=((256:Nat):Int):=by decide
 unfold by4;rw[h1,h2,h3,nm,nm,nm];simp only[byt,zf8,List.map_nil,De]
def beK:Nat→Nat→List UInt8
 | 0,_=>[]
 | k+1,m=>beK k (m / 65536)++[UInt8.ofNat (m / 256),UInt8.ofNat m]
def ey (m:Nat):List UInt8:=mN (beK 4 m)
theorem xF:∀ k,mN (beK k 0)=[]
 | 0=>rfl
 | k+1=>by
  have ih:=xF k;unfold mN at *;rw[beK,List.dropWhile_append,ih];rfl
theorem FP {a:Int}(h:a≠0):dL [a,0]=[a]:=by simp[dL,h]
theorem FO {a b:Int}(h:b≠0):dL [a,b]=[a,b]:=by simp[dL,h]
theorem oA (n:Int)(h:n.natAbs<18446744073709551616):gn (uh n)=ey n.natAbs:=by
 obtain ⟨m,hm⟩:∃ m,m=n.natAbs:=⟨_,rfl⟩;unfold uh;rw[← hm] at h ⊢;have hlo:=AB (m % 4294967296);have hhi:=AB (m / 4294967296);have hbe:beK 4 m=[UInt8.ofNat (m / 4294967296 / 16777216),UInt8.ofNat (m / 4294967296 / 65536),UInt8.ofNat (m / 4294967296 / 256),UInt8.ofNat (m / 4294967296),UInt8.ofNat (m % 4294967296 / 16777216),UInt8.ofNat (m % 4294967296 / 65536),UInt8.ofNat (m % 4294967296 / 256),UInt8.ofNat (m % 4294967296)]:=by
  simp only[beK,List.nil_append,List.cons_append];refine congr (zd6 List.cons ?_) (congr (zd6 List.cons ?_) (congr (zd6 List.cons ?_) (congr (zd6 List.cons ?_) (congr (zd6 List.cons ?_) (congr (zd6 List.cons ?_) (congr (zd6 List.cons ?_) (congr (zd6 List.cons ?_) I)))))))
  all_goals exact oV oM
 unfold ey gn;rw[hbe];by_cases h1:m / 4294967296=0
 ·by_cases h2:m % 4294967296=0
  ·rw[h1,h2]; rfl
  ·have ht:dL [((m % 4294967296:Nat):Int),((m / 4294967296:Nat):Int)]=[((m % 4294967296:Nat):Int)]:=by
    rw[h1];exact FP oM
   rw[ht];show mN (byt (by4 _++[]))=_;rw[zc3,hlo,h1];rfl
 ·have ht:dL [((m % 4294967296:Nat):Int),((m / 4294967296:Nat):Int)]=[((m % 4294967296:Nat):Int),((m / 4294967296:Nat):Int)]:=by
   exact FO oM
  rw[ht];show mN (byt (by4 _++(by4 _++[])))=_;rw[zc3];have:byt (by4 ((m / 4294967296:Nat):Int)++by4 ((m % 4294967296:Nat):Int))=byt (by4 ((m / 4294967296:Nat):Int))++byt (by4 ((m % 4294967296:Nat):Int)):=by simp[byt]
  rw[this,hhi,hlo];rfl
def dy (n:Int):Value:=r6 (decide (n<0)) (ey n.natAbs)
theorem od (E:World)(g:PH)(s:Own)(n:Int)(h0 : -9223372036854775808≤n)(h1:n<9223372036854775808) :
  Ctr Tryz.prog E 39 #[vi n] g s (fun r g' s'=>r=dy n∧s=s'∧Le g g') :=
 (Ds E g s n h0 h1).mono fun _ _ _ ⟨h2,h3⟩=>⟨by rw[h2,oA _ oM]; rfl,h3⟩
def beN (l:List UInt8):Nat:=l.foldl (fun a b=>a * 256+b.toNat) 0
theorem nt (l:List UInt8)(b:UInt8):beN (l++[b])=beN l * 256+b.toNat:=by simp[beN]
theorem B4 (l:List UInt8):beN (mN l)=beN l:=by
 induction l with
 | nil=>rfl
 | cons b t ih =>
  unfold mN at *;rw[List.dropWhile_cons];split
  ·rename_i h;have hb:b=0:=by simpa using h
   subst hb;rw[ih];rfl
  ·rfl
theorem oT (k:Nat):(UInt8.ofNat k).toNat=k % 256:=by simp
theorem AE:∀ (k m:Nat),m<65536 ^ k→beN (beK k m)=m
 | 0,m,h=>by
  have:m=0:=by simpa using h
  subst this;rfl
 | k+1,m,h=>by
  have ih:=AE k (m / 65536) (by rw[Nat.div_lt_iff_lt_mul dC]; rwa [Nat.pow_succ] at h);rw[beK,show beK k (m / 65536)++[UInt8.ofNat (m / 256),UInt8.ofNat m]=(beK k (m / 65536)++[UInt8.ofNat (m / 256)])++[UInt8.ofNat m] by simp,nt,nt,ih,oT,oT];omega
theorem iS {m:Nat}(h:m<18446744073709551616):beN (ey m)=m:=by
 unfold ey;rw[B4];exact AE 4 m h
theorem kU {m:Nat}(h:m<4294967296):(ey m).length≤4:=by
 have h1:m / 65536 / 65536=0:=oM;have h2:beK 4 m=beK 2 0++([UInt8.ofNat (m / 65536 / 256),UInt8.ofNat (m / 65536)]++[UInt8.ofNat (m / 256),UInt8.ofNat m]):=by
  rw[beK,beK,h1,zg3]
 unfold ey;rw[h2];have h3:=xF 2;unfold mN at *;rw[List.dropWhile_append,h3];simp only[List.isEmpty_nil,if_true];exact zj8 ((List.dropWhile_sublist _).length_le) (by simp)
def ef (n:Nat):List Int:=if n=0 then [] else [(n:Int)]
theorem Bl {l m:List Cl}(h:l.Perm m):∀ a,uT l a=uT m a:=by
 induction h with
 | nil=>exact fun _=>rfl
 | cons x _ ih=>exact fun a=>ih _
 | swap x y l=>intro a; simp only[uT]; congr 1; omega
 | trans _ _ h1 h2=>exact fun a=>(h1 a).trans (h2 a)
theorem xm (E:World)(g:PH)(s:Own)(v:Value)(l:List Cl)(hv:am g v l)(hf:dg l) :
  Ctr Tryz.prog E 52 #[.agg #[v]] g s (fun r g' s'=>r=vi (zw l)∧s=s'∧Le g g'):=by
 have hft:=jo hf;have hfl:=hft.1;refine za9 (args:=[.agg #[v]]) func52 I ntmps52 (bE I) ?_;refine rZ (bW (bO I) fun b1=>?_);refine aT I (rZ (aT I (sQ (rZ (lK (qV 0 ba au I I I) (lW (cL call34 I (qZ E g _ v l hv hf)) ?_))))));rintro tv g1 _ ⟨rfl,hle,ht⟩;have htab:=ht;obtain ⟨b,m,iv,rs,rfl,hb,hm,hI,hall⟩:=ht;obtain ⟨es,clk,hes,hmi⟩:=hm;refine lU (nC I) (lU (fA mG I sizeOf99 I) (lK (qL isAgg99 I (cK hb I)) (lW (SO.range underlying99 I hes) ?_)));rintro _ _ _ ⟨it,rfl,rfl,rfl⟩;refine tZ (bK ?_);have hlen:=hall.length;refine oP (ι:=List MapEntry×List (Int×Value)×List Cl) (fun i=>[(3,vi (uT i.2.2 (-1))),(11,pp it 0)]) (fun _=>g1)
  (fun i=>ez it m es clk i.1::pt b1 (.cells #[v] 31 (0,0))::s)
  (fun i=>kN (rs.map ck) es i.1 i.2.1∧(∀ c∈i.2.2,c∈ae l)∧i.2.1.map Prod.fst=i.2.2.map Cl.id) (fun i=>rs.length - i.2.1.length)
  ([],[],[]) sB rfl rfl ⟨kN.nil _ _,by simp,rfl⟩ ?_
 rintro ⟨vis,vl,vc⟩ ⟨hrv,hvs,hvl⟩;dsimp only at hrv hvs hvl ⊢;have hvle:=hrv.len hmi;simp only[ze1] at hvle;have hvcl:vl.length=vc.length:=by have:=zd6 List.length hvl; simpa using this
 refine rZ (lW (SO.nextP 0 I I hes hmi hrv) ?_);rintro _ _ _ ⟨rfl,hcase⟩
 rcases hcase with ⟨rfl,rfl,hperm⟩ | ⟨e,pr,he,hp1,hk1,hv1,hrv2,rfl,rfl⟩
 ·have hp:=mR hvl hvs (jR l) hall hperm;refine yX I (tZ (sQ (cF I (xI (tX (tX (bX (tN (sW I (aT I (rE (dR (s':=s) uR ?_))))))))))));exact za6 (.inl I) results52 I ⟨by rw[Bl hp]; rfl,rfl,hle⟩
 ·obtain ⟨x,hx,rfl⟩:=ze6.1 hp1;obtain ⟨cx,hcm,hcx⟩:=xJ hall hx;have hvs2:∀ c∈vc++[cx],c∈ae l:=fun c hc=>by
   rcases ze7.1 hc with h | h
   ·exact hvs c h
   ·simp at h; rw[h]; exact hcm
  have hvl2:(vl++[ck x]).map Prod.fst=(vc++[cx]).map Cl.id:=by rw[zf9,zf9,hvl]; simp[ck,hcx.1]
  have hm2:=hrv2.len hmi;simp only[ze1,zd9,ze2] at hm2;obtain ⟨xi,xd,xv⟩:=x;have hxd:xd=cx.dim:=hcx.2.1;subst hxd;have hmx:=oX cx vc (-1);refine yX I (tZ (sQ (cT I (kP (tN (bK (rZ (lK (SQ.entryP 0 I I hes hmi he hk1 hv1) (yX I (bW (aL zk5) fun b5=>?_))))))))));refine oZ (sK 0 ax I I I I I sB) ?_;refine tZ (rG (lM I (lU (fA ao I zT3 I) (lK (qL iT3 I (cO 0 I I)) (lU (SU.eq (v':=vi (uT (vc++[cx]) (-1))) (SU.maxI I I) (zd6 vi hmx.symm)) (lA I (nL (bN (dR (s':=ez it m es clk (vis++[e])::pt b1 (.cells #[v] 31 (0,0))::s) (.cons _ (.refl _)) ?_)))))))));exact ST.again (vis++[e],vl++[ck ⟨xi,cx.dim,xv⟩],vc++[cx]) sB I I ⟨hrv2,hvs2,hvl2⟩ lN
def eS (l:List Cl):List Int:=l.flatMap fun c=>c.sides.map ah.cell
theorem vG (A:List Cl)(k:Int):(eS A).contains k=jf A k:=by
 rw[Bool.eq_iff_iff];simp[eS,jf,Gx]
theorem uB {A:List Cl}{k:Nat}(h:k<A.length):eS (A.take (k+1))=eS (A.take k)++A[k].sides.map ah.cell:=by
 unfold eS;rw[tS h,List.flatMap_append];simp only[zg9,List.flatMap_nil,zc3]
theorem Dv {A:List Cl}{id:Int}(h:aG A id=none)(m:List Int):fM A (m++[id])=fM A m:=by
 unfold fM;refine zc5 fun c hc=>?_;have:=List.find?_eq_none.1 h c hc;simp only[zi7] at this;simp[this]
theorem Bm {ss:List ah}{j:Nat}(h:j<ss.length)(m:List Int):m++(ss.take (j+1)).map ah.cell=(m++(ss.take j).map ah.cell)++[ss[j].cell]:=by
 rw[tS h,zf9,zg3]; rfl
theorem uC (E:World)(g:PH)(s:Own)(v:Value)(l:List Cl)(hv:am g v l)(hf:dg l) :
  Ctr Tryz.prog E 25 #[.agg #[v]] g s (fun r g' s'=>s=s'∧Le g g'∧cj g' r (iU l)):=by
 have hft:=jo hf;have hfl:=hft.1;have hsrt:=gw l;have hnd:=jR l;refine za9 (args:=[.agg #[v]]) func25 I ntmps25 (bE I) ?_;refine rZ (bW (bO I) fun b1=>?_);refine aT I (rZ (aT I (rZ (lK (qV 0 ba au I I I) (lW (cL call67 I (fV E g _ _ l hv hf)) ?_)))));rintro v11 g1 _ ⟨rfl,hle,hc⟩;obtain ⟨rs,hrs,hall⟩:=hc;have hcs:am g1 _ (ae l):=⟨rs,hrs,hall⟩;obtain ⟨q,dd,rfl⟩:=hrs.form;have hrl:=hall.length;refine aT I (sW I (lU (eN aK I) (lW (mK iG false sty123 I I I oM oM) ?_)));rintro _ _ _ ⟨b14,rfl,rfl,rfl⟩;refine aT I (sQ (rZ (aT I (bK ?_))));unfold iU;generalize ae l=A at *;refine SC.to (g':=g1) (s':=rowA iG 4 (.slice (some ⟨b14,0,none⟩) rs.length rs.length) (fM A (eS (A.take 0)))::pt b1 (.cells #[v] 31 (0,0))::s) (fun w hw=>by rw[show eS (A.take 0)=[] from I,BD,hrl]; exact hw) ?_;refine oP (ι:=Nat) (fun i=>[(3,.slice none 0 0),(4,.slice q rs.length dd),(5,.slice (some ⟨b14,0,none⟩) rs.length rs.length),(6,vi i)]) (fun _=>g1)
  (fun i=>rowA iG 4 (.slice (some ⟨b14,0,none⟩) rs.length rs.length) (fM A (eS (A.take i)))::pt b1 (.cells #[v] 31 (0,0))::s)
  (fun i=>i≤A.length) (fun i=>A.length - i) 0 sB rfl rfl (zf1 _) ?_
 intro k hk;refine sQ (sW I (lM I (lU (eN aK I) (yL I (tZ ?_)))));refine iP I (fun hlt=>?_) (fun hlt=>?_)
 ·have hkl:k<A.length:=oM;have hkr:k<rs.length:=oM;have hb1:=hrs.based oM;have hcr:=hall.get (gE hkl) (gE hkr);have hgr:rs[((k:Nat):Int).toNat]?=some rs[k]:=gE hkr;have hsucc:=uB hkl;have hxl:=hft.2 _ (gM hkl);generalize A[k]=x at *;generalize rs[k]=r at *;generalize eS (A.take k)=m at *;obtain ⟨ri,rd,rp,rn,rc⟩:=r;have hsv:SlA encSide g1 (.slice rp rn rc) x.sides:=hcr.2.2;have hxn:rn=x.sides.length:=by obtain ⟨q,cc,hq⟩:=za2 hsv; simp at hq; exact hq.2.1
  subst hxn;refine kP (tN (sQ (bK (rZ (aT I (bK ?_))))));refine oP (ι:=Nat) (fun j=>[(3,.slice none 0 0),(4,.slice q rs.length dd),(5,.slice (some ⟨b14,0,none⟩) rs.length rs.length),(6,vi k),(7,vi j)]) (fun _=>g1)
   (fun j=>rowA iG 4 (.slice (some ⟨b14,0,none⟩) rs.length rs.length) (fM A (m++(x.sides.take j).map ah.cell))::pt b1 (.cells #[v] 31 (0,0))::s)
   (fun j=>j≤x.sides.length) (fun j=>x.sides.length - j) 0 sB rfl (by simp) (zf1 _) ?_
  intro j hj;refine sQ (sW I (lM I (lM I (lU (iA aK ax I I hb1 oM sL) (lU (fC ao I cB I hb1) (lK (aZ (e:=encCell) (o:=2) (u:=.slice rp x.sides.length rc) dJ I hrs.rd hgr I) (lU (eN cY I) (yL I (tZ ?_)))))))));refine iP I (fun hlt2=>?_) (fun hlt2=>?_)
  ·have hjl:j<x.sides.length:=oM;have hb2:=za4 hsv oM;have hgj:x.sides[((j:Nat):Int).toNat]?=some x.sides[j]:=gE hjl;have hms:=Bm hjl m;generalize m++(x.sides.take j).map ah.cell=m2 at *;generalize x.sides[j]=z at *;have hfl2:(fM A m2).length=A.length:=by simp[fM]
   rcases rv hsrt z.cell with ⟨hf0,hat⟩ | ⟨c,kk,hf0,hat,hck⟩
   ·refine kP (tN (sQ (bK (sW I (lM I (lM I (lU (iA aK ax I I hb1 oM sL) (lU (fC ao I cB I hb1) (lK (aZ (e:=encCell) (o:=2) (u:=.slice rp x.sides.length rc) dJ I hrs.rd hgr I) (lM I (lU (iA cY cq I I hb2 oM sL) (lU (fC dI I zT3 I hb2) (lK (aZ (o:=0) (u:=vi z.cell) iT3 I hsv.rd hgj I) (lW (cL call68 I (iH E g1 _ _ A z.cell hcs hfl hsrt)) ?_))))))))))))));rintro _ _ _ ⟨rfl,rfl,rfl⟩;rw[hat];refine aT I (sW I (lU (SU.eq (v':=vb false) (gQ I I) (zd6 vb (zf2 oM))) (tZ (cF I (kP (bN (tN (rG (lM I (yD I (lA I (nL ?_))))))))))));exact ST.again (j+1) sB I (by rw[hms,Dv hf0]) oM oM
   ·have hkl2:kk<A.length:=(ze9.1 hck).1;have hset:(fM A m2).set kk true=fM A (m2++[z.cell]):=by rw[BC hnd hck,(cJ hf0).2]
    refine kP (tN (sQ (bK (sW I (lM I (lM I (lU (iA aK ax I I hb1 oM sL) (lU (fC ao I cB I hb1) (lK (aZ (e:=encCell) (o:=2) (u:=.slice rp x.sides.length rc) dJ I hrs.rd hgr I) (lM I (lU (iA cY cq I I hb2 oM sL) (lU (fC dI I zT3 I hb2) (lK (aZ (o:=0) (u:=vi z.cell) iT3 I hsv.rd hgj I) (lW (cL call68 I (iH E g1 _ _ A z.cell hcs hfl hsrt)) ?_))))))))))))));rintro _ _ _ ⟨rfl,rfl,rfl⟩;rw[hat];refine aT I (sW I (lU (SU.eq (v':=vb true) (gQ I I) (zd6 vb (zf3 oM))) (tZ (cT I (rG (lM I (lM I (lU (iA underlying123 zT4 I I I oM sL) (oZ (sT (e:=iG) (a:=true) 0 zT4 I I I (by rw[hfl2]; omega) I) ?_)))))))));refine nL (bN (tN (rG (lM I (yD I (lA I (nL ?_)))))));exact ST.again (j+1) sB I (by rw[hms,← hset]; rfl) oM oM
  ·have hjj:x.sides.take j=x.sides:=tL oM;rw[hjj,← hsucc];refine xI (tX (tX (bX (bN (tN (rG (lM I (yD I (lA I (nL ?_))))))))));exact ST.again (k+1) sB I I oM oM
 ·have hkk:A.take k=A:=tL oM;rw[hkk];refine xI (tX (tX (bX (tN (sQ (rZ (aT I (bK (cP (zj2 _ _ _) (cP (zj2 _ _ _) (zb4 3 1 ?_)))))))))));refine oP (ι:=Value×Nat) (fun i=>[(3,i.1),(4,.slice q rs.length dd),(5,.slice (some ⟨b14,0,none⟩) rs.length rs.length),(9,vi i.2)]) (fun _=>g1)
   (fun i=>rowA encInt 3 i.1 (((A.take i.2).filter fun c=>!jf A c.id).map Cl.id)::rowA iG 4 (.slice (some ⟨b14,0,none⟩) rs.length rs.length) (fM A (eS A))::pt b1 (.cells #[v] 31 (0,0))::s)
   (fun i=>i.2≤A.length) (fun i=>A.length - i.2) (.slice none 0 0,0) sB rfl rfl (zf1 _) ?_
  rintro ⟨ov,i⟩ hi;dsimp only at hi ⊢;refine sQ (sW I (lM I (lU (eN aK I) (yL I (tZ ?_)))));refine iP I (fun hlt3=>?_) (fun hlt3=>?_)
  ·have hil:i<A.length:=oM;have hir:i<rs.length:=oM;have hb1:=hrs.based oM;have hcr:=hall.get (gE hil) (gE hir);have hgr:rs[((i:Nat):Int).toNat]?=some rs[i]:=gE hir;have hsucc:=BI hil (fun c=>!jf A c.id) Cl.id;have hlek:=Fb A i (fun c=>!jf A c.id) Cl.id;have hgf:(fM A (eS A))[((i:Nat):Int).toNat]?=some (jf A A[i].id):=by rw[← vG]; exact BE (gE hil)
   generalize A[i]=x at *;generalize rs[i]=r at *;refine kP (tN (sQ (bK (sW I (lM I (lU (iA underlying123 zT4 I I I oM sL) (lK (eB (e:=iG) iT4 I (zb5 1 I) hgf I) (lU (SU.not I) (tZ ?_)))))))));refine iQ I (fun htop=>?_) (fun htop=>?_)
   ·refine rG (lM I (lM I (lM I (lU (iA aK ax I I hb1 oM sL) (lU (fC ao I zT3 I hb1) (lK (aZ (e:=encCell) (o:=0) (u:=vi x.id) iT3 I hrs.rd hgr (by rw[← hcr.1]; rfl)) ?_))))));refine lW (bS sty25 I I I (ab sB) dC) ?_;rintro _ _ _ ⟨b64,rfl,rfl,rfl⟩;refine lW (aP (e:=encInt) 0 x.id sty25 I I I I I oM oM) ?_;rintro ov' _ _ ⟨rfl,rfl⟩;refine lA I (nL (bN (tN (rG (lM I (yD I (lA I (nL ?_))))))));refine ST.to (fun w hw=>?_) (g':=g1) (s':=rowA encInt 3 ov' (((A.take (i+1)).filter fun c=>!jf A c.id).map Cl.id)::rowA iG 4 (.slice (some ⟨b14,0,none⟩) rs.length rs.length) (fM A (eS A))::pt b1 (.cells #[v] 31 (0,0))::s) ?_
    ·rw[hsucc,zf5 (by simpa using htop)]; exact hw
    exact ST.again (ov',i+1) sB I I (by dsimp only; omega) lN
   ·refine kP (bN (tN (rG (lM I (yD I (lA I (nL ?_)))))));refine ST.to (fun w hw=>?_) (g':=g1) (s':=rowA encInt 3 ov (((A.take (i+1)).filter fun c=>!jf A c.id).map Cl.id)::rowA iG 4 (.slice (some ⟨b14,0,none⟩) rs.length rs.length) (fM A (eS A))::pt b1 (.cells #[v] 31 (0,0))::s) ?_
    ·rw[hsucc,zf4 (by simpa using htop),zc3]; exact hw
    exact ST.again (ov,i+1) sB I I (by dsimp only; omega) lN
  ·have hii:A.take i=A:=tL oM;rw[hii];refine xI (tX (tX (bX (tN (sW I (aT I (rE (fT fun g2 hle2 hs2=>?_))))))));refine dR (s':=s) uR ?_;exact za6 (.inl I) results25 I ⟨I,hle.trans hle2,hs2⟩
theorem wj {A:List Cl}{ids:List Int}{x:Int}(h:x∈eP A ids):∃ c∈A,c.id=x:=by
 obtain ⟨c,hc,e⟩:=ol h;exact⟨c,hc,e⟩
theorem CK (l:List Cl):((ae l).map Cl.id).Pairwise (· < ·):=by
 have h1:=gw l;have h2:=jR l;have h3:=h1.and h2;exact h3.imp fun h=>by omega
theorem sH (l:List Cl)(ids:List Int):fx l ids=((ae l).filter fun c=>(eP (ae l) ids).contains c.id).map Cl.id:=by
 unfold fx;refine i8 ?_ ?_ fun x=>?_
 ·have h2:=gN (eP (ae l) ids);have h3:(cG (eP (ae l) ids)).Nodup:=(il _).symm.nodup (o8 _ _);exact (h2.and h3).imp fun ⟨h4,h5⟩=>by omega
 ·exact ((CK l)).sublist (List.filter_sublist.map _)
 ·rw[(il _).mem_iff,ze6];constructor
  ·intro hx;obtain ⟨c,hc,rfl⟩:=wj hx;exact⟨c,zg8.2 ⟨hc,by simpa using hx⟩,I⟩
  ·rintro ⟨c,hc,rfl⟩;simpa using (zg8.1 hc).2
open Go.ChangeShapes Go.WideShapes Go.ChangeAt Go.RowKit
set_option maxRecDepth 100000
section
variable {H:Type}{enc:TypeId×Value→H}{W:World}{base:Nat}{spare:Nat→Bool}{hd:Bool}
end
theorem Ah {α β:Type}{ka:α→Int}{kb:β→Int}{f:α→β}(h:∀ a,kb (f a)=ka a)(x:α):∀ l:List α,ins kb (f x) (l.map f)=(ins ka x l).map f
 | []=>rfl
 | y::r=>by
  simp only[zf8,ins,h];split
  ·rfl
  ·rw[Ah h x r]; rfl
theorem ma {α β:Type}{ka:α→Int}{kb:β→Int}{f:α→β}(h:∀ a,kb (f a)=ka a):∀ l:List α,sortBy kb (l.map f)=(sortBy ka l).map f
 | []=>rfl
 | x::r=>by
  simp only[zf8,sortBy];rw[ma h r,Ah h]
theorem FW (a b:Nat)(ha:a<18446744073709551616)(hb:b<18446744073709551616):IntKind.u64.wrap ((BitVec.ofInt 64 (a:Int) ||| BitVec.ofInt 64 (b:Int)).toNat:Int)=((a ||| b:Nat):Int):=by
 have h:(BitVec.ofInt 64 (a:Int) ||| BitVec.ofInt 64 (b:Int)).toNat=a ||| b:=by
  rw[BitVec.toNat_or,BitVec.ofInt_natCast,BitVec.ofInt_natCast,BitVec.toNat_ofNat,BitVec.toNat_ofNat,Nat.mod_eq_of_lt ha,Nat.mod_eq_of_lt hb]
 rw[h];have h2:a ||| b<18446744073709551616:=Nat.or_lt_two_pow (n:=64) ha hb;rw[xN];omega
theorem FY {A b j:Nat}(hb:b<256)(hj:j≤3)(hA:A * 256 ^ (j+1)<4294967296):IntKind.u64.wrap ((BitVec.ofInt 64 ((A * 256 ^ (j+1):Nat):Int) ||| BitVec.ofInt 64 ((b * 256 ^ j:Nat):Int)).toNat:Int)=(((A * 256+b) * 256 ^ j:Nat):Int):=by
 have e:256 ^ (j+1)=2 ^ (8 * (j+1)):=by rw[Nat.pow_mul]
 have hlt:b * 256 ^ j<256 ^ (j+1):=by
  rw[Nat.pow_succ,Nat.mul_comm (256 ^ j)];exact Nat.mul_lt_mul_of_pos_right hb (Nat.pow_pos dC)
 have hle:256 ^ (j+1)≤4294967296:=zj8 (Nat.pow_le_pow_right (n:=256) dC (show j+1≤4 by omega)) dC;have hor:A * 256 ^ (j+1) ||| b * 256 ^ j=A * 256 ^ (j+1)+b * 256 ^ j:=by
  rw[e] at hlt ⊢;rw[Nat.mul_comm A];exact (Nat.two_pow_add_eq_or_of_lt hlt A).symm
 have hsum:A * 256 ^ (j+1)+b * 256 ^ j=(A * 256+b) * 256 ^ j:=by
  rw[Nat.add_mul,Nat.pow_succ,Nat.mul_assoc,Nat.mul_comm 256]
 clear e;rw[FW _ _ oM oM,hor,hsum]
theorem ia (n:Nat):dL [(n:Int)]=ef n:=by
 unfold ef;split
 ·rename_i h; subst h; rfl
 ·rename_i h;have:((n:Int) == 0)=false:=by simpa using h
  simp[dL,this]
def wz (B:List UInt8)(i:Nat):List Int:=List.replicate ((B.length+3) / 4) ((beN (B.take i) * 256 ^ (B.length - i):Nat):Int)
theorem B5 (l:List UInt8):beN l<256 ^ l.length:=by
 obtain ⟨r,rfl⟩:∃ r,l=List.reverse r:=⟨l.reverse,by simp⟩;induction r with
 | nil=>exact Nat.zero_lt_one
 | cons b t ih =>
  rw[List.reverse_cons,nt,zd9,ze2,Nat.pow_succ];have:=b.toNat_lt;have h:(beN t.reverse+1) * 256≤256 ^ t.reverse.length * 256:=Nat.mul_le_mul_right _ ih;omega
theorem FV {k:Nat}(h:k≤4):256 ^ k≤4294967296:=zj8 (Nat.pow_le_pow_right dC h) dC
theorem DW {B:List UInt8}(h:B.length≤4):dL (wz B B.length)=ef (beN B):=by
 unfold wz;rw[List.take_length,Nat.sub_self,Nat.pow_zero,Nat.mul_one];by_cases h0:B=[]
 ·subst h0; rfl
 ·have h1:0<B.length:=List.length_pos_iff.2 h0;rw[show (B.length+3) / 4=1 by omega];exact ia _
theorem shlB (b j:Nat)(hb:b<256)(hj:j≤3):IntKind.u64.wrap ((b:Int) * 2 ^ min (8 * (j:Int)).toNat IntKind.u64.bits)=((b * 256 ^ j:Nat):Int):=by
 rcases (by omega:j=0∨j=1∨j=2∨j=3) with rfl | rfl | rfl | rfl
 ·rw[show (2:Int) ^ min (8 * ((0:Nat):Int)).toNat IntKind.u64.bits=1 by decide,show (256:Nat) ^ 0=1 by decide,xN]; omega
 ·rw[show (2:Int) ^ min (8 * ((1:Nat):Int)).toNat IntKind.u64.bits=256 by decide,show (256:Nat) ^ 1=256 by decide,xN]; omega
 ·rw[show (2:Int) ^ min (8 * ((2:Nat):Int)).toNat IntKind.u64.bits=65536 by decide,show (256:Nat) ^ 2=65536 by decide,xN]; omega
 ·rw[show (2:Int) ^ min (8 * ((3:Nat):Int)).toNat IntKind.u64.bits=16777216 by decide,show (256:Nat) ^ 3=16777216 by decide,xN]; omega
theorem lf (E:World)(g:PH)(s:Own)(ng:Bool)(B:List UInt8)(hB:B.length≤4) :
  Ctr Tryz.prog E 140 #[.agg #[vb ng,txt B]] g s (fun r g' s'=>s=s'∧Le g g'∧SlA fE g' r (ef (beN B))):=by
 obtain ⟨q,hq⟩:∃ q,q=(B.length+3) / 4:=⟨_,rfl⟩;refine za9 (args:=[.agg #[vb ng,txt B]]) func140 I ntmps140 (bE I) ?_;refine rZ (bW (bO I) fun b1=>?_);refine aT I (rZ (lU (fA sS I sizeOf9 I) (lK (qL isAgg9 I (cO 0 I I)) (lU (SU.lenTxt uT9 I) (yD I (lU (sU I I oM) (lU (SU.eq (v':=vi (q:Nat)) (SU.quo I I dC) (zd6 vi (by rw[Int.tdiv_eq_ediv_of_nonneg oM,zk1 _ oM]; omega))) ?_)))))));refine lW (mK fE 0 sty142 I I I oM oM) ?_;rintro _ _ _ ⟨b12,rfl,rfl,rfl⟩;refine aT I (sQ (rZ (lU (fA sS I sizeOf9 I) (lK (qL isAgg9 I (cO 1 I I)) (lU (SU.lenTxt uT9 I) (lM I (tZ (bK ?_))))))));refine oP (ι:=Nat) (fun i=>[(1,pp b1 0),(3,.slice (some ⟨b12,0,none⟩) q q),(15,vi B.length),(16,vi i)]) (fun _=>g) (fun i=>rowA fE 140 (.slice (some ⟨b12,0,none⟩) q q) (wz B i)::pt b1 (.cells #[vb ng,txt B] 84 (0,0))::s) (fun i=>i≤B.length) (fun i=>B.length - i) 0
  sB rfl (by unfold wz; rw[hq]; simp[beN]; rfl) (zf1 _) ?_
 intro i hi;refine rZ (yL I (tZ (sQ ?_)));refine iP I (fun hlt=>?_) (fun hlt=>?_)
 ·have hlt:i<B.length:=oM;have hq1:q=1:=oM;obtain ⟨k,hk⟩:∃ k,k=B.length - 1 - i:=⟨_,rfl⟩;have hk3:k≤3:=oM;have hx:B[((i:Nat):Int).toNat]?=some B[i]:=gE hlt;have hacc:wz B i=[((beN (B.take i) * 256 ^ (k+1):Nat):Int)]:=by
   unfold wz;rw[← hq,hq1,show B.length - i=k+1 by omega];rfl
  have hacc':wz B (i+1)=[(((beN (B.take i) * 256+B[i].toNat) * 256 ^ k:Nat):Int)]:=by
   unfold wz;rw[← hq,hq1,show B.length - (i+1)=k by omega,tS hlt,nt];rfl
  have hA:beN (B.take i) * 256 ^ (k+1)<4294967296:=by
   have h1:=B5 (B.take i);rw[zd8,Nat.min_eq_left oM] at h1;have h2:beN (B.take i) * 256 ^ (k+1)<256 ^ i * 256 ^ (k+1):=Nat.mul_lt_mul_of_pos_right h1 (Nat.pow_pos dC);rw[← Nat.pow_add] at h2;exact Nat.lt_of_lt_of_le h2 (FV oM)
  have hb:=B[i].toNat_lt;have hor:=FY (A:=beN (B.take i)) (b:=B[i].toNat) hb hk3 hA;rw[hacc];generalize B[i]=b at *;subst hq1;refine kP (tN (sQ (bK (sW I (aT I (rZ (lU (fA sS I sizeOf9 I) (lK (qL isAgg9 I (cO 1 I I)) (lU (SU.lenTxt uT9 I) (lU (sU I I oM) (lM I (lU (SU.eq (v':=vi (k:Nat)) (sU I I oM) (zd6 vi oM)) (aT I ?_)))))))))))));refine dW [16] [(0,2),(1,2),(2,2),(3,2),(4,1),(5,2),(6,1),(7,2),(8,2),(9,2),(10,2),(11,2),(12,2),(13,2),(14,2),(15,2),(16,0)] zd7 kR ?_;refine yM I (yM I (pU I (SU.eq (v':=vi (0:Nat)) (SU.quo I I dC) (zd6 vi (by rw[Int.tdiv_eq_ediv_of_nonneg oM,zk1 _ oM]; omega))) ?_));refine pU I (iA aV di I I I oM (by simp[slen])) ?_;refine pK I (eB jh I (zb5 0 I) (j:=0) I I) (pU I (fA sS I sizeOf9 I) (pK I (qL isAgg9 I (cO 1 I I)) (yM I (pU I (SU.txtAt uT9 I I oM hx) (pU I (SU.eq (v':=.int .u64 (b.toNat:Int)) (zd4 uT5 px I) (zd6 (Value.int .u64) (by rw[xN]; omega))) ?_)))));refine yM I (pU I (SU.eq (v':=vi (k:Nat)) (zd3 I I dC) (zd6 vi (by rw[Int.tmod_eq_emod_of_nonneg oM]; omega))) ?_);refine pU I (SU.mul I I oM) (pU I (SU.eq (v':=.int .u64 ((b.toNat * 256 ^ k:Nat):Int)) (SU.shl I I oM) (zd6 (Value.int .u64) (shlB _ _ hb hk3))) (pU I (SU.eq (v':=.int .u64 (((beN (B.take i) * 256+b.toNat) * 256 ^ k:Nat):Int)) (SU.or I I) (zd6 (Value.int .u64) hor)) (pU I (iA aV di I I I oM (by simp[slen])) ?_)));refine SP.on I (sT (e:=fE) (a:=(((beN (B.take i) * 256+b.toNat) * 256 ^ k:Nat):Int)) (j:=0) 0 di I I I (bE I) I) (.inl dC) ?_;rintro _ _ _ ⟨rfl,rfl⟩;refine pN (bN (tN (rG (yD I (lM I (nL ?_))))));exact ST.again (i+1) ⟨I,I,I,FD I oM,trivial⟩ I (by rw[hacc']; rfl) oM oM
 ·have hi':i=B.length:=oM;subst hi';have hlen:(wz B B.length).length=q:=by unfold wz; rw[List.length_replicate,hq]
  refine xI (tX (tX (bX (tN (sQ (fS fun g1 hle hs=>?_))))));refine rG (lM I (lW (cL call132 I (jt E g1 _ _ (wz B B.length) hs oM)) ?_));rintro v43 _ _ ⟨rfl,rfl,hm⟩;refine aT I (rE ?_);rw[DW hB] at hm;refine dR (s':=s) uR ?_;exact za6 (.inl I) results140 I ⟨I,hle,hm⟩
theorem bw (n:Nat):ef n=[]∧n=0∨ef n=[(n:Int)]∧n≠0:=by
 unfold ef;split
 ·exact .inl ⟨I,by assumption⟩
 ·exact .inr ⟨I,by assumption⟩
theorem l6 (n:Nat):dL [(n:Int),0]=ef n:=by
 rw[← ia n];simp[dL]
theorem jr (m:Nat)(k:Int)(hk:32≤k)(hk2:k≤64)(h:m<4294967296):(m:Int).fdiv (2 ^ min k.toNat IntKind.u64.bits)=0:=by
 have h1:min k.toNat IntKind.u64.bits=k.toNat:=Nat.min_eq_left (by simp only[IntKind.bits]; omega);have h2:(2:Int) ^ k.toNat=((2 ^ k.toNat:Nat):Int):=by simp
 rw[h1,h2,nm];have h3:2 ^ 32≤2 ^ k.toNat:=Nat.pow_le_pow_right dC oM;have h4:(2:Nat) ^ 32=4294967296:=by decide
 rw[h4] at h3;rw[Nat.div_eq_of_lt oM];rfl
theorem Ct {n:Int}(h:0≤n∧n<18446744073709551616):IntKind.u64.wrap n=n:=by rw[xN]; omega
def Ep (la:List Int)(n:Nat)(i:Nat):List Int:=if i=0 then List.replicate (la.length+1) 0 else [(n:Int),0]
theorem vS (E:World)(g:PH)(s:Own)(v u:Value)(n m:Nat)(hv:SlA fE g v (ef n))(hu:SlA fE g u (ef m))(h:n+m<4294967296) :
  Ctr Tryz.prog E 164 #[v,u] g s (fun r g' s'=>s=s'∧Le g g'∧SlA fE g' r (ef (n+m))):=by
 obtain ⟨p1,c1,rfl⟩:=za2 hv;obtain ⟨p2,c2,rfl⟩:=za2 hu;have hl0:∀ k,(ef k).length≤1:=fun k=>by rcases bw k with ⟨h,-⟩ | ⟨h,-⟩ <;> rw[h] <;> simp
 have hl1:=hl0 n;have hl2:=hl0 m;refine za9 (args:=[.slice p1 (ef n).length c1,.slice p2 (ef m).length c2]) func164 I ntmps164 (bE I) ?_;refine rZ (aT I ?_);refine SC.cut (ι:=Value×Value×Nat×Nat) (fun q=>[(0,q.1),(1,q.2.1)]) (fun _=>g) (fun _=>s) (fun q=>SlA fE g q.1 (ef q.2.2.1)∧SlA fE g q.2.1 (ef q.2.2.2)∧q.2.2.1+q.2.2.2=n+m∧(ef q.2.2.2).length≤(ef q.2.2.1).length) ?_ ?_
 ·refine sW I (lU (eN aV I) (lM I (lU (eN aV I) (yL I (tZ ?_)))));refine iP I (fun hlt=>?_) (fun hlt=>?_)
  ·refine rG (lM I (lM I (lA I (lA I (nL ?_)))));exact za7 (_,_,m,n) sB I I ⟨hu,hv,Nat.add_comm _ _,by dsimp only; omega⟩
  ·refine kP ?_;exact za7 (_,_,n,m) sB I I ⟨hv,hu,I,by dsimp only; omega⟩
 clear hv hu hl1 hl2 p1 p2 c1 c2;rintro ⟨v,u,a,b⟩ ⟨hv,hu,hab,hle⟩;dsimp only at hv hu hab hle ⊢;rw[← hab] at h ⊢;clear hab n m;obtain ⟨p1,c1,rfl⟩:=za2 hv;obtain ⟨p2,c2,rfl⟩:=za2 hu;have hl1:=hl0 a;have hl2:=hl0 b;have hca:=bw a;have hcb:=bw b;generalize ef a=la at *;generalize ef b=lb at *;refine sW I (lU (eN aV I) (lU (SU.eq (v':=vi ((la.length+1:Nat))) (aD I I oM) (zd6 vi oM)) (lW (mK fE 0 sty142 I I I oM oM) ?_)));rintro _ _ _ ⟨b19,rfl,rfl,rfl⟩;refine aT I (rZ (aT I (sQ (sW I (lU (eN aV I) (lM I (tZ (bK ?_))))))));refine oP (ι:=Nat) (fun i=>[(0,.slice p1 la.length c1),(1,.slice p2 lb.length c2),(5,.slice (some ⟨b19,0,none⟩) (la.length+1) (la.length+1)),(6,.int .u64 0),(21,vi la.length),(22,vi i)]) (fun _=>g) (fun i=>rowA fE 140 (.slice (some ⟨b19,0,none⟩) (la.length+1) (la.length+1)) (Ep la (a+b) i)::s) (fun i=>i≤la.length) (fun i=>la.length - i) 0
  sB rfl rfl (zf1 _) ?_
 intro i hi;refine rZ (yL I (tZ (sQ ?_)));refine iP I (fun hlt=>?_) (fun hlt=>?_)
 ·rcases hca with ⟨rfl,ha⟩ | ⟨rfl,ha⟩
  ·exact absurd hlt (by simp)
  obtain rfl:i=0:=by simp at hi hlt; omega
  have hb1:=za4 hv Nat.zero_lt_one;refine kP (tN (sQ (bK (sW I (aT I (sW I (lM I (lU (iA aV di I I hb1 dC (by simp[slen])) ?_))))))));refine lK (eB jh I (za5 hv) (j:=0) I I) (lM I (lU (SU.eq (v':=.int .u64 (a:Int)) (zd5 I I) (zd6 (Value.int .u64) (by rw[Ct oM]; omega))) ?_));refine aT I (sQ (sW I (lM I (lU (eN aV I) (yL I (tZ ?_))))));refine iP I (fun hl=>?_) (fun hl=>?_)
  ·rcases hcb with ⟨rfl,hb⟩ | ⟨rfl,hb⟩
   ·exact absurd hl (by simp)
   have hb2:=za4 hu Nat.zero_lt_one;refine rG (lM I (lM I (lM I (lU (iA aV di I I hb2 dC (by simp[slen])) ?_))));refine lK (eB jh I (za5 hu) (j:=0) I I) (lU (SU.eq (v':=.int .u64 ((a+b:Nat):Int)) (zd5 I I) (zd6 (Value.int .u64) (by rw[Ct oM]; omega))) ?_);refine aT I (rG (lM I (lM I (lM I (lU (SU.eq (v':=.int .u64 ((a+b:Nat):Int)) (SU.and I I) (zd6 (Value.int .u64) (by rw[pF _ oM,Nat.mod_eq_of_lt h]))) ?_)))));refine lM I (lU (SU.eq (v':=.int .u64 0) (SU.shr I I dC) (zd6 (Value.int .u64) (jr _ _ dC dC h))) (lU (iA aV di I I I dC (by simp[slen])) ?_));refine oZ (sT (e:=fE) (a:=((a+b:Nat):Int)) (j:=0) 0 di I I I (bE I) I) (lA I (nL (bN (tN (rG (yD I (lM I (nL ?_))))))));exact ST.again 1 sB I I (lR _) Nat.zero_lt_one
  ·rcases hcb with ⟨rfl,hb⟩ | ⟨rfl,hb⟩
   rotate_left
   ·exact absurd hl (by simp)
   subst hb;rw[Nat.add_zero] at h ⊢;refine kP (tN (rG (lM I (lM I (lM I (lU (SU.eq (v':=.int .u64 ((a:Nat):Int)) (SU.and I I) (zd6 (Value.int .u64) (by rw[pF _ oM,Nat.mod_eq_of_lt h]))) ?_))))));refine lM I (lU (SU.eq (v':=.int .u64 0) (SU.shr I I dC) (zd6 (Value.int .u64) (jr _ _ dC dC h))) (lU (iA aV di I I I dC (by simp[slen])) ?_));refine oZ (sT (e:=fE) (a:=((a:Nat):Int)) (j:=0) 0 di I I I (bE I) I) (lA I (nL (bN (tN (rG (yD I (lM I (nL ?_))))))));exact ST.again 1 sB I I (lR _) Nat.zero_lt_one
 ·obtain rfl:i=la.length:=oM;have hlen:(Ep la (a+b) la.length).length=la.length+1:=by
   unfold Ep;split
   ·simp
   ·simp; omega
  have hfin:dL ((Ep la (a+b) la.length).set la.length 0)=ef (a+b):=by
   rcases hca with ⟨rfl,ha⟩ | ⟨rfl,ha⟩
   ·rcases hcb with ⟨rfl,hb⟩ | ⟨rfl,hb⟩
    ·subst ha hb; rfl
    ·simp at hle
   ·exact l6 _
  refine xI (tX (tX (bX (tN (sW I (lM I (lU (eN aV I) (lM I (lU (iA aV di I I I oM sL) (oZ (sT (e:=fE) (a:=0) (j:=la.length) 0 di I I I oM I) (tZ (sQ ?_))))))))))));refine SC.to (g':=g) (s':=rowA fE 140 (.slice (some ⟨b19,0,none⟩) (la.length+1) (la.length+1)) ((Ep la (a+b) la.length).set la.length 0)::s) (fun w hw=>hw) ?_;refine fS fun g1 hle1 hs1=>?_;refine rG (lM I (lW (cL call132 I (jt E g1 _ _ ((Ep la (a+b) la.length).set la.length 0) (by unfold SlA; rw[zh7,hlen]; rw[zh7,hlen] at hs1; exact hs1) (by rw[zh7]; omega))) ?_));rintro v55 _ _ ⟨rfl,rfl,hm⟩;refine aT I (rE ?_);rw[hfin] at hm;exact za6 (.inl I) results164 I ⟨I,hle1,hm⟩
def Cg (a b:Nat):Int:=if a<b then -1 else if b<a then 1 else 0
theorem vR (E:World)(g:PH)(s:Own)(v u:Value)(n m:Nat)(hv:SlA fE g v (ef n))(hu:SlA fE g u (ef m)) :
  Ctr Tryz.prog E 165 #[v,u] g s (fun r g' s'=>r=vi (Cg n m)∧g=g'∧s=s'):=by
 obtain ⟨p1,c1,rfl⟩:=za2 hv;obtain ⟨p2,c2,rfl⟩:=za2 hu
 rcases bw n with ⟨h1,ha⟩ | ⟨h1,ha⟩
 ·rcases bw m with ⟨h2,hb⟩ | ⟨h2,hb⟩
  ·rw[h1] at hv ⊢;rw[h2] at hu ⊢;subst ha hb;refine za9 (args:=[.slice p1 0 c1,.slice p2 0 c2]) func165 I ntmps165 (bE I) ?_;refine rZ (aT I (sQ (bK (sW I (lU (eN aV I) (lM I (lU (eN aV I) (yL I (aT I (cF I (sW I (lU (eN aV I) (lM I (lU (eN aV I) (lU (gR I I) (aT I (cF I (kP ?_))))))))))))))))));refine bN (tN (sQ (sW I (lU (eN aV I) (lU (sU I I oM) (aT I (bK ?_)))))));refine oP (ι:=Unit) (fun _=>[(5,vi (-1))]) (fun _=>g) (fun _=>s) (fun _=>True) (fun _=>0) () ⟨I,trivial⟩ I I trivial ?_;intro _ _;refine sQ (sW I (lU (gQ I I) (tZ (cF I (xI (tX (tX (bX (tN (rZ (aT I (rE ?_))))))))))));exact za6 (.inl I) results165 I ⟨I,I,I⟩
  ·rw[h1] at hv ⊢;rw[h2] at hu ⊢;subst ha;refine za9 (args:=[.slice p1 0 c1,.slice p2 1 c2]) func165 I ntmps165 (bE I) ?_;refine rZ (aT I (sQ (bK (sW I (lU (eN aV I) (lM I (lU (eN aV I) (yL I (aT I (cT I (rZ (aT I (rE (bR (tR ?_)))))))))))))));exact za6 (.inl I) results165 I ⟨zd6 vi (by unfold Cg; rw[zf5 oM]),I,I⟩
 ·rcases bw m with ⟨h2,hb⟩ | ⟨h2,hb⟩
  ·rw[h1] at hv ⊢;rw[h2] at hu ⊢;subst hb;refine za9 (args:=[.slice p1 1 c1,.slice p2 0 c2]) func165 I ntmps165 (bE I) ?_;refine rZ (aT I (sQ (bK (sW I (lU (eN aV I) (lM I (lU (eN aV I) (yL I (aT I (cF I (sW I (lU (eN aV I) (lM I (lU (eN aV I) (lU (gR I I) (aT I (cT I (sQ ?_))))))))))))))))));refine rG (aT I (rE (bR (tR ?_))));exact za6 (.inl I) results165 I ⟨zd6 vi (by unfold Cg; rw[zf4 oM,zf5 oM]),I,I⟩
  ·rw[h1] at hv ⊢;rw[h2] at hu ⊢;have hb1:=za4 hv Nat.zero_lt_one;have hb2:=za4 hu Nat.zero_lt_one;refine za9 (args:=[.slice p1 1 c1,.slice p2 1 c2]) func165 I ntmps165 (bE I) ?_;refine rZ (aT I (sQ (bK (sW I (lU (eN aV I) (lM I (lU (eN aV I) (yL I (aT I (cF I (sW I (lU (eN aV I) (lM I (lU (eN aV I) (lU (gR I I) (aT I (cF I (kP ?_))))))))))))))))));refine bN (tN (sQ (sW I (lU (eN aV I) (lU (sU I I oM) (aT I (bK ?_)))))));refine oP (ι:=Nat) (fun i=>[(0,.slice p1 1 c1),(1,.slice p2 1 c2),(5,vi ((i:Int) - 1))]) (fun _=>g) (fun _=>s) (fun i=>i≤1∧(i=0→n=m)) (fun i=>i) 1 sB I I ⟨lR _,fun h=>absurd h dC⟩ ?_;rintro i ⟨hi,hz⟩;refine sQ (sW I (lU (gQ I I) (tZ ?_)));refine iP I (fun hge=>?_) (fun hge=>?_)
   ·obtain rfl:i=1:=oM;refine kP (tN (sQ (bK (bK (sQ ?_)))));refine dW [] [(0,2),(1,2),(2,2),(3,1),(4,2),(5,2),(6,2),(7,1),(8,2),(9,2)] zd7 kR ?_;refine yM I (yM I (pU I (iA aV di I I hb1 dC (by simp[slen])) ?_));refine pK I (eB jh I (za5 hv) (j:=0) I I) (yM I (yM I (pU I (iA aV di I I hb2 dC (by simp[slen])) ?_)));refine pK I (eB jh I (za5 hu) (j:=0) I I) (pU I (lS I I) (pU I (aS I) (pN (tN ?_))));refine iP I (fun hlt=>?_) (fun hlt=>?_)
    ·refine rZ (aT I (rE (bR (bR (tR (tR (bR (tR ?_))))))));exact za6 (.inl I) results165 I ⟨zd6 vi (by unfold Cg; rw[zf5 oM]),I,I⟩
    ·refine sQ ?_;refine dW [] [(0,2),(1,2),(2,2),(3,1),(4,2),(5,2),(6,2),(7,1),(8,2),(9,2)] zd7 kR ?_;refine yM I (yM I (pU I (iA aV di I I hb1 dC (by simp[slen])) ?_));refine pK I (eB jh I (za5 hv) (j:=0) I I) (yM I (yM I (pU I (iA aV di I I hb2 dC (by simp[slen])) ?_)));refine pK I (eB jh I (za5 hu) (j:=0) I I) (pU I (gR I I) (pU I (aS I) (pN (tN ?_))));refine iP I (fun hgt=>?_) (fun hgt=>?_)
     ·refine rZ (aT I (rE (bR (bR (tR (tR (bR (tR ?_))))))));exact za6 (.inl I) results165 I ⟨zd6 vi (by unfold Cg; rw[zf4 oM,zf5 oM]),I,I⟩
     ·refine kP (bN (bN (tN (rG (lM I (lU (sU I I oM) (lA I (nL ?_))))))));exact ST.again 0 sB I I ⟨by decide,fun _=>by omega⟩ dC
   ·refine xI (tX (tX (bX (tN (rZ (aT I (rE ?_)))))));have hnm:=hz oM;exact za6 (.inl I) results165 I ⟨zd6 vi (by unfold Cg; rw[zf4 oM,zf4 oM]),I,I⟩
def Fq (la:List Int)(n:Nat)(i:Nat):List Int:=if i=0 then List.replicate la.length 0 else [(n:Int)]
theorem oW (E:World)(g:PH)(s:Own)(v u:Value)(a b:Nat)(hv:SlA fE g v (ef a))(hu:SlA fE g u (ef b))(hab:b≤a)(h:a<4294967296) :
  Ctr Tryz.prog E 166 #[v,u] g s (fun r g' s'=>s=s'∧Le g g'∧SlA fE g' r (ef (a - b))):=by
 obtain ⟨p1,c1,rfl⟩:=za2 hv;obtain ⟨p2,c2,rfl⟩:=za2 hu;have hl0:∀ k,(ef k).length≤1:=fun k=>by rcases bw k with ⟨h,-⟩ | ⟨h,-⟩ <;> rw[h] <;> simp
 have hl1:=hl0 a;have hl2:=hl0 b;have hca:=bw a;have hcb:=bw b;generalize ef a=la at *;generalize ef b=lb at *;refine za9 (args:=[.slice p1 la.length c1,.slice p2 lb.length c2]) func166 I ntmps166 (bE I) ?_;refine rZ (aT I (sW I (lU (eN aV I) (lW (mK fE 0 sty142 I I I oM oM) ?_))));rintro _ _ _ ⟨b11,rfl,rfl,rfl⟩;refine aT I (rZ (aT I (sQ (sW I (lU (eN aV I) (lM I (tZ (bK ?_))))))));refine oP (ι:=Nat) (fun i=>[(0,.slice p1 la.length c1),(1,.slice p2 lb.length c2),(5,.slice (some ⟨b11,0,none⟩) la.length la.length),(6,.int .u64 0),(13,vi la.length),(14,vi i)]) (fun _=>g) (fun i=>rowA fE 140 (.slice (some ⟨b11,0,none⟩) la.length la.length) (Fq la (a - b) i)::s) (fun i=>i≤la.length) (fun i=>la.length - i) 0
  sB rfl rfl (zf1 _) ?_
 intro i hi;refine rZ (yL I (tZ (sQ ?_)));refine iP I (fun hlt=>?_) (fun hlt=>?_)
 ·rcases hca with ⟨rfl,ha⟩ | ⟨rfl,ha⟩
  ·exact absurd hlt (by simp)
  obtain rfl:i=0:=by simp at hi hlt; omega
  have hb1:=za4 hv Nat.zero_lt_one;refine kP (tN (sQ (bK (sW I (aT I (sW I (lM I (lU (iA aV di I I hb1 dC (by simp[slen])) ?_))))))));refine lK (eB jh I (za5 hv) (j:=0) I I) (lM I (lU (SU.eq (v':=.int .u64 (a:Int)) (SU.subW I I) (zd6 (Value.int .u64) (by rw[Ct oM]; omega))) ?_));refine aT I (sQ (sW I (lM I (lU (eN aV I) (yL I (tZ ?_))))));refine iP I (fun hl=>?_) (fun hl=>?_)
  ·rcases hcb with ⟨rfl,hb⟩ | ⟨rfl,hb⟩
   ·exact absurd hl (by simp)
   have hb2:=za4 hu Nat.zero_lt_one;have hs:a - b<4294967296:=oM;refine rG (lM I (lM I (lM I (lU (iA aV di I I hb2 dC (by simp[slen])) ?_))));refine lK (eB jh I (za5 hu) (j:=0) I I) (lU (SU.eq (v':=.int .u64 ((a - b:Nat):Int)) (SU.subW I I) (zd6 (Value.int .u64) (by rw[Ct oM]; omega))) ?_);refine aT I (rG (lM I (lM I (lM I (lU (SU.eq (v':=.int .u64 ((a - b:Nat):Int)) (SU.and I I) (zd6 (Value.int .u64) (by rw[pF _ oM,Nat.mod_eq_of_lt hs]))) ?_)))));refine lM I (lU (SU.eq (v':=.int .u64 0) (SU.shr I I dC) (zd6 (Value.int .u64) (jr _ _ dC dC hs))) (lU (iA aV di I I I dC (by simp[slen])) ?_));refine oZ (sT (e:=fE) (a:=((a - b:Nat):Int)) (j:=0) 0 di I I I (bE I) I) (lA I (nL (bN (tN (rG (yD I (lM I (nL ?_))))))));exact ST.again 1 sB I I (lR _) Nat.zero_lt_one
  ·rcases hcb with ⟨rfl,hb⟩ | ⟨rfl,hb⟩
   rotate_left
   ·exact absurd hl (by simp)
   subst hb;rw[Nat.sub_zero];refine kP (tN (rG (lM I (lM I (lM I (lU (SU.eq (v':=.int .u64 ((a:Nat):Int)) (SU.and I I) (zd6 (Value.int .u64) (by rw[pF _ oM,Nat.mod_eq_of_lt h]))) ?_))))));refine lM I (lU (SU.eq (v':=.int .u64 0) (SU.shr I I dC) (zd6 (Value.int .u64) (jr _ _ dC dC h))) (lU (iA aV di I I I dC (by simp[slen])) ?_));refine oZ (sT (e:=fE) (a:=((a:Nat):Int)) (j:=0) 0 di I I I (bE I) I) (lA I (nL (bN (tN (rG (yD I (lM I (nL ?_))))))));exact ST.again 1 sB I I (lR _) Nat.zero_lt_one
 ·obtain rfl:i=la.length:=oM;have hlen:(Fq la (a - b) la.length).length=la.length:=by
   unfold Fq;split
   ·simp
   ·simp; omega
  have hfin:dL (Fq la (a - b) la.length)=ef (a - b):=by
   rcases hca with ⟨rfl,ha⟩ | ⟨rfl,ha⟩
   ·subst ha;rw[Nat.zero_sub]; rfl
   ·exact ia _
  refine xI (tX (tX (bX (tN (sQ (fS fun g1 hle1 hs1=>?_))))));refine rG (lM I (lW (cL call132 I (jt E g1 _ _ (Fq la (a - b) la.length) (by unfold SlA; rw[hlen]; rw[hlen] at hs1; exact hs1) oM)) ?_));rintro v42 _ _ ⟨rfl,rfl,hm⟩;refine aT I (rE ?_);rw[hfin] at hm;exact za6 (.inl I) results166 I ⟨I,hle1,hm⟩
end Go.Proofs.YtcfkpajlakidbaaGreatDoor
