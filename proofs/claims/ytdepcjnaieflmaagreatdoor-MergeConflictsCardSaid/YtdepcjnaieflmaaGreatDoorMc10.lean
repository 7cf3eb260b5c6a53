/- 10 -/
import Derived.Test.YtdepcjnaieflmaaGreatDoorMc09
import Derived.RangeFuncLeaves
import Derived.RangeFuncRecord
import Derived.RangeFuncSeq
import Derived.OrdersIn
import Derived.TacticsIn
import Derived.Laws.BytesString
import Derived.Laws.Strings
import Derived.Shelf.Strings.Trim
import Derived.ChangeKeysEq
set_option linter.unusedSimpArgs false
set_option linter.unusedVariables false
namespace Go.Proofs.YtdepcjnaieflmaaGreatDoor
open _root_.Go.Proofs.Tryz _root_.Go.Proofs.YtdepcjnaieflmaaGreatDoor.Tryz
open Go Go.Sy Go.Pl Go.Proofs
set_option maxRecDepth 100000
set_option maxHeartbeats 1000000
theorem ax.set {α β:Type}{R:α→β→Prop}{a:α}{b:β}(h:R a b):∀ {l:List α} {m:List β} (k:Nat),ax R l m→ax R (l.set k a) (m.set k b)
 | [],[],_,_=>trivial
 | _::_,_::_,0,c=>⟨h,c.2⟩
 | _::_,_::_,k+1,c=>⟨c.1,ax.set h k c.2⟩
 | [],_::_,_,c=>c.elim
 | _::_,[],_,c=>c.elim
def ShC (a b:Cl):Prop:=a.id=b.id∧a.dim=b.dim∧a.sides.Perm b.sides
def ShL (l m:List Cl):Prop:=∃ l1:List Cl,l1.Perm l∧ax ShC l1 m
theorem ShL.fits {l m:List Cl}(h:ShL l m)(b:aM l):aM m:=by
 obtain ⟨g,e,f⟩:=h;refine⟨by rw[← f.length,e.length_eq];exact b.1,fun c hc=>?_⟩;have:∀ {l m:List Cl},ax ShC l m→∀ c∈m,∃ d∈l,ShC d c:=by
  intro l;induction l with
  | nil=>intro m h c hc;cases m with | nil=>cases hc | cons _ _=>exact h.elim
  | cons x t ih =>
   intro m h c hc;cases m with
   | nil=>cases hc
   | cons y m =>
    rcases zf3.1 hc with rfl | hc
    ·exact⟨x,by simp,h.1⟩
    ·obtain ⟨d,hd,a⟩:=ih h.2 c hc;exact⟨d,by simp[hd],a⟩
 obtain ⟨d,hd,a⟩:=this f c hc;rw[← a.2.2.length_eq];exact b.2 d<|e.mem_iff.1 hd
end Go.Proofs.YtdepcjnaieflmaaGreatDoor
namespace Go.Sy
open Go
structure Md where
 ro:Option Nat
 ds:List Deferred
def wf (ro:Option Nat):Fence:={ fn:=fun _=>True,depth:=none,alive:=false,round:=ro }
def jE (a:Act):Act:={ a with defers:=[] }
theorem oS (a:Act):(jE a).eval=a.eval:=by funext x;cases x <;> rfl
theorem D3 (a:Act)(d:Option Tmp)(v:Value):jE (a.put d v)=(jE a).put d v:=by cases d <;> rfl
theorem qU (a:Act)(d:Option Tmp)(v:Value):(a.put d v).defers=a.defers:=by cases d <;> rfl
def Okd (ds:List Deferred)(N:Nat)(f:Fr)(a:Act):Prop:=a.defers=ds∧Ok N f (jE a)
section
variable {P:Program}{M:Md}{N:Nat}{E:World}{Q:Exit→Act→World→Prop}{f f':Fr}{g g':PH}{s s':Own}{ops:Array Oper}
theorem Okd.put {ds:List Deferred}{a:Act}(h:Okd ds N f a){d:Nat}(b:d<N)(v:Value):Okd ds N ((d,v)::f) (a.put (some d) v):=⟨h.1,by rw[D3];exact h.2.put b v⟩
theorem Okd.sub {ds:List Deferred}{a:Act}(h:Okd ds N f a)(b:Sub f' f):Okd ds N f' a:=⟨h.1,h.2.sub b⟩
theorem Okd.ev {ds:List Deferred}{a:Act}(h:Okd ds N f a){x:Operand}{v:Value}(b:Sy.ev f x=some v):a.eval x=v:=by rw[← oS];exact h.2.ev b
def XC (P:Program)(M:Md)(N:Nat)(E:World)(c:Code)(Q:Exit→Act→World→Prop)(f:Fr)(g:PH)(s:Own):Prop:=∀ a w,Okd M.ds N f a→At E g s w→c.wpIn (wf M.ro) 0 P Q a w
def XT (M:Md)(N:Nat)(E:World)(Q:Exit→Act→World→Prop)(e:Exit)(f:Fr)(g:PH)(s:Own):Prop:=∀ a w,Okd M.ds N f a→At E g s w→Q e a w
def XL (P:Program)(M:Md)(N:Nat)(E:World)(ops:Array Oper)(Q:Exit→Act→World→Prop)(l:List Oper)(f:Fr)(g:PH)(s:Own):Prop:=∀ a w,Okd M.ds N f a→At E g s w→wpListIn (wf M.ro) 0 P ops Q l a w
def XO (P:Program)(M:Md)(N:Nat)(E:World)(o:Oper)(f:Fr)(g:PH)(s:Own)(K:Value→PH→Own→Prop):Prop :=
 ∀ a w,Okd M.ds N f a→At E g s w→∀ (Q:Exit→Act→World→Prop) (next:Act→World→Prop),
  (∀ v g' s' w',K v g' s'→At E g' s' w'→next (a.put o.dst v) w')→o.wpIn (wf M.ro) 0 P a w next Q
theorem XC.to {c:Code}(h:∀ w,At E g s w→At E g' s' w)(hc:XC P M N E c Q f g' s'):XC P M N E c Q f g s:=fun a w b d=>hc a w b (h w d)
theorem XT.drop {e:Exit}(b:s'.Sublist s)(h:XT M N E Q e f g s'):XT M N E Q e f g s:=fun a w c d=>h a w c (d.sublist b)
theorem XT.to {e:Exit}(h:∀ w,At E g s w→At E g' s' w)(hc:XT M N E Q e f g' s'):XT M N E Q e f g s:=fun a w b c=>hc a w b (h w c)
theorem XL.to {l:List Oper}(h:∀ w,At E g s w→At E g' s' w)(hc:XL P M N E ops Q l f g' s'):XL P M N E ops Q l f g s:=fun a w b c=>hc a w b (h w c)
theorem XC.facts {c:Code}(h:(∃ w,At E g s w)→XC P M N E c Q f g s):XC P M N E c Q f g s:=fun a w d b=>h ⟨w,b⟩ a w d b
theorem XL.facts {l:List Oper}(h:(∃ w,At E g s w)→XL P M N E ops Q l f g s):XL P M N E ops Q l f g s:=fun a w c b=>h ⟨w,b⟩ a w c b
theorem XT.facts {e:Exit}(h:(∃ w,At E g s w)→XT M N E Q e f g s):XT M N E Q e f g s:=fun a w c b=>h ⟨w,b⟩ a w c b
theorem XC.skip (h:XT M N E Q .normal f g s):XC P M N E .skip Q f g s:=fun a w b c=>wpIn_skip (h a w b c)
theorem XC.ret (h:XT M N E Q .ret f g s):XC P M N E .ret Q f g s:=fun a w b c=>wpIn_ret (h a w b c)
theorem XC.exit {id:Nat}(h:XT M N E Q (.exit id) f g s):XC P M N E (.exit id) Q f g s:=fun a w b c=>wpIn_exit (h a w b c)
theorem XC.label {l:Nat}(h:XT M N E Q .normal f g s):XC P M N E (.label l) Q f g s:=fun a w b c=>wpIn_label (h a w b c)
theorem XC.seq {x y:Code}(h:XC P M N E x (Exit.then (y.wpIn (wf M.ro) 0 P Q) Q) f g s):XC P M N E (.seq x y) Q f g s:=fun a w b c=>wpIn_seq (h a w b c)
theorem XC.block {id:Nat}{c:Code}(h:XC P M N E c (Exit.inBlock id Q) f g s):XC P M N E (.block id c) Q f g s:=fun a w b d=>wpIn_block (h a w b d)
theorem XC.cond {c:Operand}{x y:Code}{t:Bool}(hc:ev f c=some (.bool t))(h:XC P M N E (if t then x else y) Q f g s):XC P M N E (.cond c x y) Q f g s :=
 fun a w b d=>wpIn_cond (b.ev hc)<|h a w b d
theorem XC.condT {c:Operand}{x y:Code}(hc:ev f c=some (.bool true))(h:XC P M N E x Q f g s):XC P M N E (.cond c x y) Q f g s:=XC.cond hc h
theorem XC.condF {c:Operand}{x y:Code}(hc:ev f c=some (.bool false))(h:XC P M N E y Q f g s):XC P M N E (.cond c x y) Q f g s:=XC.cond hc h
theorem XC.ifB {c:Operand}{x y:Code}{t:Bool}(hc:ev f c=some (.bool t))(a:t=true→XC P M N E x Q f g s)(b:t=false→XC P M N E y Q f g s) :
  XC P M N E (.cond c x y) Q f g s:=by
 cases t
 ·exact XC.condF hc<|b I
 ·exact XC.condT hc<|a I
theorem XC.ifP {c:Operand}{x y:Code}{p:Prop}[Decidable p](hc:ev f c=some (.bool<|decide p))(a:p→XC P M N E x Q f g s)(b:¬ p→XC P M N E y Q f g s) :
  XC P M N E (.cond c x y) Q f g s :=
 XC.ifB hc (fun h=>a<|zg5 h) (fun h=>b<|of_decide_eq_false h)
theorem XT.thenN {c:Code}(h:XC P M N E c Q f g s):XT M N E (Exit.then (c.wpIn (wf M.ro) 0 P Q) Q) .normal f g s:=h
theorem XT.thenX {K:Act→World→Prop}{id:Nat}(h:XT M N E Q (.exit id) f g s):XT M N E (Exit.then K Q) (.exit id) f g s:=h
theorem XT.thenR {K:Act→World→Prop}(h:XT M N E Q .ret f g s):XT M N E (Exit.then K Q) .ret f g s:=h
theorem XT.blockN {id:Nat}(h:XT M N E Q .normal f g s):XT M N E (Exit.inBlock id Q) .normal f g s:=h
theorem XT.blockX {id:Nat}(h:XT M N E Q .normal f g s):XT M N E (Exit.inBlock id Q) (.exit id) f g s:=fun a w b c=>by simpa [Exit.inBlock] using h a w b c
theorem XT.blockO {id j:Nat}(b:j≠id)(h:XT M N E Q (.exit j) f g s):XT M N E (Exit.inBlock id Q) (.exit j) f g s:=fun a w c d=>by
 simpa [Exit.inBlock,b] using h a w c d
def GV {ι:Type}(ds:List Deferred)(N:Nat)(E:World)(F:ι→Fr)(G:ι→PH)(S:ι→Own)(J:ι→Prop)(a:Act)(w:World):Prop:=∃ i,Okd ds N (F i) a∧At E (G i) (S i) w∧J i
theorem XC.cut {ι:Type}{x y:Code}(F:ι→Fr)(G:ι→PH)(S:ι→Own)(J:ι→Prop)(b:XC P M N E x (Exit.then (GV M.ds N E F G S J) Q) f g s)
  (c:∀ i,J i→XC P M N E y Q (F i) (G i) (S i)):XC P M N E (.seq x y) Q f g s:=by
 refine XC.seq fun a w d j=>Code.wpIn_mono (fun e k w' h=>?_)<|b a w d j;cases e <;> first | exact h | (obtain ⟨i,l,m,n⟩:=h;exact c i n k w' l m)
theorem XT.mid {ι:Type}{F:ι→Fr}{G:ι→PH}{S:ι→Own}{J:ι→Prop}(i:ι)(a:Sub (F i) f)(hg:G i=g)(b:S i=s)(c:J i) :
  XT M N E (Exit.then (GV M.ds N E F G S J) Q) .normal f g s:=fun _ _ d e=>⟨i,d.sub a,by rw[hg,b];exact e,c⟩
def EB {ι:Type}(ds:List Deferred)(N:Nat)(E:World)(F:ι→Fr)(G:ι→PH)(S:ι→Own)(J:ι→Prop)(μ:ι→Nat)(i:ι)(a:Act)(w:World):Prop :=
 ∃ j,Okd ds N (F j) a∧At E (G j) (S j) w∧J j∧μ j<μ i
theorem XT.again {ι:Type}{F:ι→Fr}{G:ι→PH}{S:ι→Own}{J:ι→Prop}{μ:ι→Nat}{i:ι}(j:ι)(a:Sub (F j) f)(hg:G j=g)(b:S j=s)(c:J j)(d:μ j<μ i) :
  XT M N E (Exit.then (EB M.ds N E F G S J μ i) Q) .normal f g s:=fun _ _ e k=>⟨j,e.sub a,by rw[hg,b];exact k,c,d⟩
theorem XC.loop {ι:Type}{c:Code}(F:ι→Fr)(G:ι→PH)(S:ι→Own)(J:ι→Prop)(μ:ι→Nat)(i:ι)(B:Sub (F i) f)(hg:G i=g)(C:S i=s)(D:J i)
  (round:∀ i,J i→XC P M N E c (Exit.then (EB M.ds N E F G S J μ i) Q) (F i) (G i) (S i)):XC P M N E (.loop c) Q f g s:=by
 intro a w t H;have key:∀ n,∀ (i:ι) (a:Act) (w:World),μ i=n→Okd M.ds N (F i) a→At E (G i) (S i) w→J i→∀ (b:Frame) (k:List Item) (cs:List Frame),b.roundOf=(wf M.ro).round→(wf M.ro).fn b.fn→(wf M.ro).room (cs.length+1+0) →
   ∃ e r w',Q e r w'∧ArrivesIn (Machine.fenced P<|wf M.ro) P (lone (b.atR a<|.code c :: .inLoop c::k) cs w) b k cs e r w':=by
  intro n;induction n using Nat.strongRecOn with
  | _ n ih =>
   intro i a w hn t K L b k cs m hb hr;obtain ⟨e,p,q,hq,d⟩:=round i L a w t K b (.inLoop c::k) cs m hb hr;cases e with
   | normal =>
    obtain ⟨j,u,v,y,z⟩:=hq;obtain ⟨O,R,T,A,o⟩:=ih (μ j) (hn ▸ z) j p q rfl u v y b k cs m hb hr;exact⟨O,R,T,A,.of_steps (StepsIn.trans d<|.one (fenced_calm hb hr I) stepR_inLoop) o⟩
   | exit id=>exact⟨_,p,q,hq,.pass (x:=.inLoop c) rfl (fun _ _=>.inl<|by simp) d⟩
   | goto l=>exact⟨_,p,q,hq,.pass (x:=.inLoop c) rfl (fun _ _=>.inl<|by simp) d⟩
   | ret=>exact⟨_,p,q,hq,.pass (x:=.inLoop c) rfl (fun _ _=>.inl<|by simp) d⟩
   | panic ch=>exact⟨_,p,q,hq,.pass (x:=.inLoop c) rfl (fun _ _=>.inl<|by simp) d⟩
   | outgrown=>exact⟨_,p,q,hq,.pass (x:=.inLoop c) rfl (fun _ _=>.inl<|by simp) d⟩
 intro b k cs m hb hr;obtain ⟨e,r,w',hq,d⟩:=key _ i a w rfl (t.sub B) (by rw[hg,C];exact H) D b k cs m hb hr;exact⟨e,r,w',hq,.of_steps (.one (fenced_calm hb hr I) stepR_loop) d⟩
theorem XC.region {id:Nat}(h:XL P M N E ops Q ops.toList f g s):XC P M N E (.region id ops false) Q f g s:=fun a w b c=>wpIn_region_list (h a w b c)
theorem XL.nil (h:XT M N E Q .normal f g s):XL P M N E ops Q [] f g s:=fun a w b c=>h a w b c
theorem SO.xo {o:Oper}{K:Value→PH→Own→Prop}(m:∀ c,o.op ≠ .defer c)(h:SO P N E o f g s K):XO P M N E o f g s K:=by
 intro a w t u Q next hn;refine⟨fun _ _=>trivial,?_⟩;rw[Oper.semAt_eq _ _ _ m];have b:=h (jE a) w t.2 u (fun _ _ _=>False) (fun q w'=>q.defers=[]∧∃ v g' s',q=(jE a).put o.dst v∧K v g' s'∧At E g' s' w') (fun v g' s' w' p i=>⟨qU _ _ _,v,g',s',rfl,p,i⟩);unfold Oper.wp at b;rw[oS] at b;have key:∀ v w',(((jE a).put o.dst v).defers=[]∧∃ v' g' s',(jE a).put o.dst v=(jE a).put o.dst v'∧K v' g' s'∧At E g' s' w')→next (a.put o.dst v) w':=by
  rintro v w' ⟨_,v',g',s',j,p,i⟩;have:a.put o.dst v=a.put o.dst v':=by
   cases hd:o.dst with
   | none=>rfl
   | some d =>
    rw[hd] at j;have l:=ze4 Act.tmps j;cases a;simp only[Act.put,jE] at l ⊢;rw[l]
  rw[this];exact hn v' g' s' w' p i
 generalize (execOp a.eval o).run P w=r at b;cases r with
 | ok n w' =>
  cases n <;> simp only[Oper.upon] at b <;> first | exact b.elim | skip
  ·exact key _ _ b
  ·exact key _ _ b
  ·rename_i f' args;exact⟨fun h=>(by cases h),(CallsIn.more (n:=0) ((callsIn_wide (n:=0)).2<|Calls.mono b (fun e k j=>by cases e with | returned v=>exact key _ _ j | panicked c=>exact j.elim | outgrown=>obtain ⟨_,_,l⟩:=j;exact l.elim))<|zf8 _)⟩
  ·exact absurd b.1 (by rw[qU];simp)
  ·exact⟨fun h=>(by cases h),fun c cs _=>let ⟨v,k,r,st⟩:=b c cs;⟨v,k,key _ _ r,stepsIn_wide.2 st⟩⟩
 | halt x w'=>cases x <;> simp only[Oper.upon] at b <;> exact b.elim
theorem XL.step {o:Oper}{l:List Oper}{K:Value→PH→Own→Prop}(hg:Gd N ops f o true)(i:XO P M N E o f g s K)
  (h:∀ v g' s' a,K v g' s'→Okd M.ds N f a→∃ f',Okd M.ds N f' (a.put o.dst v)∧XL P M N E ops Q l f' g' s'):XL P M N E ops Q (o::l) f g s:=by
 intro a w b j;unfold wpListIn;have c:Region.wanted o (yielded ops a.tmps)=true:=hg (jE a) b.2;rw[zg3 c];refine i a w b j Q _ fun v g' s' w' k d=>?_;obtain ⟨f',e,hn⟩:=h v g' s' a k b;exact hn _ _ e d
theorem XL.x {d:Nat}{op:Op}{ty:TypeId}{pos:String}{af:Array Edge}{l:List Oper}{K:Value→PH→Own→Prop}(a:XO P M N E ⟨some d,op,ty,pos,af,none⟩ f g s K)(hd:d<N)
  (h:∀ v g' s',K v g' s'→XL P M N E ops Q l ((d,v)::f) g' s'):XL P M N E ops Q (⟨some d,op,ty,pos,af,none⟩::l) f g s :=
 XL.step (Gd.none rfl) a fun v g' s' _ b c=>⟨_,c.put hd v,h v g' s' b⟩
theorem XL.go {d:Nat}{op:Op}{ty:TypeId}{pos:String}{af:Array Edge}{gd:Option (Nat×Bool)}{l:List Oper}{K:Value→PH→Own→Prop}(hg:Gd N ops f ⟨some d,op,ty,pos,af,gd⟩ true)(b:SO P N E ⟨some d,op,ty,pos,af,gd⟩ f g s K)(hd:d<N)
  (h:∀ v g' s',K v g' s'→XL P M N E ops Q l ((d,v)::f) g' s') (a:∀ c,op ≠ .defer c:=by intro _ h;cases h):XL P M N E ops Q (⟨some d,op,ty,pos,af,gd⟩::l) f g s :=
 XL.step hg (b.xo a) fun v g' s' _ e i=>⟨_,i.put hd v,h v g' s' e⟩
theorem XL.o {d:Nat}{op:Op}{ty:TypeId}{pos:String}{af:Array Edge}{l:List Oper}{K:Value→PH→Own→Prop}(b:SO P N E ⟨some d,op,ty,pos,af,none⟩ f g s K)(hd:d<N)
  (h:∀ v g' s',K v g' s'→XL P M N E ops Q l ((d,v)::f) g' s') (a:∀ c,op ≠ .defer c:=by intro _ h;cases h):XL P M N E ops Q (⟨some d,op,ty,pos,af,none⟩::l) f g s :=
 XL.go (Gd.none rfl) b hd h a
theorem XL.on {op:Op}{ty:TypeId}{pos:String}{af:Array Edge}{l:List Oper}{K:Value→PH→Own→Prop}(b:SO P N E ⟨none,op,ty,pos,af,none⟩ f g s K)
  (h:∀ v g' s',K v g' s'→XL P M N E ops Q l f g' s') (a:∀ c,op ≠ .defer c:=by intro _ h;cases h):XL P M N E ops Q (⟨none,op,ty,pos,af,none⟩::l) f g s :=
 XL.step (Gd.none rfl) (b.xo a) fun v g' s' _ d e=>⟨f,e,h v g' s' d⟩
theorem XL.gq {d:Nat}{op:Op}{ty:TypeId}{pos:String}{af:Array Edge}{gd:Option (Nat×Bool)}{l:List Oper}{v:Value}(hg:Gd N ops f ⟨some d,op,ty,pos,af,gd⟩ true)(hq:SQ P N E ⟨some d,op,ty,pos,af,gd⟩ f g s v)(hd:d<N)
  (h:XL P M N E ops Q l ((d,v)::f) g s) (a:∀ c,op ≠ .defer c:=by intro _ h;cases h):XL P M N E ops Q (⟨some d,op,ty,pos,af,gd⟩::l) f g s :=
 XL.go hg hq.so hd (fun v' g' s' ⟨b,e,e3⟩=>by subst b;subst e;subst e3;exact h) a
theorem XL.q {d:Nat}{op:Op}{ty:TypeId}{pos:String}{af:Array Edge}{l:List Oper}{v:Value}(hq:SQ P N E ⟨some d,op,ty,pos,af,none⟩ f g s v)(hd:d<N)
  (h:XL P M N E ops Q l ((d,v)::f) g s) (a:∀ c,op ≠ .defer c:=by intro _ h;cases h):XL P M N E ops Q (⟨some d,op,ty,pos,af,none⟩::l) f g s:=XL.gq (Gd.none rfl) hq hd h a
theorem XL.gu {d:Nat}{op:Op}{ty:TypeId}{pos:String}{af:Array Edge}{gd:Option (Nat×Bool)}{l:List Oper}{v:Value}(hg:Gd N ops f ⟨some d,op,ty,pos,af,gd⟩ true)(hq:SU P N ⟨some d,op,ty,pos,af,gd⟩ f v)(hd:d<N)
  (h:XL P M N E ops Q l ((d,v)::f) g s) (a:∀ c,op ≠ .defer c:=by intro _ h;cases h):XL P M N E ops Q (⟨some d,op,ty,pos,af,gd⟩::l) f g s:=XL.gq hg hq.sq hd h a
theorem XL.u {d:Nat}{op:Op}{ty:TypeId}{pos:String}{af:Array Edge}{l:List Oper}{v:Value}(hq:SU P N ⟨some d,op,ty,pos,af,none⟩ f v)(hd:d<N)
  (h:XL P M N E ops Q l ((d,v)::f) g s) (a:∀ c,op ≠ .defer c:=by intro _ h;cases h):XL P M N E ops Q (⟨some d,op,ty,pos,af,none⟩::l) f g s:=XL.q hq.sq hd h a
theorem XL.off {d:Nat}{op:Op}{ty:TypeId}{pos:String}{af:Array Edge}{gd:Option (Nat×Bool)}{l:List Oper}(hg:Gd N ops f ⟨some d,op,ty,pos,af,gd⟩ false)(hd:d<N)
  (h:XL P M N E ops Q l ((d,undef)::f) g s):XL P M N E ops Q (⟨some d,op,ty,pos,af,gd⟩::l) f g s:=by
 intro a w c e;unfold wpListIn;have b:Region.wanted (⟨some d,op,ty,pos,af,gd⟩:Oper) (yielded ops a.tmps)=false:=hg (jE a) c.2;rw[zg2 (by rw[b];simp)];exact⟨fun _ _=>trivial,h _ _ (c.put hd undef) e⟩
theorem At.obj {w:World}{b i:Nat}{o o':Obj}(h:At E g s w)(c:s[i]?=some (pt b o)):At E g (s.set i<|pt b o') (w.putObj b o'):=by
 have d:=h.fresh _ (zg4 c) b rfl;refine h.turn c I ⟨I,Nat.le_refl _⟩ I (by simp[World.putObj]) (fun k _ f=>World.putObj_heap_other<|fun e=>f<|by simp[pt,e]) ?_ (fun j a=>?_)
 ·simp only[pt,Option.bind_some];exact World.putObj_heap_same d.2
 ·simp only[pt,zg9] at a;subst a;exact⟨by simpa [World.putObj] using d.2,.inl I⟩
theorem At.here {w:World}{b i:Nat}{o:Obj}(h:At E g s w)(a:s[i]?=some (pt b o)):w.heap[b]?=some o:=by
 have:=h.own _<|zg4 a;simpa [pt] using this
end
def wt (P:Program)(E:World)(l:Nat)(args:Array Value)(g:PH)(s:Own)(R:Value→PH→Own→Prop):Prop :=
 ∀ w,At E g s w→YieldAt Fence.wide 0 P l args w fun e w'=>∃ v g' s',e = .returned v∧At E g' s' w'∧R v g' s'
def FP (P:Program)(E:World)(gf:FuncId)(lb:List Value){α:Type}(encs:α→List Value)(xs:List α)(g0:PH):Prop :=
 ∀ (l:Nat) (ι:Type) (G:ι→PH) (S:ι→Own) (J:List α→ι→Prop) (i0:ι),J [] i0→(∀ pre i,J pre i→Le g0 (G i)) →
  (∀ pre x suf i sx,xs=pre++x::suf→J pre i→wt P E l (encs x).toArray (G i) (S i++sx) (fun v g' s'=>v = .bool true∧∃ j,J (pre++[x]) j∧g'=G j∧s'=S j++sx)) →
  ∀ sx,Ctr P E gf (.func (.yield l) #[] #[]::lb).toArray (G i0) (S i0++sx) (fun _ g' s'=>∃ j,J xs j∧g'=G j∧s'=S j++sx)
section
variable {P:Program}{M:Md}{N:Nat}{E:World}{Q:Exit→Act→World→Prop}{f:Fr}{g:PH}{s:Own}{dst:Option Tmp}{ty:TypeId}{pos:String}{af:Array Edge}{gd:Option (Nat×Bool)}
theorem XO.yield {x:Operand}{l:List Operand}{b:Array TypeId}{vs:List Value}{k:Nat}{R:Value→PH→Own→Prop}(j:ev f x=some (.func (.yield k) #[] #[]))(hl:evs f l=some vs)(m:wt P E k vs.toArray g s R) :
  XO P M N E ⟨dst,.call ⟨.value x,l.toArray,b⟩,ty,pos,af,gd⟩ f g s R:=by
 intro a w i n Q next hn;refine⟨fun _ _=>trivial,?_⟩;rw[Oper.semAt_eq _ _ _ (fun _ h=>by cases h)];obtain ⟨fn,tmps,assign,body,o,p⟩:=m w n;have q:a.eval x = .func (.yield k) #[] #[]:=i.ev j;have r:l.map a.eval=vs:=by have:=i.2.evs hl;rwa [oS] at this
 have t:(execOp a.eval ⟨dst,.call ⟨.value x,l.toArray,b⟩,ty,pos,af,gd⟩).run P w = .ok (.round k fn tmps assign body) w:=by
  simp only[execOp,resolve,q,List.map_toArray,r];simp[Deferred.ofValue,Sem.run_bind,invoke,o]
 rw[t];refine⟨fun h=>(by cases h),RoundIn.mono p fun e w' u=>?_⟩;obtain ⟨v,g',s',rfl,c,d⟩:=u;exact hn v g' s' w' d c
theorem Ctr.ofX {n:FuncId}{fn:Func}{c:Code}{args:List Value}{R:Value→PH→Own→Prop}
  (d:P.funcs[n]?=some fn) (hb:fn.body=some c) (e:fn.ntmps=N) (f:args.length≤N)
  (h:XC P ⟨none,[]⟩ N E c (bodyPostM (wf none) 0 P fn<|ne E R) (mE 0 args) g s):Ctr P E n args.toArray g s R:=by
 intro w i;refine (callsIn_wide (n:=0)).1<|callsIn_of_wp_marks (F:=wf none) d hb trivial (h _ w ⟨I,⟨I,?_,fun t v j=>?_⟩⟩ i) I
 ·simp[jE,e];omega
 ·obtain ⟨_,a⟩:=j9 args 0 t v j;have b:t<args.length:=(zf7.1<|by simpa using a).1;simp only[Nat.sub_zero] at a;obtain ⟨_,k⟩:=zf7.1 a;simp[jE,Array.getElem?_append,b,k]
theorem XT.leave0 {fn:Func}{R:Value→PH→Own→Prop}{e:Exit}(c:e = .ret∨e = .normal)(h:ST N E (bodyPost P fn<|ne E R) e f g s):XT ⟨none,[]⟩ N E (bodyPostM (wf none) 0 P fn<|ne E R) e f g s:=by
 intro a w b d;have i:=h (jE a) w b.2 d
 rcases c with rfl | rfl
 all_goals
  obtain ⟨_,v,j,k⟩:=i;show LeavesInM _ _ _ _ _ _ a.defers _ _;rw[b.1];exact⟨v,j,k⟩
theorem XT.leave1 {fn:Func}{R:Value→PH→Own→Prop}{e:Exit}{D:Nat}(j:e = .ret∨e = .normal)(h:ST N E (bodyPost P fn<|ne E R) e f g s) :
  XT ⟨none,[⟨.collected D,#[]⟩]⟩ N E (bodyPostM (wf none) 0 P fn<|ne E R) e f g (pt D (.deferred<|some [])::s):=by
 intro a w c d;have k:w.heap[D]?=some (.deferred<|some []):=At.here (i:=0) d rfl;have b:=(At.obj (i:=0) (o':=.deferred none) d rfl).sublist<|zj3 _ _;have l:=h (jE a) _ c.2 b
 rcases j with rfl | rfl
 all_goals
  obtain ⟨_,v,m,n⟩:=l;show LeavesInM _ _ _ _ _ _ a.defers _ _;rw[c.1];exact⟨by simp,.inl ⟨D,_,I,run_takeDeferred k,v,m,n⟩⟩
theorem rX {a:Act}{t:Nat}{u:Value}(h:Ok N f (jE a))(b:t<N):Ok N ((t,u)::f) { tmps:=((#[t]:Array Tmp).zip [u].toArray).foldl (fun t (p,v)=>t.setIfInBounds p v) a.tmps,defers:=[] }:=by
 have:=h.put b u;simpa [Act.put,jE] using this
theorem Ff {a:Act}{t b:Nat}{u c:Value}(h:Ok N f (jE a))(e:t<N)(d:b<N):Ok N ((b,c)::(t,u)::f) { tmps:=((#[t,b]:Array Tmp).zip [u,c].toArray).foldl (fun t (p,v)=>t.setIfInBounds p v) a.tmps,defers:=[] }:=by
 have:=(h.put e u).put d c;simpa [Act.put,jE] using this
def y9 {α ι:Type}(E:World)(G:ι→PH)(S:ι→Own)(J:List α→ι→Prop)(pre:List α)(x:α)(sx:Own):Exit→Act→World→Prop:=fun e _ w'=>e = .normal∧∃ j,At E (G j) (S j++sx) w'∧J (pre++[x]) j
def uZ {N:Nat}(E:World)(g:PH)(s:Own)(fb:Fr):Exit→Act→World→Prop:=fun e a' w'=>e = .normal∧Okd [] N fb a'∧At E g s w'
theorem XT.roundEnd {α ι:Type}{G:ι→PH}{S:ι→Own}{J:List α→ι→Prop}{pre:List α}{x:α}{a:Own}(j:ι)(hg:G j=g)(b:S j++a=s)(c:J (pre++[x]) j):XT M N E (y9 E G S J pre x a) .normal f g s:=fun _ _ _ d=>⟨rfl,j,by rw[hg,b];exact d,c⟩
theorem XT.assignEnd {a:Fr}{ro:Option Nat}(b:Sub a f):XT ⟨ro,[]⟩ N E (uZ (N:=N) E g s a) .normal f g s:=fun _ _ c d=>⟨rfl,c.sub b,d⟩
theorem XC.rangeFunc {α ι:Type}{q:Operand}{ps:Array Tmp}{assign body:Code}{y:FuncId}{z:List Value}{encs:α→List Value}{xs:List α}{g0:PH}(G:ι→PH)(S:ι→Own)(J:List α→ι→Prop)(i0:ι)(c:Own)(fa:α→Fr)(fb:List α→α→ι→Fr)
  (a0:M.ro=none) (hg:ev f q=some (.func (.func y) #[] z.toArray)) (eg:∀ args w,(callFunc y args).run P w = .ok (.enter y args) w) (a2:∀ x,(encs x).length=ps.size)
  (hG:G i0=g) (hS:S i0++c=s) (U:FP P E y z encs xs g0) (A:∀ pre i,J pre i→Le g0 (G i)) (h0:J [] i0)
  (a4:∀ x a,Ok N f (jE a)→Ok N (fa x) { tmps:=(ps.zip (encs x).toArray).foldl (fun t (p,v)=>t.setIfInBounds p v) a.tmps,defers:=[] })
  (m:∀ l pre x i B,J pre i→XC P ⟨some l,[]⟩ N E assign (uZ (N:=N) E (G i) (S i++B)<|fb pre x i) (fa x) (G i) (S i++B))
  (C:∀ l pre x F i B,xs=pre++x::F→J pre i→XC P ⟨some l,[]⟩ N E body (y9 E G S J pre x B) (fb pre x i) (G i) (S i++B))
  (H:∀ D j,J xs j→XT ⟨none,⟨.collected D,#[]⟩::M.ds⟩ N E Q .normal f (G j) (pt D (.deferred<|some [])::(S j++c))):XC P M N E (.rangeFunc q ps assign body) Q f g s:=by
 subst hG hS;intro a w ha hw;rw[a0];refine wpIn_rangeFunc ?_;intro fn _;obtain ⟨rec,b⟩:∃ rec:LoopState→Option Code→Loop,rec=fun st pe=>{ state:=st,pending:=pe,fn,tmps:=a.tmps,params:=ps,assign,body,defers:=w.heap.size }:=⟨_,rfl⟩;obtain ⟨L,hL⟩:∃ L,L=w.heap.size+1:=⟨_,rfl⟩;obtain ⟨D,hD⟩:∃ D,D=w.heap.size:=⟨_,rfl⟩;obtain ⟨W1,V⟩:∃ W1,(w.alloc<|.deferred<|some []).alloc (.loop<|rec .ready none)=W1:=⟨_,rfl⟩;have hA:At E (G i0) (pt L (.loop<|rec .ready none)::pt D (.deferred<|some [])::(S i0++c)) W1:=by
  rw[← V,hL,hD];have K:At E (G i0) (pt w.heap.size (.deferred<|some [])::(S i0++c)) (w.alloc<|.deferred<|some []):=hw.alloc (e:=pt w.heap.size<|.deferred<|some []) rfl rfl;have O:=K.alloc (e:=pt (w.alloc<|.deferred<|some []).heap.size<|.loop<|rec .ready none) rfl rfl;rw[World.size_alloc] at O;exact O
 obtain ⟨S2,o⟩:∃ S2:ι→Own,S2=fun i=>S i++(pt L (.loop<|rec .ready none)::pt D (.deferred<|some [])::c):=⟨_,rfl⟩;have a5:At E (G i0) (S2 i0++[]) W1:=by
  rw[o,zc7];dsimp only;refine hA.perm ?_;have K:(pt L (.loop<|rec .ready none)::pt D (.deferred<|some [])::(S i0++c))=[pt L<|.loop<|rec .ready none,pt D<|.deferred<|some []]++(S i0++c):=rfl;have O:S i0++(pt L (.loop<|rec .ready none)::pt D (.deferred<|some [])::c)=S i0++([pt L<|.loop<|rec .ready none,pt D<|.deferred<|some []]++c):=rfl;rw[K,O,← zh1,← zh1];exact List.perm_append_comm.append_right _
 refine⟨L,[{ target:=.collected D,args:=#[] }],W1,{ target:=.fn (.func y) z.toArray,args:=#[.func (.yield L) #[] #[]] },W1,y,(.func (.yield L) #[] #[]::z).toArray,W1,?_,?_,fun _ _=>trivial,?_,fun h=>(by cases h),?_⟩
 ·rw[← V,b,hL,hD];exact run_enterLoop_outer _ _ _ _ _
 ·have K:a.eval q = .func (.func y) #[] z.toArray:=ha.ev hg;simp only[resolve,K];simp[go_sem]
 ·have:(#[.func (.yield L) #[] #[]]++z.toArray:Array Value)=(.func (.yield L) #[] #[]::z).toArray:=by simp
  simp[invoke,go_sem,eg]
 ·refine (callsIn_wide (n:=0 - 1)).2<|(U L ι G S2 J i0 h0 A ?_ [] W1 a5).mono ?_
  ·intro pre x F i B a9 hJ W hW;rw[o] at hW;simp only[zh1,List.cons_append] at hW;have b5:(S i).length=(S i).length:=rfl;have gl:∀ (i:ι) (u k:Ent) (r:Own),(S i++u::k::r)[(S i).length]?=some u:=fun i u k r=>by simp
   have hl:=hW.here<|gl i _ _ _;have hy:=run_yield (P:=P) (args:=(encs x).toArray) hl (by rw[b];simpa using a2 x);rw[b] at hy;refine⟨fn,_,assign,body,hy,roundIn_of_wpIn trivial ?_⟩;refine Code.wpIn_mono (fun e a1 w1 K=>?_)<|m L pre x i _ hJ { tmps:=(ps.zip (encs x).toArray).foldl (fun t (p,v)=>t.setIfInBounds p v) a.tmps,defers:=[] } W ⟨I,a4 x a ha.2⟩ hW;obtain ⟨rfl,b0,X⟩:=K;have b1:=X.here<|gl i _ _ _;refine⟨_,run_beginRound b1 (by rw[b]),?_⟩;have d:∀ (i:ι) (u k v:Ent) (r:Own),(S i++u::k::r).set (S i).length v=S i++v::k::r:=fun i u k v r=>by simp
   have Y:=X.obj (o':=.loop { rec .ready none with state:=.busy })<|gl i _ _ _;rw[d] at Y;refine Code.wpIn_mono (fun e a3 w3 h3=>?_)<|C L pre x F i _ a9 hJ a1 _ b0 Y;obtain ⟨rfl,j,Z,b2⟩:=h3;have b3:=Z.here<|gl j _ _ _;have he:=run_endRound (P:=P) none b3;have R:=Z.obj (o':=.loop { (rec .ready none) with state:=.ready,pending:=none })<|gl j _ _ _;rw[d] at R;refine⟨_,_,he,.bool true,G j,S2 j++B,I,?_,I,j,b2,I,I⟩;rw[o];simp only[zh1,List.cons_append];rw[b] at R ⊢;exact R
  ·rintro e W2 ⟨v,g',s',rfl,T,j,hJ,rfl,rfl⟩;rw[o,zc7] at T;have gl:∀ (i:ι) (u k:Ent) (r:Own),(S i++u::k::r)[(S i).length]?=some u:=fun i u k r=>by simp
   have hl:=T.here<|gl j _ _ _;have he:=run_endLoop (P:=P) hl (by rw[b];simp);have O:=T.obj (o':=.loop { (rec .ready none) with state:=.exhausted })<|gl j _ _ _;have d:∀ (i:ι) (u k v:Ent) (r:Own),(S i++u::k::r).set (S i).length v=S i++v::k::r:=fun i u k v r=>by simp
   rw[d] at O;have b4:(rec .ready none).pending=none:=by rw[b]
   refine⟨none,_,he.trans<|ze4 (fun p=>Result.ok p _) b4,?_⟩;refine H D j hJ _ _ ⟨by rw[← ha.1];rfl,ha.2⟩ ?_;have h3:=(O.sublist (s':=S j++pt D (.deferred<|some [])::c)<|by exact (zc4 _).append<|zj3 _ _).perm List.perm_middle;exact h3
end
end Go.Sy
namespace Go.Sy
open Go
section
variable {P:Program}{M:Md}{N:Nat}{E:World}{Q:Exit→Act→World→Prop}{f:Fr}{g:PH}{s:Own}{dst:Option Tmp}{ty:TypeId}{pos:String}{af:Array Edge}{gd:Option (Nat×Bool)}
end
end Go.Sy
namespace Go.Sy
open Go
section
variable {P:Program}{M:Md}{N:Nat}{E:World}{Q:Exit→Act→World→Prop}{f:Fr}{g:PH}{s:Own}{dst:Option Tmp}{ty:TypeId}{pos:String}{af:Array Edge}{gd:Option (Nat×Bool)}
def m9 {κ:Type}{N:Nat}(E:World)(g:PH)(s:Own)(fb:κ→Fr)(X:κ→Own):Exit→Act→World→Prop:=fun e a' w'=>e = .normal∧∃ q,Okd [] N (fb q) a'∧At E g (X q++s) w'
theorem XT.assignEndA {κ:Type}{a:κ→Fr}{X:κ→Own}{ro:Option Nat}{s0:Own}(q:κ)(b:Sub (a q) f)(c:X q++s0=s):XT ⟨ro,[]⟩ N E (m9 (N:=N) E g s0 a X) .normal f g s:=fun _ _ d e=>⟨rfl,q,d.sub b,by rw[c];exact e⟩
end
end Go.Sy
namespace Go.Sy
open Go
def ext (ds:List Deferred)(b:Act):Act:={ b with defers:=b.defers++ds }
theorem mD (ds:List Deferred)(b:Act)(d:Option Tmp)(v:Value):ext ds (b.put d v)=(ext ds b).put d v:=by cases d <;> rfl
theorem DU (ds:List Deferred)(b:Act):(ext ds b).eval=b.eval:=by funext x;cases x <;> rfl
def oa (ops:Array Oper):Bool:=ops.toList.all fun o=>match o.op with | .defer _=>false | _=>true
theorem zR {ops:Array Oper}(h:oa ops=true){i:Nat}{o:Oper}(a:ops[i]?=some o):∀ c,o.op ≠ .defer c:=by
 intro c hc;unfold oa at h;rw[zk2] at h;have hm:o∈ops.toList:=by
  rw[Array.getElem?_eq_some_iff] at a;obtain ⟨b,rfl⟩:=a;simp
 have:=h o hm;rw[hc] at this;exact absurd this dO
section
variable {P:Program}{ops:Array Oper}{ro:Option Nat}{ds:List Deferred}{Q Q0:Exit→Act→World→Prop}
theorem zm {o:Oper}{b:Act}{w:World}{K0 K:Act→World→Prop}(i:∀ c,o.op ≠ .defer c)(d:∀ e b w,Q0 e b w→e = .normal)(f:∀ k w',K0 k w'→K (ext ds k) w')
  (a:o.wp P b w K0 Q0):o.wpIn (wf ro) 0 P (ext ds b) w K Q:=by
 refine⟨fun _ _=>trivial,?_⟩;rw[Oper.semAt_eq _ _ _ i,DU];unfold Oper.wp at a;generalize (execOp b.eval o).run P w=r at a;cases r with
 | ok n w' =>
  cases n <;> simp only[Oper.upon] at a <;> first | exact a.elim | skip
  ·have:=f _ _ a;rw[mD] at this;exact this
  ·have:=f _ _ a;rw[mD] at this;exact this
  ·refine⟨fun h=>(by cases h),(CallsIn.more (n:=0) ((callsIn_wide (n:=0)).2<|Calls.mono a<|fun e g j=>?_)<|zf8 _)⟩;cases e with
   | returned v =>
    have:=f _ _ j;rw[mD] at this;exact this
   | panicked c=>exact absurd (d _ _ _ j) dO
   | outgrown =>
    obtain ⟨_,_,l⟩:=j;exact absurd (d _ _ _ l) dO
  ·have:=f _ _ a;rw[mD] at this;exact this
  ·exact⟨fun h=>(by cases h),fun c cs _=>let ⟨v,g,r,st⟩:=a c cs;⟨v,g,(by have:=f _ _ r;rw[mD] at this;exact this),stepsIn_wide.2 st⟩⟩
 | halt x w' =>
  cases x <;> simp only[Oper.upon] at a <;> first | exact a.elim | exact absurd (d _ _ _ a) dO
theorem qA {i:Nat}{b:Act}{w:World}{K0 K:Act→World→Prop}(d:oa ops=true)(c:∀ e b w,Q0 e b w→e = .normal)(f:∀ k w',K0 k w'→K (ext ds k) w')
  (a:wpOp P ops Q0 i K0 b w):wpOpIn (wf ro) 0 P ops Q i K (ext ds b) w:=by
 unfold wpOp at a;unfold wpOpIn;cases g:ops[i]? with
 | none =>
  rw[g] at a;exact f _ _ a
 | some o =>
  rw[g] at a;dsimp only at a ⊢;have l:(ext ds b).tmps=b.tmps:=rfl;rw[l];split at a
  ·rename_i j;rw[zg3 j]
   rcases a with a | ⟨_,n,w',m⟩
   ·exact zm (zR d g) c f a
   ·exact absurd (c _ _ _ m) dO
  ·rename_i j;rw[zg2 j];refine⟨fun _ _=>trivial,?_⟩;have:=f _ _ a;rw[mD] at this;exact this
theorem jC (c:oa ops=true)(a:∀ e b w,Q0 e b w→e = .normal∧Q .normal (ext ds b) w):∀ (fuel:Nat) (L:Array Bool) (b:Act) (w:World),wpAny P .any ops Q0 fuel L b w→wpAnyIn (wf ro) 0 P .any ops Q fuel L (ext ds b) w
 | 0,_,_,_,h=>⟨h.1,(a _ _ _ h.2).2⟩
 | fuel+1,L,b,w,h=>⟨fun hr=>(a _ _ _<|h.1 hr).2,fun i d=>qA c (fun e b w h=>(a e b w h).1) (fun f w' hb=>jC c a fuel _ f w' hb)<|h.2 i d⟩
end
section
variable {P:Program}{M:Md}{N:Nat}{E:World}{Q:Exit→Act→World→Prop}{f:Fr}{g:PH}{s:Own}{ops:Array Oper}
def Qx (ds:List Deferred)(Q:Exit→Act→World→Prop):Exit→Act→World→Prop:=fun e b w=>e = .normal∧Q .normal (ext ds b) w
instance (ds:List Deferred):Quiet (Qx ds Q):=⟨fun _ _ _ _ _ h=>absurd h.1 dO⟩
theorem ST.ofXT (h:XT M N E Q .normal f g s):ST N E (Qx M.ds Q) .normal f g s:=fun a w b c=>⟨rfl,h _ _ ⟨by simp[ext,b.defers],by
 have:jE (ext M.ds a)=a:=by
  obtain ⟨t,d⟩:=a;have hd:d=[]:=b.defers;subst hd;rfl
 rw[this];exact b⟩ c⟩
end
end Go.Sy
namespace Go.Proofs.YtdepcjnaieflmaaGreatDoor
open _root_.Go.Proofs.Tryz _root_.Go.Proofs.YtdepcjnaieflmaaGreatDoor.Tryz
open Go Go.Sy Go.Pl Go.Proofs
set_option maxRecDepth 100000
set_option maxHeartbeats 1000000
theorem oK {α β:Type}{l:List α}{k:Nat}(h:k<l.length)(p:α→Bool)(f:α→β):((l.take<|k+1).filter p).map f=((l.take k).filter p).map f++(if p l[k] then [f l[k]] else []):=by
 rw[tS h,zh8,zg7];congr 1;simp only[zi9,List.filter_nil];split <;> rfl
theorem we {α β:Type}(l:List α)(k:Nat)(p:α→Bool)(f:α→β):(((l.take k).filter p).map f).length≤k:=by
 rw[ze8];refine zk9 (zc6 _ _) ?_;rw[ze6];omega
theorem Tryz.buildE37 (w:World):(Instr.build 37 #[]).run Tryz.prog w = .ok (.agg #[vi 0,vi 0,.slice none 0 0]) w:=by
 simp[Instr.build,Instr.fill];rfl
def CZ (l:List Cl)(d:Int):List Int:=((am l).filter fun c=>decide (c.dim=d)).map Cl.id
theorem SU.maxI {P:Program}{N:Nat}{f:Fr}{dst:Option Tmp}{ty:TypeId}{pos:String}{af:Array Edge}{gd:Option (Nat×Bool)}{x y:Operand}{T U:TypeId}{m n:Int}(c:ev f x=some (vi m))(d:ev f y=some (vi n)) :
  SU P N ⟨dst,.call ⟨.builtin .max,#[x,y],#[T,U]⟩,ty,pos,af,gd⟩ f (vi<|max m n):=fun a w b=>by
 have h:=run_max_int2 (P:=P) (w:=w) #[T,U] ty .i64 .i64 m n;have e:(if m<n then n else m)=max m n:=by split <;> omega
 rw[e] at h;simp[execOp,resolve,invoke,builtin,b.ev c,b.ev d,h]
theorem pw (E:World)(g:PH)(s:Own)(v:Value)(l:List Cl)(d:Int)(K:ai g v l)(L:aM l) :
  Ctr Tryz.prog E 125 #[.agg #[v],vi d] g s (fun r g' s'=>s=s'∧Le g g'∧dp g' r (CZ l d)):=by
 have n:=bU L;have O:=n.1;obtain ⟨p,c,rfl⟩:=K.form;refine zb2 (args:=[.agg #[.slice p l.length c],vi d]) func125 I ntmps125 (bE I)<|rZ (bW (bO I) fun C=>?_);refine aT I<|rZ<|aT I<|rZ<|lK (qV 0 an ae I I I)<|lW (SO.call call54 I<|dw E g _ _ l K L) ?_;rintro v9 g1 _ ⟨rfl,D,hc⟩;obtain ⟨rs,b,j⟩:=hc;obtain ⟨q,P,rfl⟩:=b.form;refine aT I<|sQ<|rZ<|aT I<|bK ?_;have Q:=j.length;unfold CZ;generalize am l=A at *;refine zb6 3 1<|oP (ι:=Value×Nat) (fun i=>[(1,vi d),(5,i.1),(6,.slice q rs.length P),(7,vi i.2)]) (fun _=>g1) (fun i=>rowA encInt 3 i.1 (((A.take i.2).filter fun c=>decide (c.dim=d)).map Cl.id)::pt C (bY #[.slice p l.length c] 29)::s)
  (fun i=>i.2≤A.length) (fun i=>A.length - i.2) (.slice none 0 0,0) sB rfl rfl (zf8 _) ?_
 rintro ⟨M,k⟩ R;dsimp only at R ⊢;refine sQ<|sW I<|lM I<|lU (eN aF I)<|yL I<|tZ<|iP I (fun F=>?_) (fun F=>?_)
 ·have m:k<A.length:=oM;have t:k<rs.length:=oM;have f:=b.based oM;have y:=j.get (List.getElem?_eq_getElem m)<|List.getElem?_eq_getElem t;have z:rs[((k:Nat):Int).toNat]?=some rs[k]:=List.getElem?_eq_getElem t;have a:=oK m (fun c=>decide (c.dim=d)) Cl.id;have N:=we A k (fun c=>decide (c.dim=d)) Cl.id;have S:=n.2 _<|gM m;generalize A[k]=x at *;generalize rs[k]=r at *;refine kP<|tN<|sQ<|bK<|sW I<|lM I<|lU (iA aF ar I I f oM sL)<|lU (fC ao I zT3 I f)<|lK (aZ (e:=encCell) (o:=1) (u:=vi x.dim) iT3 I b.rd z (by rw[← y.2.1];rfl)) ?_;refine lM I<|yE I<|tZ<|iP I (fun hd=>?_) (fun hd=>?_)
  ·refine rG<|lM I<|lM I<|lM I<|lU (iA aF ar I I f oM sL)<|lU (fC ao I zT3 I f)<|lK (aZ (e:=encCell) (o:=0) (u:=vi x.id) iT3 I b.rd z (by rw[← y.1];rfl)) ?_;refine lW (bS sty32 I I I (ab sB) dC) ?_;rintro _ _ _ ⟨T,rfl,rfl,rfl⟩;refine lW (aP (e:=encInt) 0 x.id sty32 I I I I I oM oM) ?_;rintro ov' _ _ ⟨rfl,rfl⟩;refine lA I<|SL.nil<|bN<|tN<|rG<|lM I<|yD I<|lA I<|SL.nil ?_;refine ST.to (fun w G=>?_) (g':=g1) (s':=rowA encInt 3 ov' (((A.take<|k+1).filter fun c=>decide (c.dim=d)).map Cl.id)::pt C (bY #[.slice p l.length c] 29)::s) ?_
   ·rw[a,zg3<|zg1 hd];exact G
   exact ST.again (ov',k+1) sB I I (by dsimp only;omega) lN
  ·refine kP<|bN<|tN<|rG<|lM I<|yD I<|lA I<|SL.nil ?_;refine ST.to (fun w G=>?_) (g':=g1) (s':=rowA encInt 3 M (((A.take<|k+1).filter fun c=>decide (c.dim=d)).map Cl.id)::pt C (bY #[.slice p l.length c] 29)::s) ?_
   ·rw[a,zg2 (by rw[zf9 hd];simp),zc7];exact G
   exact ST.again (M,k+1) sB I I (by dsimp only;omega) lN
 ·have H:A.take k=A:=tL oM;rw[H];refine xI (tX<|tX<|bX<|tN<|sW I<|aT I<|rE<|fT fun g2 B J=>?_);exact dR (s':=s) uR<|za8 (.inl I) results125 I ⟨I,D.trans B,J⟩
theorem wN (E:World)(g:PH)(s:Own)(c:Cl)(r:Rc)(id:Int)(hc:ak g c r)(hl:c.sides.length<1099511627776) :
  Ctr Tryz.prog E 210 #[rcv r,vi id] g s (fun x g' s'=>x=vb (nU c id)∧g=g'∧s=s'):=by
 obtain ⟨t,rd,⟨d,w,rc⟩⟩:=r;have j:SlA encSide g (.slice d w rc) c.sides:=hc.2.2;have hn:w=c.sides.length:=zc2 j;subst hn;refine zb2 (args:=[rcv ⟨t,rd,⟨d,c.sides.length,rc⟩⟩,vi id]) func210 I ntmps210 (bE I)<|rZ (bW (bO I) fun y=>?_);refine aT I<|sQ<|rZ<|aT I<|bK<|oP (ι:=Nat) (fun k=>[(1,vi id),(2,pp y 0),(5,vi k)]) (fun _=>g) (fun _=>pt y (bY #[vi t,vi rd,.slice d c.sides.length rc] 37)::s)
  (fun k=>k≤c.sides.length∧(c.sides.take k).any (fun x=>decide (x.cell=id))=false) (fun k=>c.sides.length - k) 0 sB rfl rfl ⟨zf8 _,rfl⟩ ?_
 rintro k ⟨z,a⟩;refine sQ<|sW I<|lU (fA ao I aH I)<|lK (qL (v:=.slice d c.sides.length rc) bi I<|cO 0 I I)<|lU (eN a7 I)<|yL I<|tZ<|iP I (fun l=>?_) (fun l=>?_)
 ·have b:k<c.sides.length:=oM;have f:=j.based oM;have m:c.sides[((k:Nat):Int).toNat]?=some c.sides[k]:=List.getElem?_eq_getElem b;have n:(c.sides.take<|k+1).any (fun x=>decide (x.cell=id))=((c.sides.take k).any (fun x=>decide (x.cell=id))||decide (c.sides[k].cell=id)):=by
   rw[tS b,List.any_append];simp
  have i:c.sides[k]∈c.sides:=gM b;generalize c.sides[k]=x at *;refine kP<|tN<|sQ<|bK<|rZ<|lU (fA ao I aH I)<|lK (qL (v:=.slice d c.sides.length rc) bi I<|cO 0 I I)<|lM I<|lU (iA a7 aR I I f oM sL)<|lU (fC de I zT3 I f)<|lK (aZ (e:=encSide) (o:=0) (u:=vi x.cell) iT3 I j.rd m I)<|lM I<|yE I<|tZ<|iP I (fun p=>?_) (fun p=>?_)
  ·exact rZ<|aT I<|rE<|bR<|tR<|tR<|bR<|tR<|dR (s':=s) uR<|za8 (.inl I) results210 I ⟨by rw[show nU c id=true from zk1.2 ⟨x,i,zg1 p⟩],I,I⟩
  ·exact kP<|bN<|tN<|rG<|lM I<|yD I<|lA I<|SL.nil<|ST.again (k+1) sB I I ⟨oM,by rw[n,a,zf9 p];rfl⟩ oM
 ·have q:c.sides.take k=c.sides:=tL oM;rw[q] at a;exact xI<|tX<|tX<|bX<|tN<|rZ<|aT I<|rE<|dR (s':=s) uR<|za8 (.inl I) results210 I ⟨by rw[show nU c id=false from a],I,I⟩
theorem dx (E:World)(g:PH)(s:Own)(v:Value)(l:List Cl)(id:Int)(K:ai g v l)(L:aM l) :
  Ctr Tryz.prog E 183 #[.agg #[v],vi id] g s (fun r g' s'=>s=s'∧Le g g'∧dp g' r (aC l id)):=by
 have m:=bU L;have O:=m.1;obtain ⟨p,c,rfl⟩:=K.form;refine zb2 (args:=[.agg #[.slice p l.length c],vi id]) func183 I ntmps183 (bE I)<|rZ (bW (bO I) fun B=>?_);refine aT I<|rZ<|aT I<|rZ<|lK (qV 0 an ae I I I)<|lW (SO.call call54 I<|dw E g _ _ l K L) ?_;rintro v9 g1 _ ⟨rfl,C,hc⟩;obtain ⟨rs,b,d⟩:=hc;obtain ⟨q,P,rfl⟩:=b.form;refine aT I<|sQ<|rZ<|aT I<|bK ?_;have Q:=d.length;unfold aC;generalize am l=A at *;refine zb6 3 1<|oP (ι:=Value×Nat) (fun i=>[(1,vi id),(5,i.1),(6,.slice q rs.length P),(7,vi i.2)]) (fun _=>g1) (fun i=>rowA encInt 3 i.1 (((A.take i.2).filter fun c=>nU c id).map Cl.id)::pt B (bY #[.slice p l.length c] 29)::s)
  (fun i=>i.2≤A.length) (fun i=>A.length - i.2) (.slice none 0 0,0) sB rfl rfl (zf8 _) ?_
 rintro ⟨M,k⟩ R;dsimp only at R ⊢;refine sQ<|sW I<|lM I<|lU (eN aF I)<|yL I<|tZ<|iP I (fun D=>?_) (fun D=>?_)
 ·have f:k<A.length:=oM;have n:k<rs.length:=oM;have j:=b.based oM;have t:=d.get (List.getElem?_eq_getElem f)<|List.getElem?_eq_getElem n;have y:rs[((k:Nat):Int).toNat]?=some rs[k]:=List.getElem?_eq_getElem n;have a:=oK f (fun c=>nU c id) Cl.id;have N:=we A k (fun c=>nU c id) Cl.id;have F:=m.2 _<|gM f;generalize A[k]=x at *;generalize rs[k]=r at *;refine kP<|tN<|sQ<|bK<|sW I<|lM I<|lU (iA aF ar I I j oM sL)<|lK (SQ.elemA dH ar I b.rd y)<|lM I<|lW (SO.call call210 I<|wN E g1 _ x r id t F) ?_;rintro _ _ _ ⟨rfl,rfl,rfl⟩;refine tZ<|iQ I (fun hd=>?_) (fun hd=>?_)
  ·refine rG<|lM I<|lM I<|lM I<|lU (iA aF ar I I j oM sL)<|lU (fC ao I zT3 I j)<|lK (aZ (e:=encCell) (o:=0) (u:=vi x.id) iT3 I b.rd y (by rw[← t.1];rfl)) ?_;refine lW (bS sty32 I I I (ab sB) dC) ?_;rintro _ _ _ ⟨S,rfl,rfl,rfl⟩;refine lW (aP (e:=encInt) 0 x.id sty32 I I I I I oM oM) ?_;rintro ov' _ _ ⟨rfl,rfl⟩;refine lA I<|SL.nil<|bN<|tN<|rG<|lM I<|yD I<|lA I<|SL.nil ?_;refine ST.to (fun w G=>?_) (g':=g1) (s':=rowA encInt 3 ov' (((A.take<|k+1).filter fun c=>nU c id).map Cl.id)::pt B (bY #[.slice p l.length c] 29)::s) ?_
   ·rw[a,zg3<|hd];exact G
   exact ST.again (ov',k+1) sB I I (by dsimp only;omega) lN
  ·refine kP<|bN<|tN<|rG<|lM I<|yD I<|lA I<|SL.nil ?_;refine ST.to (fun w G=>?_) (g':=g1) (s':=rowA encInt 3 M (((A.take<|k+1).filter fun c=>nU c id).map Cl.id)::pt B (bY #[.slice p l.length c] 29)::s) ?_
   ·rw[a,zg2 (by rw[hd];simp),zc7];exact G
   exact ST.again (M,k+1) sB I I (by dsimp only;omega) lN
 ·have H:A.take k=A:=tL oM;rw[H];refine xI (tX<|tX<|bX<|tN<|sW I<|aT I<|rE<|fT fun g2 z J=>?_);exact dR (s':=s) uR<|za8 (.inl I) results183 I ⟨I,C.trans z,J⟩
theorem bc (E:World)(g:PH)(s:Own)(v:Value)(l:List Cl)(id:Int)(F:ai g v l)(G:aM l) :
  Ctr Tryz.prog E 55 #[.agg #[v],vi id] g s (fun r g' s'=>s=s'∧Le g g'∧∃ x,r = .tuple #[rcv x,vb (findC l id).isSome]∧ak g' ((findC l id).getD aA) x):=by
 have u:=bU G;have w:=u.1;obtain ⟨p,c,rfl⟩:=F.form;have e:=fD l;have H:=iX l;refine zb2 (args:=[.agg #[.slice p l.length c],vi id]) func55 I ntmps55 (bE I)<|rZ (bW (bO I) fun O=>?_);refine bW (aL zm2) fun P=>aT I<|rZ<|lK (qV 1 an ae I I I)<|lW (SO.call call54 I<|dw E g _ _ l F G) ?_;rintro v9 g1 _ ⟨rfl,j,hc⟩;obtain ⟨rs,d,a⟩:=hc;have y:ai g1 _ (am l):=⟨rs,d,a⟩;obtain ⟨q,Q,rfl⟩:=d.form;refine aT I<|sW I<|lM I<|lW (SO.call call107 I<|ip E g1 _ _ (am l) id y w e) ?_;rintro _ _ _ ⟨rfl,rfl,rfl⟩;refine aT I<|sQ<|sW I<|yL I<|tZ ?_;have J:=a.length;unfold findC;generalize am l=A at *;have m:=se e id;refine iP I (fun b=>?_) (fun b=>?_)
 ·rcases m with ⟨n,i⟩ | ⟨x,k,n,i,z⟩
  ·have o:(A.find? fun c=>decide (c.id=id))=none:=n;exact rZ<|lU (za3 I<|buildE37)<|oZ (sK 0 ar I I I I I sB)<|aT I<|rE<|tR<|ST.retCD1 0 s (.inl I) results55 I I dH ar I I uR ⟨I,j,vd,by rw[o];rfl,by rw[o];exact gW g1⟩
  ·rw[i] at b;omega
 ·rcases m with ⟨n,i⟩ | ⟨x,k,n,i,z⟩
  ·rw[i] at b;omega
  ·have f:(A.find? fun c=>decide (c.id=id))=some x:=n;rw[i];have K:k<A.length:=(zf7.1 z).1;have t:k<rs.length:=oM;have B:=d.based oM;have C:=a.get z<|List.getElem?_eq_getElem t;have D:rs[((k:Nat):Int).toNat]?=some rs[k]:=List.getElem?_eq_getElem t;generalize rs[k]=r at *;obtain ⟨L,rd,⟨M,N,rc⟩⟩:=r;exact kP<|tN<|sW I<|lM I<|lU (iA aF ar I I B oM sL)<|lK (SQ.elemA dH ar I d.rd D)<|oZ (sK 0 ar I I I I I sB)<|aT I<|rE<|ST.retCD1 0 s (.inl I) results55 I I dH ar I I uR ⟨I,j,⟨L,rd,⟨M,N,rc⟩⟩,by rw[f];rfl,by rw[f];exact C⟩
end Go.Proofs.YtdepcjnaieflmaaGreatDoor
namespace Go.Sy
open Go
section
variable {α:Type}{k:Nat}{P:Program}{N:Nat}{E:World}{f:Fr}{g:PH}{s:Own}{dst:Option Tmp}{ty:TypeId}{pos:String}{af:Array Edge}{gd:Option (Nat×Bool)}
theorem SO.makeC {x y:Operand}{t T:TypeId}{bytes n:Nat}{z:Value}(e:Enc α k)(p:STy P t T k bytes z)(B:ev f x=some (vi 0))(C:ev f y=some (vi n))(hb:n * bytes≤140737488355328)(q:n≤4611686018427387904) :
  SO P N E ⟨dst,.makeSlice t x y,ty,pos,af,gd⟩ f g s fun v' g' s'=>g=g'∧s'=rowA e T v' []::s :=
 SO.of_run fun ac w r u=>by
  obtain ⟨v,b,c,d,i⟩:=p.info;have j:(v.bytes:Int) * ((n:Nat):Int)≤281474976710656:=by
   rw[i,← Int.natCast_mul,Nat.mul_comm];omega
  have l:=run_make (P:=P) w t T v z p.und b c .i64 .i64 0 n oM oM j oM;simp only[Int.toNat_natCast] at l;rw[d] at l;have a:(execOp ac.eval ⟨dst,.makeSlice t x y,ty,pos,af,gd⟩).run P w = .ok (.value<|.slice (some ⟨w.heap.size,0,none⟩) 0 n) (w.alloc<|.cells (madeCells z.cells<|n * k) T):=by
   simp[execOp,r.ev B,r.ev C,l]
  have A:(w.alloc<|.cells (madeCells z.cells<|n * k) T).heap[w.heap.size]?=some (.cells (madeCells z.cells<|n * k) T (0,0)):=heap_alloc_new w _;refine⟨_,_,g,_,a,?_,I,I⟩;cases n with
  | zero =>
   have D:=u.emptyRow T k<|some ⟨w.heap.size,0,none⟩;have F:=D.alloc (e:=pt w.heap.size<|.cells (madeCells z.cells<|0 * k) T (0,0)) (o:=.cells (madeCells z.cells<|0 * k) T (0,0)) rfl rfl;exact F.sublist<|zj3 _ _
  | succ n =>
   have m:(madeCells z.cells<|(n+1) * k).size=(n+1) * k:=by simp[madeCells]
   exact u.alloc (e:=rowA e T (.slice (some ⟨w.heap.size,0,none⟩) 0<|n+1) []) (o:=.cells (madeCells z.cells<|(n+1) * k) T (0,0)) I ⟨by simp,.inr ⟨_,n,_,I,I,by simp,by unfold maxLen;omega,m,by simp⟩⟩
def tq:Enc Int 1:=⟨fun n=>[.int .u8 n],fun _=>rfl,fun _ u hu=>by simp at hu;subst hu;rfl,by decide⟩
def Fy:Enc Int 1:=⟨fun n=>[.int .u64 n],fun _=>rfl,fun _ u hu=>by simp at hu;subst hu;rfl,by decide⟩
def byt (l:List Int):List UInt8:=l.map fun n=>UInt8.ofNat n.toNat
def txt (l:List UInt8):Value:=.string ⟨l.toArray⟩
theorem Cu (l:List Int):∀ s:ByteArray,l.foldl (fun r n=>r.push<|UInt8.ofNat n.toNat) s=⟨s.data++(byt l).toArray⟩:=by
 induction l with
 | nil=>intro s;simp[byt]
 | cons a t ih =>
  intro s;simp only[zj1];rw[ih];simp[byt,ByteArray.push]
theorem Ab (l:List Int):l.flatMap tq.enc=l.map (Value.int .u8):=by
 induction l with
 | nil=>rfl
 | cons a t ih=>simp only[zh7,zg6,ih];rfl
theorem SQ.bytesText {x:Operand}{S D e:TypeId}{p:Option Addr}{c:Nat}{l:List Int}(B:P.underlying S=some (.slice e))(C:P.underlying e=some (.int .u8))(hd:P.underlying D=some .string)
  (F:ev f x=some (.slice p l.length c)) (hr:Rd g s (.slice p l.length c) (l.flatMap tq.enc)) :
  SQ P N E ⟨dst,.convert S D x,ty,pos,af,gd⟩ f g s (txt<|byt l):=fun a w G v=>by
 have H:(convert S D<|.slice p l.length c).run P w = .ok (txt<|byt l) w:=by
  rw[run_convert_bytes_string w S D e p l.length c B C hd];rw[Ab] at hr;cases l with
  | nil =>
   cases p with
   | none=>simp[Conv.bytesToString,txt,byt];rfl
   | some a =>
    have m:=run_bytesToString (P:=P) w a 0 c [] (by simp[loadCells];exact dh (P:=P) (w:=w) (b:=a.block) (o:=a.off) 0 0 [] #[] I (fun j y r=>by simp at r));rw[zc5,m];rfl
  | cons n t =>
   obtain ⟨q,M,O,i,k,J⟩:=hr E w v 0 (.int .u8 n) rfl;injection i with i K L
   subst i;obtain ⟨z,A,Q⟩:=q;dsimp only at k;subst k;have m:=run_bytesToString (P:=P) w ⟨z,A,none⟩ (n::t).length c (n::t) (by
    have:=dh (P:=P) (w:=w) (b:=z) (o:=A) (n::t).length 0 ((n::t).map (Value.int .u8)) #[] dO (fun j y r=>by
     obtain ⟨R,T,c2,d,_,u⟩:=hr E w v j y r;injection d with d
     injection d with d
     subst d;simpa using u)
    simpa [loadCells] using this)
   rw[m,Cu];simp[txt]
 simp[execOp,G.ev F,H]
theorem xJ (l:List UInt8):(⟨l.toArray⟩:ByteArray).toList=l:=by rw[ByteArray.toList_eq]
theorem SU.neqT {x y:Operand}{T U:TypeId}{l m:List UInt8}(b:ev f x=some (txt l))(c:ev f y=some (txt m)) :
  SU P N ⟨dst,.binOp .neq T x y U,ty,pos,af,gd⟩ f (.bool<|decide (l≠m)):=fun ac w a=>by
 have hg:(eqGuard .neq T x y (txt l)<|txt m).run P w = .ok () w:=by simp[eqGuard,txt]
 have hb:(binOp .neq T (txt l)<|txt m).run P w = .ok (.bool<|decide (l≠m)) w:=by
  unfold txt;rw[binOp_string_neq,xJ,xJ];by_cases h:l=m <;> simp[h,bne] <;> rfl
 simp only[execOp,a.ev b,a.ev c,Sem.run_bind,hg,zd2,hb];rfl
end
end Go.Sy
namespace Go.Sy
open Go
section
variable {P:Program}{N:Nat}{f:Fr}{dst:Option Tmp}{ty:TypeId}{pos:String}{af:Array Edge}{gd:Option (Nat×Bool)}
end
end Go.Sy
namespace Go.Proofs.YtdepcjnaieflmaaGreatDoor
open _root_.Go.Proofs.Tryz _root_.Go.Proofs.YtdepcjnaieflmaaGreatDoor.Tryz
open Go Go.Sy Go.Pl Go.Proofs Go.Shelf
set_option maxRecDepth 100000
set_option maxHeartbeats 1000000
theorem FJ {f:Fr}{t:Nat}{a b:Int}(h:aN f t=some (vi a))(e:a=b):aN f t=some (vi b):=e ▸ h
theorem Tryz.sty239:STy Tryz.prog 239 183 1 8 (.int .u64 0):=⟨underlying239,⟨t183,by kernel_rfl,by kernel_rfl,by kernel_rfl,by kernel_rfl⟩,rfl,by decide⟩
theorem Tryz.sty250:STy Tryz.prog 250 5 1 1 (.int .u8 0):=⟨underlying250,⟨t5,by kernel_rfl,by kernel_rfl,by kernel_rfl,by kernel_rfl⟩,rfl,by decide⟩
def gp (l:List Int):List Int:=(l.reverse.dropWhile (· == 0)).reverse
theorem qN {m:List Int}(h:0<m.length)(b:m.getD (m.length - 1) 1=0):gp (m.take<|m.length - 1)=gp m:=by
 rcases List.eq_nil_or_concat m with rfl | ⟨a,x,rfl⟩
 ·simp at h
 ·have c:x=0:=by simpa [zh3] using b
  subst c;simp[gp]
theorem qM {m:List Int}(h:(decide ((m.length:Int)>0)&&decide (m.getD (m.length - 1) 1=0))=false):gp m=m:=by
 rcases List.eq_nil_or_concat m with rfl | ⟨a,x,rfl⟩
 ·rfl
 ·have b:x≠0:=by simpa [zh3] using h
  simp[gp,b]
theorem B6 (E:World)(g:PH)(s:Own)(v:Value)(l:List Int)(q:SlA Fy g v l)(hl:l.length<1099511627776) :
  Ctr Tryz.prog E 237 #[v] g s (fun r g' s'=>g=g'∧s=s'∧SlA Fy g r (gp l)):=by
 refine zb2 (args:=[v]) func237 I ntmps237 (bE I)<|rZ<|aT I<|sQ<|bK<|oP (ι:=Value×List Int) (fun i=>[(0,i.1)]) (fun _=>g) (fun _=>s) (fun i=>SlA Fy g i.1 i.2∧gp i.2=gp l∧i.2.length≤l.length) (fun i=>i.2.length) (v,l) ⟨I,trivial⟩ I I ⟨q,I,Nat.le_refl _⟩ ?_;rintro ⟨v1,m⟩ ⟨hm,a,e⟩;dsimp only at hm a e ⊢;obtain ⟨p,c,rfl⟩:=za4 hm;have n:=(SlA.cap hm).2;have f1:(m.length:Int)>0→(decide ((m.length:Int)>0)&&decide (m.getD (m.length - 1) 1=0))=decide (m.getD (m.length - 1) 1=0):=fun h=>by rw[zg1 h,Bool.true_and]
 have f2:¬ (m.length:Int)>0→(decide ((m.length:Int)>0)&&decide (m.getD (m.length - 1) 1=0))=false:=fun h=>by simp only[h,decide_false,Bool.false_and]
 have f:(m.length:Int)>0→m[((m.length:Int) - 1).toNat]?=some (m.getD (m.length - 1) 1):=fun h=>by
  have j:((m.length:Int) - 1).toNat=m.length - 1:=oM;have t:m.length - 1<m.length:=oM;rw[j,zh3,List.getElem?_eq_getElem t];rfl
 have k:(m.length:Int)>0→based (.slice p m.length c)=true:=fun h=>za6 hm oM;refine sQ<|SC.cutB 14 ((decide ((m.length:Int)>0)&&decide (m.getD (m.length - 1) 1=0))) ?_ ?_
 ·refine rG<|lM I<|lU (eN tg I)<|lU (gR I I)<|lM I<|sP ?_ ?_
  ·intro d;exact yC I<|yC I<|lY I I I (eN tg I)<|lY I I I (sU I I oM)<|lY I I I (iA tg sizeOf183 I I (k d) oM sL)<|SL.gq (gT I I I dC) (eB isAgg183 I (za7 hm) (f d) I) dC<|lY I I I (eQ I I)<|yP I<|SL.nil<|zb1 (by (rw[f1 d];rfl)) mI
  ·intro d;exact yA I<|yA I<|yA I<|yA I<|yA I<|yA I<|yA I<|yF I<|SL.nil<|zb1 (by (rw[f2 d];rfl)) mI
 refine iQ I (fun hc=>?_) (fun hc=>?_)
 ·rw[zj5,zj8,zj8] at hc;obtain ⟨o,b⟩:=hc;have j:((m.length:Int) - 1).toNat=m.length - 1:=oM;refine kP<|tN<|bK<|rG<|lM I<|lM I<|lU (eN tg I)<|lU (sU I I oM)<|lU (SU.sliceH tg sizeOf183 I I oM oM)<|lA I<|SL.nil<|bN<|ST.again (sliced p 0 ((m.length:Int) - 1).toNat c 1,m.take<|m.length - 1) ⟨I,trivial⟩ I I ⟨?_,?_,?_⟩ (by dsimp only;rw[ze6];omega)
  ·have:=SlA.cut hm (l:=0) (m:=m.length - 1) (zf8 _) oM;dsimp only;rw[j];simpa using this
  ·dsimp only;rw[qN oM b];exact a
  ·dsimp only;rw[ze6];omega
 ·exact xI<|tX<|tX<|bX<|tN<|sW I<|aT I<|rE<|za8 (.inl I) results237 I ⟨I,I,by rw[← a,qM hc];exact hm⟩
theorem vA (E:World)(g:PH)(s:Own)(v:Value)(l:List Int)(q:SlA encInt g v l)(hl:l.length<1099511627776) :
  Ctr Tryz.prog E 243 #[v] g s (fun r g' s'=>g=g'∧s=s'∧SlA encInt g r (gp l)):=by
 refine zb2 (args:=[v]) func243 I ntmps243 (bE I)<|rZ<|aT I<|sQ<|bK<|oP (ι:=Value×List Int) (fun i=>[(0,i.1)]) (fun _=>g) (fun _=>s) (fun i=>SlA encInt g i.1 i.2∧gp i.2=gp l∧i.2.length≤l.length) (fun i=>i.2.length) (v,l) ⟨I,trivial⟩ I I ⟨q,I,Nat.le_refl _⟩ ?_;rintro ⟨v1,m⟩ ⟨hm,a,e⟩;dsimp only at hm a e ⊢;obtain ⟨p,c,rfl⟩:=za4 hm;have n:=(SlA.cap hm).2;have f1:(m.length:Int)>0→(decide ((m.length:Int)>0)&&decide (m.getD (m.length - 1) 1=0))=decide (m.getD (m.length - 1) 1=0):=fun h=>by rw[zg1 h,Bool.true_and]
 have f2:¬ (m.length:Int)>0→(decide ((m.length:Int)>0)&&decide (m.getD (m.length - 1) 1=0))=false:=fun h=>by simp only[h,decide_false,Bool.false_and]
 have f:(m.length:Int)>0→m[((m.length:Int) - 1).toNat]?=some (m.getD (m.length - 1) 1):=fun h=>by
  have j:((m.length:Int) - 1).toNat=m.length - 1:=oM;have t:m.length - 1<m.length:=oM;rw[j,zh3,List.getElem?_eq_getElem t];rfl
 have k:(m.length:Int)>0→based (.slice p m.length c)=true:=fun h=>za6 hm oM;refine sQ<|SC.cutB 14 ((decide ((m.length:Int)>0)&&decide (m.getD (m.length - 1) 1=0))) ?_ ?_
 ·refine rG<|lM I<|lU (eN az I)<|lU (gR I I)<|lM I<|sP ?_ ?_
  ·intro d;exact yC I<|yC I<|lY I I I (eN az I)<|lY I I I (sU I I oM)<|lY I I I (iA az zT3 I I (k d) oM sL)<|SL.gq (gT I I I dC) (eB iT3 I (za7 hm) (f d) I) dC<|lY I I I (eQ I I)<|yP I<|SL.nil<|zb1 (by (rw[f1 d];rfl)) mI
  ·intro d;exact yA I<|yA I<|yA I<|yA I<|yA I<|yA I<|yA I<|yF I<|SL.nil<|zb1 (by (rw[f2 d];rfl)) mI
 refine iQ I (fun hc=>?_) (fun hc=>?_)
 ·rw[zj5,zj8,zj8] at hc;obtain ⟨o,b⟩:=hc;have j:((m.length:Int) - 1).toNat=m.length - 1:=oM;refine kP<|tN<|bK<|rG<|lM I<|lM I<|lU (eN az I)<|lU (sU I I oM)<|lU (SU.sliceH az zT3 I I oM oM)<|lA I<|SL.nil<|bN<|ST.again (sliced p 0 ((m.length:Int) - 1).toNat c 1,m.take<|m.length - 1) ⟨I,trivial⟩ I I ⟨?_,?_,?_⟩ (by dsimp only;rw[ze6];omega)
  ·have:=SlA.cut hm (l:=0) (m:=m.length - 1) (zf8 _) oM;dsimp only;rw[j];simpa using this
  ·dsimp only;rw[qN oM b];exact a
  ·dsimp only;rw[ze6];omega
 ·exact xI<|tX<|tX<|bX<|tN<|sW I<|aT I<|rE<|za8 (.inl I) results243 I ⟨I,I,by rw[← a,qM hc];exact hm⟩
theorem tO (E:World)(g:PH)(s:Own)(v:Value)(c:v.cells = #[v]) :
  Ctr Tryz.prog E 238 #[v] g s (fun r g' s'=>s=s'∧Le g g'∧∃ b,r = .func (.func 252) #[] #[pp b 0]∧g' b=some (bY #[v] 239)):=by
 refine zb2 (args:=[v]) func238 I ntmps238 (bE I)<|rZ (bW (bO I) fun d=>?_);refine aT I<|rZ<|lU (SU.mkFunc I)<|aT I<|rE ?_;rw[c];refine ST.freeze fun g1 a hb=>?_;exact za8 (.inl I) results238 I ⟨I,a,_,I,hb⟩
def tY (l:List Int):List (Nat×Int):=(l.zipIdx.map fun p=>(p.2,p.1)).reverse
theorem pn (l:List Int):(tY l).length=l.length:=by simp[tY]
theorem Dp {l:List Int}{k:Nat}(h:k<l.length):(tY l)[l.length - 1 - k]?=some (k,l[k]):=by
 unfold tY;rw[List.getElem?_reverse (by simp;omega)];simp only[ze8,List.length_zipIdx];rw[show l.length - 1 - (l.length - 1 - k)=k by omega];simp[h]
theorem qH (E:World)(g0:PH)(b:Nat)(v:Value)(l:List Int)(hb:g0 b=some (bY #[v] 239))(D:SlA Fy g0 v l)(hl:l.length<1099511627776) :
  FP Tryz.prog E 252 [pp b 0] (fun x:Nat×Int=>[vi x.1,.int .u64 x.2]) (tY l) g0:=by
 intro k ι G S J i0 F a K sx;obtain ⟨p,c,rfl⟩:=za4 D;refine Ctr.ofX (args:=[.func (.yield k) #[] #[],pp b 0]) func252 I ntmps252 (bE I)<|XC.seq<|XC.region<|XL.q (qL (v:=.slice p l.length c) isAgg239 I<|cK (a _ _ F _ _ hb) I) dC<|XL.u (eN tg I) dC<|XL.u (sU I I oM) dC<|XL.u (aS I) dC<|XL.nil<|XT.thenN<|XC.block<|XC.loop (ι:=ι×Nat) (fun i=>[(0,.func (.yield k) #[] #[]),(1,pp b 0),(3,vi<|(i.2:Int) - 1)]) (fun i=>G i.1) (fun i=>S i.1++sx) (fun i=>i.2≤l.length∧J ((tY l).take<|l.length - i.2) i.1) (fun i=>i.2) (i0,l.length)
  sB rfl rfl ⟨Nat.le_refl _,by simpa using F⟩ ?_
 rintro ⟨j,n⟩ ⟨hn,m⟩;dsimp only at hn m ⊢;have e:=a _ _ m;refine XC.seq<|XC.seq<|XC.region<|XL.u (mV I) dC<|XL.u (gQ I I) dC<|XL.nil<|XT.thenN<|XC.ifP I (fun o=>?_) (fun o=>?_)
 ·have f:n - 1<l.length:=oM;have g:=za5 D e;have r:=za6 g oM;have s:l[((n:Int) - 1).toNat]?=some l[n - 1]:=by rw[show ((n:Int) - 1).toNat=n - 1 by omega];exact List.getElem?_eq_getElem f
  have d:=Dp f;rw[show l.length - 1 - (n - 1)=l.length - n by omega] at d;have t:tY l=(tY l).take (l.length - n)++(n - 1,l[n - 1])::(tY l).drop (l.length - n+1):=by
   obtain ⟨H,w⟩:=zf7.1 d;rw[← w,List.getElem_cons_drop,zj4]
  have y:=K _ _ _ j sx t m;have z:(tY l).take (l.length - (n - 1))=(tY l).take (l.length - n)++[(n - 1,l[n - 1])]:=by
   obtain ⟨H,w⟩:=zf7.1 d;rw[show l.length - (n - 1)=l.length - n+1 by omega,tS H,w]
  generalize l[n - 1]=x at *;have A:vi ((n - 1:Nat):Int)=vi ((n:Int) - 1):=ze4 vi oM;dsimp only at y;rw[A] at y;refine XC.skip<|XT.thenN<|XC.seq<|XC.block<|XC.seq<|XC.region<|XL.u (mV I) dC<|XL.u (mV I) dC<|XL.q (qL (v:=.slice p l.length c) isAgg239 I<|cK (e _ _ hb) I) dC<|XL.u (mV I) dC<|XL.u (iA tg sizeOf183 I I r oM sL) dC<|XL.q (eB isAgg183 I (za7 g) s I) dC<|XL.x (XO.yield I I y) dC ?_;rintro _ _ _ ⟨rfl,L,B,rfl,rfl⟩;exact XL.u (SU.not I) dC<|XL.nil<|XT.thenN<|XC.condF I<|XC.skip<|XT.blockN<|XT.thenN<|XC.region<|XL.u (mV I) dC<|XL.u (sU I I oM) dC<|XL.u (aS I) dC<|XL.nil<|XT.again (L,n - 1) ⟨I,I,FJ I oM,trivial⟩ I I ⟨by dsimp only;omega,by dsimp only;rw[z];exact B⟩ (by dsimp only;omega)
 ·have C:n=0:=oM;subst C;exact XC.exit<|XT.thenX<|XT.thenX<|XT.blockX<|XT.leave0 (.inr I)<|ST.ret0 (.inr I) results252 ⟨j,by have:=m;rwa [tL (by rw[pn];omega)] at this,I,I⟩
def xb:Ren :=
 {
  f:=fun x =>
   match x with
   | 161=>239
   | 231=>253
   | 227=>254
   | 233=>255
   | 235=>256
   | 228=>261
   | 197=>262
   | 151=>263
   | 260=>265
   | 152=>266
   | 137=>267
   | 119=>268
   | 224=>269
   | 225=>270
   | 217=>271
   | 266=>272
   | n=>n,
  t:=fun x =>
   match x with
   | 9=>9
   | 4=>4
   | 3=>3
   | 5=>5
   | 117=>265
   | 116=>264
   | 0=>0
   | 124=>268
   | 105=>273
   | 21=>21
   | 119=>278
   | 46=>138
   | 139=>281
   | 138=>280
   | n=>n,
  g:=fun x =>
   match x with
   | 3=>0
   | 4=>1
   | n=>n }
theorem Tryz.lays161:Lays.n161 Tryz.prog xb :=
  {
  mixed:=Eq.refl true,f119:=zb8 func268<|ze4 some kR,
  f137:=zb8 func267<|ze4 some kR,
  f151:=zb8 func263<|ze4 some kR,
  f152:=zb8 func266<|ze4 some kR,
  f161:=zb8 func239<|ze4 some kR,
  f197:=zb8 func262<|ze4 some kR,
  f217:=zb8 func271<|ze4 some kR,
  f224:=zb8 func269<|ze4 some kR,
  f225:=zb8 func270<|ze4 some kR,
  f227:=zb8 func254<|ze4 some kR,
  f228:=zb8 func261<|ze4 some kR,
  f231:=zb8 func253<|ze4 some kR,
  f233:=zb8 func255<|ze4 some kR,
  f235:=zb8 func256<|ze4 some kR,
  f260:=zb8 func265<|ze4 some kR,
  f266:=zb8 func272<|ze4 some kR,t0:=uT0,
  a0:=isAgg0,z0:=sizeOf0,v0:=zm4,t3:=uT3,a3:=iT3,
  z3:=zT3,v3:=zl4,t4:=uT4,a4:=isAgg4,z4:=zT4,
  v4:=zl9,t5:=uT5,a5:=isAgg5,z5:=sizeOf5,v5:=zeroValue5,
  t9:=uT9,a9:=isAgg9,z9:=sizeOf9,v9:=zeroValue9,t21:=underlying21,
  a21:=isAgg21,z21:=sizeOf21,v21:=zeroValue21,t46:=jL,a46:=isAgg138,
  z46:=sizeOf138,v46:=zeroValue138,t105:=underlying273,a105:=isAgg273,
  z105:=sizeOf273,v105:=zeroValue273,t116:=underlying264,a116:=isAgg264,
  z116:=sizeOf264,t117:=underlying265,a117:=isAgg265,z117:=sizeOf265,
  v117:=zeroValue265,t119:=underlying278,a119:=isAgg278,z119:=sizeOf278,
  t124:=underlying268,a124:=isAgg268,z124:=sizeOf268,v124:=zeroValue268,
  t138:=underlying280,a138:=isAgg280,z138:=sizeOf280,v138:=zeroValue280,
  t139:=underlying281,a139:=isAgg281,z139:=sizeOf281,v139:=zeroValue281,
  g3:=kR,g4:=kR }
def CU (l:List UInt8):List UInt8:=l.dropWhile (· == 0)
theorem tu (E:World)(g:PH)(s:Own)(l:List UInt8) :
  Ctr Tryz.prog E 239 #[txt l,txt [0]] g s (fun r g' s'=>r=txt (CU l)∧g=g'∧s=s'):=by
 intro w a;refine (Any.strings_TrimLeft_one lays161 ⟨l.toArray⟩ 0 dC w).mono ?_;rintro e w' ⟨rfl,rfl⟩;exact⟨_,g,s,I,a,I,I,I⟩
def by4 (x:Int):List Int:=[IntKind.u8.wrap<|x.fdiv<|2 ^ min (24:Int).toNat IntKind.u64.bits,IntKind.u8.wrap<|x.fdiv<|2 ^ min (16:Int).toNat IntKind.u64.bits,IntKind.u8.wrap<|x.fdiv<|2 ^ min (8:Int).toNat IntKind.u64.bits,IntKind.u8.wrap x]
def byP (x:Nat×Int):List Int:=by4 x.2
theorem Ak (l:List (Nat×Int)):(l.flatMap byP).length=4 * l.length:=by
 induction l with
 | nil=>rfl
 | cons a t ih=>simp only[zh7,ze7,ih,zf1,byP,by4,zc5];omega
theorem xK (l:List Int):(gp l).length≤l.length:=by
 unfold gp;rw[List.length_reverse];have:=(List.dropWhile_sublist (l:=l.reverse) (· == 0)).length_le;simpa using this
def mL (l:List Int):List UInt8:=CU (byt<|(tY<|gp l).flatMap byP)
def EK (neg:Bool)(bs:List UInt8):Value:=.agg #[vb<|neg&&decide (bs≠[]),txt bs]
theorem Tryz.build191 (a:Bool)(l:List UInt8)(w:World):(Instr.build 191 #[(0,vb a),(1,txt l)]).run Tryz.prog w = .ok (.agg #[vb a,txt l]) w:=by
 have b:(vb a).cells = #[vb a]:=rfl;have c:(txt l).cells = #[txt l]:=rfl;simp[Instr.build,Instr.fill,b,c];rfl
theorem vE (E:World)(g:PH)(s:Own)(v:Value)(l:List Int)(neg:Bool)(J:SlA Fy g v l)(hl:l.length<1099511627776) :
  Ctr Tryz.prog E 222 #[v,vb neg] g s (fun r g' s'=>r=EK neg (mL l)∧s=s'∧Le g g'):=by
 have K:=xK l;refine Ctr.ofX (args:=[v,vb neg]) func222 I ntmps222 (bE I)<|XC.seq<|XC.region<|XL.o (aL zeroValue191) dC ?_;rintro _ _ _ ⟨H,rfl,rfl,rfl⟩;refine XL.nil<|XT.thenN<|XC.seq<|XC.region<|XL.u (mV I) dC<|XL.o (SO.call call237 I<|B6 E g _ v l J hl) dC ?_;rintro v10 _ _ ⟨rfl,rfl,hm⟩;obtain ⟨q,d,rfl⟩:=za4 hm;refine XL.u (aS I) dC<|XL.nil<|XT.thenN<|XC.seq<|XC.region<|XL.u (mV I) dC<|XL.u (eN tg I) dC<|XL.u (SU.eq (v':=vi<|(4 * (gp l).length:Nat)) (SU.mul I I oM)<|ze4 vi oM) dC<|XL.o (SO.makeC tq sty250 I I oM oM) dC ?_;rintro v14 _ _ ⟨rfl,rfl⟩;refine XL.facts fun ⟨f,b⟩=>?_;obtain ⟨j,p,rfl⟩:=ah (i:=0) b rfl;clear b f;refine XL.o (aL zeroValue250) dC ?_;rintro _ _ _ ⟨z,rfl,rfl,rfl⟩;refine XL.on (sK 0 sizeOf250 I I I I I sB) ?_;rintro _ _ _ ⟨rfl,rfl⟩;refine XL.nil<|XT.thenN<|XC.seq<|XC.seq<|XC.region<|XL.u (mV I) dC<|XL.o (SO.call call238 I<|tO E _ _ _ I) dC ?_;rintro _ g1 _ ⟨rfl,t,L,rfl,A⟩;refine XL.nil<|XT.thenN<|XC.block<|XC.to (g':=g1) (s':=rowA tq 5 (.slice j 0 p) []::pt z (bY #[.slice j 0 p] 250)::pt H (.cells #[vb false,txt []] 191 (0,0))::s) (fun w B=>B.perm<|zk3 _ _ _)<|XC.rangeFunc (α:=Nat×Int) (ι:=Value×List Int) (encs:=fun x=>[vi x.1,.int .u64 x.2]) (xs:=tY<|gp l) (g0:=g1) (fun _=>g1) (fun i=>rowA tq 5 i.1 i.2::pt z (bY #[i.1] 250)::pt H (.cells #[vb false,txt []] 191 (0,0))::[]) (fun pre i=>i.2=pre.flatMap byP) (.slice j 0 p,[]) s
  (fun x=>[(18,.int .u64 x.2),(17,vi x.1),(5,pp z 0)]) (fun _ x _=>[(7,.int .u64 x.2),(5,pp z 0)]) rfl rfl call252 (fun _=>rfl) rfl rfl (qH E g1 L _ _ A (za5 hm t) oM) (fun _ _ _=>zb9 _) rfl
  (fun x a h=>Ff (h.sub (g:=[(5,pp z 0)]) ⟨rfl,trivial⟩) dC dC) ?_ ?_ ?_
 ·intro k pre x i sx y;exact XC.region<|XL.u (aS I) dC<|XL.nil<|XT.assignEnd sB
 ·rintro k pre ⟨R,x⟩ M ⟨bv,c⟩ sx C y;dsimp only at y ⊢;have N:pre.length<(gp l).length:=by
   have:=ze4 List.length C;rw[pn,ze7,zf1] at this;omega
  have O:c.length=4 * pre.length:=by rw[y,Ak]
  refine XC.facts fun ⟨f,b⟩=>?_;obtain ⟨F,d2,rfl⟩:=ah (i:=0) b rfl;clear b f;refine XC.block<|XC.region<|XL.q (qL (v:=.slice F c.length d2) isAgg250 I<|cO 1 I I) dC<|XL.u (mV I) dC<|XL.u (SU.shr I I dC) dC<|XL.u (ze1 ng uT5 I) dC<|XL.u (mV I) dC<|XL.u (SU.shr I I dC) dC<|XL.u (ze1 ng uT5 I) dC<|XL.u (mV I) dC<|XL.u (SU.shr I I dC) dC<|XL.u (ze1 ng uT5 I) dC<|XL.u (mV I) dC<|XL.u (ze1 ng uT5 I) dC<|XL.o (bS sty250 I I I (ab sB) dC) dC ?_;rintro _ _ _ ⟨P,rfl,rfl,rfl⟩;refine XL.to (fun w B=>At.litRow (e:=tq) (l:=by4 x) (n:=3) B I I dC)<|XL.o (SO.appendE (m:=4) 1 (c++by4 x).length ((c++by4 x).flatMap tq.enc) sty250 I I I I I (zb7 0 I) (tq.length<|by4 x) (tq.ones _) (by simp[by4]) dO (by simp[by4];omega) (by simp[by4];omega)) dC ?_;rintro v32 _ _ ⟨rfl,rfl⟩;refine XL.facts fun ⟨f,b⟩=>?_;obtain ⟨Q,d3,rfl⟩:=ah (e:=tq) (l:=c++by4 x) (i:=1) b rfl;clear b f;refine XL.on (sK 2 sizeOf250 I I I I I sB) ?_;rintro _ _ _ ⟨rfl,rfl⟩;exact XL.nil<|XT.blockN<|XT.drop (zj3 _ _)<|XT.roundEnd (.slice Q (c++by4 x).length d3,c++by4 x) I I (by dsimp only;rw[List.flatMap_append,y];simp[byP])
 ·rintro D ⟨bv,c⟩ y;dsimp only at y ⊢;refine XT.facts fun ⟨f,b⟩=>?_;obtain ⟨F,d2,rfl⟩:=ah (i:=1) b rfl;clear b f;refine XT.blockN<|XT.thenN<|XC.seq<|XC.region<|XL.q (qL (v:=.slice F c.length d2) isAgg250 I<|cO 2 I I) dC<|XL.q (SQ.bytesText underlying250 uT5 uT9 I<|zb7 1 I) dC<|XL.o (SO.call call239 I<|tu E g1 _<|byt c) dC ?_;rintro _ _ _ ⟨rfl,rfl,rfl⟩;refine XL.u (aS I) dC<|XL.nil<|XT.thenN ?_;have G:CU (byt c)=mL l:=by unfold mL;rw[y]
  rw[G];generalize mL l=T at *;cases neg
  ·refine XC.seq<|XC.region<|XL.u (mV I) dC<|XL.u (mV I) dC<|XL.off (gZ I I I dC) dC<|XL.off (gZ I I I dC) dC<|XL.u (wF I I) dC<|XL.u (mV I) dC<|XL.u (za3 I<|build191 _ _) dC<|XL.on (sK 3 sizeOf191 I I I I I sB) ?_;rintro _ _ _ ⟨rfl,rfl⟩;exact XL.nil<|XT.thenN<|XC.ret<|XT.leave1 (.inl I)<|ST.retCD 2 s (.inl I) results222 I isAgg191 sizeOf191 I I (.cons _<|.cons _<|.cons _<|.refl _) ⟨I,I,t⟩
  ·refine XC.seq<|XC.region<|XL.u (mV I) dC<|XL.u (mV I) dC<|XL.gu (gT I I I dC) (mV I) dC<|XL.gu (gT I I I dC) (SU.neqT I I) dC<|XL.u (wT I I) dC<|XL.u (mV I) dC<|XL.u (za3 I<|build191 _ _) dC<|XL.on (sK 3 sizeOf191 I I I I I sB) ?_;rintro _ _ _ ⟨rfl,rfl⟩;exact XL.nil<|XT.thenN<|XC.ret<|XT.leave1 (.inl I)<|ST.retCD 2 s (.inl I) results222 I isAgg191 sizeOf191 I I (.cons _<|.cons _<|.cons _<|.refl _) ⟨I,I,t⟩
open Go Go.Sy Go.Pl Go.Proofs
theorem SU.negK {P:Program}{N:Nat}{f:Fr}{dst:Option Tmp}{ty:TypeId}{pos:String}{af:Array Edge}{gd:Option (Nat×Bool)}{x:Operand}{T:TypeId}{k:IntKind}{n:Int}(b:ev f x=some (.int k n)):SU P N ⟨dst,.unOp .neg T x,ty,pos,af,gd⟩ f (.int k<|k.wrap<|0 - n):=fun a w c=>by
 simp only[execOp,c.ev b];rfl
theorem EC (n:Int):IntKind.u64.wrap n=n % 18446744073709551616:=by simp[IntKind.wrap,IntKind.bits,IntKind.signed]
theorem Ga (m:Nat)(h:m<18446744073709551616):IntKind.u64.wrap (BitVec.ofInt IntKind.u64.bits (m:Int) &&& BitVec.ofInt IntKind.u64.bits 4294967295).toNat=((m % 4294967296:Nat):Int):=by
 have a:(BitVec.ofInt IntKind.u64.bits (m:Int) &&& BitVec.ofInt IntKind.u64.bits 4294967295).toNat=m % 4294967296:=by
  have hb:IntKind.u64.bits=64:=rfl;rw[hb,BitVec.toNat_and];have e1:(BitVec.ofInt 64 (m:Int)).toNat=m:=by
   rw[BitVec.toNat_ofInt];omega
  have e2:(BitVec.ofInt 64 4294967295).toNat=2 ^ 32 - 1:=by decide
  rw[e1,e2,Nat.and_two_pow_sub_one_eq_mod]
 rw[a];exact IntWalk.u64_in _ oM
theorem GC (m:Nat):((m:Nat):Int).fdiv (2 ^ min (32:Int).toNat IntKind.u64.bits)=((m / 4294967296:Nat):Int):=by
 have a:((2:Int) ^ min (32:Int).toNat IntKind.u64.bits)=4294967296:=by decide
 rw[a,Int.fdiv_eq_ediv_of_nonneg _ dC];omega
theorem Tryz.buildE191 (w:World):(Instr.build 191 #[]).run Tryz.prog w = .ok (.agg #[vb false,txt []]) w:=by
 simp[Instr.build,Instr.fill];rfl
def wx (n:Int):List Int:=[((n.natAbs % 4294967296:Nat):Int),((n.natAbs / 4294967296:Nat):Int)]
theorem DP (E:World)(g:PH)(s:Own)(n:Int)(f : -9223372036854775808≤n)(i:n<9223372036854775808) :
  Ctr Tryz.prog E 202 #[vi n] g s (fun r g' s'=>r=EK (decide (n<0)) (mL<|wx n)∧s=s'∧Le g g'):=by
 refine zb2 (args:=[vi n]) func202 I ntmps202 (bE I)<|rZ (bW (aL zeroValue191) fun d=>?_);refine tZ<|sW I<|lU (ze1 uT3 ng I)<|aT I<|SC.cut (ι:=Unit) (fun _=>[(0,vi n),(2,pp d 0),(3,.int .u64 (n.natAbs:Int))]) (fun _=>g) (fun _=>pt d (.cells #[vb false,txt []] 191 (0,0))::s) (fun _=>True) ?_ ?_
 ·refine sW I<|yL I<|tZ<|iP I (fun hn=>?_) (fun hn=>?_)
  ·have c:IntKind.u64.wrap (0 - IntKind.u64.wrap n)=(n.natAbs:Int):=by
    rw[EC,EC];omega
   exact rG<|lM I<|lU (SU.negK I)<|lA I<|SL.nil<|za9 () ⟨I,I,by rw[← c];rfl,trivial⟩ rfl rfl trivial
  ·have c:IntKind.u64.wrap n=(n.natAbs:Int):=by
    rw[EC];omega
   exact kP<|za9 () ⟨I,I,by rw[← c];rfl,trivial⟩ rfl rfl trivial
 rintro _ -;try dsimp only
 refine sW I<|lU (SU.eq (v':=.int .u64 ((n.natAbs % 4294967296:Nat):Int)) (SU.and I I)<|ze4 _<|Ga _ oM)<|lM I<|lU (SU.eq (v':=.int .u64 ((n.natAbs / 4294967296:Nat):Int)) (SU.shr I I dC)<|ze4 _<|GC _)<|lW (bS sty239 I I I (ab sB) dC) ?_;rintro _ _ _ ⟨e,rfl,rfl,rfl⟩;refine zb5 fun g1 a hb=>?_;refine lM I<|yL I<|lW (SO.call call222 I<|vE E g1 _ _ (wx n) _ (SlA.lit hb I I)<|by simp[wx]) ?_;rintro _ g2 _ ⟨rfl,rfl,b⟩;refine oZ (sK 0 sizeOf191 I I I I I sB) ?_;refine tZ<|rE ?_;exact ST.retCD 0 s (.inl I) results202 I isAgg191 sizeOf191 I I uR ⟨I,I,a.trans b⟩
def hiB (x:Int):Int:=IntKind.u8.wrap (IntKind.i64.wrap<|x.tdiv 256)
def loB (x:Int):Int:=IntKind.u8.wrap (x.tmod 256)
def gY:List Int→List Int
 | []=>[]
 | x::D=>gY D++((if decide (D≠[])||decide (x≥256) then [hiB x] else [])++[loB x])
theorem uQ:∀ D:List Int,(gY D).length≤2 * D.length
 | []=>by simp[gY]
 | x::D=>by
  have:=uQ D;simp only[gY,ze7,zf1,zc5];split <;> simp <;> omega
theorem vz (E:World)(g:PH)(s:Own)(v:Value)(neg:Bool)(l:List Int)(A:SlA encInt g v l)(hl:l.length<1099511627776) :
  Ctr Tryz.prog E 233 #[vb neg,v] g s (fun r g' s'=>r = .agg #[vb<|neg&&decide (gp l≠[]),txt<|byt<|gY<|gp l]∧s=s'∧Le g g'):=by
 have C:=xK l;refine zb2 (args:=[vb neg,v]) func233 I ntmps233 (bE I)<|rZ (bW (aL zeroValue191) fun m=>?_);refine tZ<|sW I<|lW (SO.call call243 I<|vA E g _ v l A hl) ?_;rintro v8 _ _ ⟨rfl,rfl,hm⟩;obtain ⟨q,d,rfl⟩:=za4 hm;refine aT I<|sQ<|sW I<|lU (eN az I)<|yE I<|tZ ?_;generalize gp l=t at *;refine iP I (fun hz=>?_) (fun hz=>?_)
 ·have o:t=[]:=zf6 oM;subst o;exact rZ<|lU (za3 I<|buildE191)<|oZ (sK 0 sizeOf191 I I I I I sB)<|tZ<|rE<|tR<|ST.retCD 0 s (.inl I) results233 I isAgg191 sizeOf191 I I uR ⟨by cases neg <;> rfl,I,zb9 g⟩
 ·refine kP<|tN<|rZ<|aT I<|sQ<|sW I<|lU (eN az I)<|lU (sU I I oM)<|aT I<|bK<|zb6 5 1<|oP (ι:=Nat×Value) (fun i=>[(0,vb neg),(1,.slice q t.length d),(4,pp m 0),(5,i.2),(6,vi<|(i.1:Int) - 1)]) (fun _=>g) (fun i=>rowA tq 5 i.2 (gY<|t.drop i.1)::pt m (.cells #[vb false,txt []] 191 (0,0))::s) (fun i=>i.1≤t.length) (fun i=>i.1) (t.length,.slice none 0 0)
   sB rfl (by dsimp only;rw[List.drop_length];rfl) (Nat.le_refl _) ?_
  rintro ⟨n,bv⟩ hn;dsimp only at hn ⊢;refine sQ<|sW I<|lU (gQ I I)<|tZ<|iP I (fun p=>?_) (fun p=>?_)
  ·have f:n - 1<t.length:=oM;have a:=za6 hm oM;have b:t[((n:Int) - 1).toNat]?=some t[n - 1]:=by rw[show ((n:Int) - 1).toNat=n - 1 by omega];exact List.getElem?_eq_getElem f
   have u:t.drop (n - 1)=t[n - 1]::t.drop n:=by
    have:=zg8 f;rwa [show n - 1+1=n by omega] at this
   have w:decide (t.drop n≠[])=decide ((n:Int) - 1<(t.length:Int) - 1):=by
    rw[decide_eq_decide];constructor
    ·intro h;have:=List.length_pos_iff.2 h;rw[zf2] at this;omega
    ·intro h e;have:=ze4 List.length e;rw[zf2,zc5] at this;omega
   have y:=uQ<|t.drop n;rw[zf2] at y;generalize t[n - 1]=x at *;have j:gY (t.drop<|n - 1)=gY (t.drop n)++((if decide ((n:Int) - 1<(t.length:Int) - 1)||decide (x≥256) then [hiB x] else [])++[loB x]):=by rw[u,gY,w]
   generalize gY (t.drop n)=B at *;have f1:(n:Int) - 1<(t.length:Int) - 1→(decide ((n:Int) - 1<(t.length:Int) - 1)||decide (x≥256))=true:=fun h=>by rw[zg1 h,Bool.true_or]
   have f2:¬ (n:Int) - 1<(t.length:Int) - 1→(decide ((n:Int) - 1<(t.length:Int) - 1)||decide (x≥256))=decide (x≥256):=fun h=>by rw[zf9 h,Bool.false_or]
   refine kP<|tN<|sQ<|bK<|SC.cut (ι:=Value) (fun i=>[(0,vb neg),(1,.slice q t.length d),(4,pp m 0),(5,i),(6,vi<|(n:Int) - 1)]) (fun _=>g) (fun i=>rowA tq 5 i (B++(if decide ((n:Int) - 1<(t.length:Int) - 1)||decide (x≥256) then [hiB x] else []))::pt m (.cells #[vb false,txt []] 191 (0,0))::s) (fun _=>True) ?_ ?_
   ·refine SC.cutB 31 ((decide ((n:Int) - 1<(t.length:Int) - 1)||decide (x≥256))) ?_ ?_
    ·refine rG<|lM I<|lM I<|lU (eN az I)<|lU (sU I I oM)<|yL I<|lM I<|sP ?_ ?_
     ·intro c;exact yA I<|yA I<|yA I<|yA I<|yA I<|yP I<|SL.nil<|zb1 (by (rw[f1 c];rfl)) mI
     ·intro c;exact yC I<|yC I<|lY I I I (iA az zT3 I I a oM sL)<|SL.gq (gT I I I dC) (eB iT3 I (za7 hm) b I) dC<|lY I I I (gQ I I)<|yF I<|SL.nil<|zb1 (by (rw[f2 c];rfl)) mI
    refine iQ I (fun hc=>?_) (fun hc=>?_)
    ·refine rG<|lM I<|lM I<|lM I<|lU (iA az zT3 I I a oM sL)<|lK (eB iT3 I (za7 hm) b I)<|lU (SU.quo I I dC)<|lU (SU.eq (v':=.int .u8<|hiB x) (ze1 uT3 uT5 I) I)<|lW (bS sty250 I I I (ab sB) dC) ?_;rintro _ _ _ ⟨D,rfl,rfl,rfl⟩;refine lW (aP (e:=tq) 0 (hiB x) sty250 I I I I I oM oM) ?_;rintro bv' _ _ ⟨rfl,rfl⟩;exact lA I<|SL.nil<|za9 bv' sB I (by rw[zg3 hc];rfl) trivial
    ·exact kP<|za9 bv sB I (by rw[zg2 (by rw[hc];simp),zc7]) trivial
   rintro bv2 -;try dsimp only
   have F:(B++(if decide ((n:Int) - 1<(t.length:Int) - 1)||decide (x≥256) then [hiB x] else [])).length≤B.length+1:=by
    rw[ze7];split <;> simp
   rw[← zh1] at j;generalize (B++(if decide ((n:Int) - 1<(t.length:Int) - 1)||decide (x≥256) then [hiB x] else []))=B2 at *;refine rG<|lM I<|lM I<|lM I<|lU (iA az zT3 I I a oM sL)<|lK (eB iT3 I (za7 hm) b I)<|lU (zd9 I I dC)<|lU (SU.eq (v':=.int .u8<|loB x) (ze1 uT3 uT5 I) I)<|lW (bS sty250 I I I (ab sB) dC) ?_;rintro _ _ _ ⟨G,rfl,rfl,rfl⟩;refine lW (aP (e:=tq) 0 (loB x) sty250 I I I I I oM oM) ?_;rintro bv3 _ _ ⟨rfl,rfl⟩;exact lA I<|SL.nil<|bN<|tN<|rG<|lM I<|lU (sU I I oM)<|lA I<|SL.nil<|ST.again (n - 1,bv3) ⟨I,I,I,I,FJ I oM,trivial⟩ I (by dsimp only;rw[j];rfl) (by dsimp only;omega) (by dsimp only;omega)
  ·have z:n=0:=oM;subst z;refine SC.facts fun ⟨H,k⟩=>?_;obtain ⟨J,d2,rfl⟩:=ah (i:=0) k rfl;clear k H;rw[List.drop_zero] at *;exact xI<|tX<|tX<|bX<|tN<|sW I<|lM I<|lK (SQ.bytesText underlying250 uT5 uT9 I<|zb7 0 I)<|lU (za3 I<|build191 _ _)<|oZ (sK 1 sizeOf191 I I I I I sB)<|tZ<|rE<|ST.retCD 1 s (.inl I) results233 I isAgg191 sizeOf191 I I uR ⟨by rw[show decide (t≠[])=true from zg1 (fun e:t=[]=>hz (by rw[e];rfl)),Bool.and_true];rfl,rfl,zb9 g⟩
def nV (m:Nat):List Int:=if h:m=0 then [] else ((m % 65536:Nat):Int)::nV (m / 65536)
termination_by m
decreasing_by omega
theorem jH:nV 0=[]:=by unfold nV;rfl
theorem lB {m:Nat}(h:m≠0):nV m=((m % 65536:Nat):Int)::nV (m / 65536):=by rw[nV,dif_neg h]
theorem pJ:∀ (k m:Nat),m<65536 ^ k→(nV m).length≤k
 | 0,m,h=>by
  have:m=0:=by simpa using h
  subst this;rw[jH];simp
 | k+1,m,h=>by
  by_cases a:m=0
  ·subst a;rw[jH];simp
  ·rw[lB a,zf1];have:=pJ k (m / 65536) (by rw[Nat.div_lt_iff_lt_mul dC];rwa [Nat.pow_succ] at h);omega
theorem CB (m:Nat):gp (nV m)=nV m:=by
 have key:∀ m,nV m=[]∨∃ a x,nV m=a++[x]∧x≠0:=by
  intro m;induction m using Nat.strongRecOn with
  | _ m ih =>
   by_cases c:m=0
   ·left;subst c;exact jH
   ·right;rw[lB c]
    rcases ih (m / 65536) oM with h | ⟨a,x,h,b⟩
    ·refine⟨[],_,by rw[h];rfl,?_⟩;by_cases d:m / 65536=0
     ·omega
     ·rw[lB d] at h;cases h
    ·exact⟨_::a,x,by rw[h];rfl,b⟩
 rcases key m with h | ⟨a,x,h,b⟩
 ·rw[h];rfl
 ·rw[h];simp[gp,b]
theorem wO (E:World)(g:PH)(s:Own)(n:Int)(u : -9223372036854775808≤n)(v:n<9223372036854775808) :
  Ctr Tryz.prog E 211 #[vi n] g s (fun r g' s'=>r = .agg #[vb<|decide (n<0)&&decide (nV n.natAbs≠[]),txt<|byt<|gY<|nV n.natAbs]∧s=s'∧Le g g'):=by
 have p:=pJ 4 n.natAbs oM;refine zb2 (args:=[vi n]) func211 I ntmps211 (bE I)<|rZ (bW (aL zeroValue191) fun j=>?_);refine tZ<|rZ<|aT I<|sW I<|lU (ze1 uT3 ng I)<|aT I<|SC.cut (ι:=Unit) (fun _=>[(0,vi n),(2,pp j 0),(3,.slice none 0 0),(4,.int .u64 (n.natAbs:Int))]) (fun _=>g) (fun _=>pt j (.cells #[vb false,txt []] 191 (0,0))::s) (fun _=>True) ?_ ?_
 ·refine sW I<|yL I<|tZ<|iP I (fun hn=>?_) (fun hn=>?_)
  ·have k:IntKind.u64.wrap (0 - IntKind.u64.wrap n)=(n.natAbs:Int):=by
    rw[EC,EC];omega
   exact rG<|lM I<|lU (SU.negK I)<|lA I<|SL.nil<|za9 () ⟨I,I,I,by rw[← k];rfl,trivial⟩ rfl rfl trivial
  ·have k:IntKind.u64.wrap n=(n.natAbs:Int):=by
    rw[EC];omega
   exact kP<|za9 () ⟨I,I,I,by rw[← k];rfl,trivial⟩ rfl rfl trivial
 rintro _ -;try dsimp only
 refine sQ<|bK<|zb6 3 1<|oP (ι:=Nat×Value×List Int) (fun i=>[(0,vi n),(2,pp j 0),(3,i.2.1),(4,.int .u64 (i.1:Int))]) (fun _=>g) (fun i=>rowA encInt 3 i.2.1 i.2.2::pt j (.cells #[vb false,txt []] 191 (0,0))::s) (fun i=>i.2.2++nV i.1=nV n.natAbs∧i.1≤n.natAbs) (fun i=>i.1) (n.natAbs,.slice none 0 0,[])
  sB rfl rfl ⟨rfl,Nat.le_refl _⟩ ?_
 rintro ⟨m,bv,D⟩ ⟨b,hm⟩;dsimp only at b hm ⊢;have q:D.length≤4:=by have:=ze4 List.length b;rw[ze7] at this;omega
 refine sQ<|sW I<|lU (gR I I)<|tZ<|iP I (fun c=>?_) (fun c=>?_)
 ·have a:m≠0:=oM;have l:=lB a;refine kP<|tN<|bK<|sW I<|lM I<|lU (zd9 I I dC)<|lU (SU.eq (v':=vi ((m % 65536:Nat):Int)) (ze1 ng uT3 I)<|ze4 vi (by rw[show ((m:Int)).tmod 65536=((m % 65536:Nat):Int) by rw[Int.tmod_eq_emod_of_nonneg oM];omega];exact zl2 _ oM)) ?_;refine lW (bS sty32 I I I (ab sB) dC) ?_;rintro _ _ _ ⟨t,rfl,rfl,rfl⟩;refine lW (aP (e:=encInt) 0 ((m % 65536:Nat):Int) sty32 I I I I I oM oM) ?_;rintro bv' _ _ ⟨rfl,rfl⟩;refine aT I<|rG<|lM I<|lU (SU.eq (v':=.int .u64 ((m / 65536:Nat):Int)) (SU.quo I I dC)<|ze4 _ (by rw[show ((m:Int)).tdiv 65536=((m / 65536:Nat):Int) by rw[Int.tdiv_eq_ediv_of_nonneg oM];omega];exact IntWalk.u64_in _ oM)) ?_;refine lA I<|SL.nil<|bN ?_;exact ST.again (m / 65536,bv',D++[((m % 65536:Nat):Int)]) sB I I ⟨by dsimp only;rw[← b,l];simp,by dsimp only;omega⟩ (by dsimp only;omega)
 ·have a:m=0:=oM;subst a;rw[jH,zc7] at b;subst b;refine xI (tX<|tX<|bX<|tN<|sQ<|fS fun g1 d o=>?_);refine rG<|lM I<|yL I<|lM I<|lW (SO.call call233 I<|vz E g1 _ bv _ (nV n.natAbs) o oM) ?_;rintro _ g2 _ ⟨rfl,rfl,f⟩;exact oZ (sK 0 sizeOf191 I I I I I sB)<|tZ<|rE<|ST.retCD 0 s (.inl I) results211 I isAgg191 sizeOf191 I I uR ⟨by rw[CB];rfl,rfl,d.trans f⟩
def beK:Nat→Nat→List UInt8
 | 0,_=>[]
 | k+1,m=>beK k (m / 65536)++[UInt8.ofNat<|m / 256,UInt8.ofNat m]
def xH (m:Nat):List UInt8:=CU (beK 4 m)
def FB (n:Int):Value:=EK (decide (n<0)) (xH n.natAbs)
theorem Aa (E:World)(g:PH)(s:Own)(n:Int)(hn:n=0∨n=1∨n = -1) :
  Ctr Tryz.prog E 202 #[vi n] g s (fun r g' s'=>r=FB n∧s=s'∧Le g g') :=
 (DP E g s n oM oM).mono fun _ _ _ ⟨a,b⟩=>⟨by
  rw[a]
  rcases hn with rfl | rfl | rfl
  ·rw[show mL (wx 0)=xH (0:Int).natAbs from by decide];rfl
  ·rw[show mL (wx 1)=xH (1:Int).natAbs from by decide];rfl
  ·rw[show mL (wx (-1))=xH (-1:Int).natAbs from by decide];rfl,b⟩
theorem tE (E:World)(g:PH)(s:Own)(n:Int)(hn:n=0∨n=1∨n = -1) :
  Ctr Tryz.prog E 211 #[vi n] g s (fun r g' s'=>r=FB n∧s=s'∧Le g g') :=
 (wO E g s n oM oM).mono fun _ _ _ ⟨a,b⟩=>⟨by
  rw[a];have e0:nV 0=[]:=jH;have e1:nV 1=[1]:=by rw[lB dC,e0];rfl
  rcases hn with rfl | rfl | rfl
  ·simp only[Int.natAbs_zero,e0];rw[show byt (gY [])=xH (0:Int).natAbs from by decide];rfl
  ·simp only[show (1:Int).natAbs=1 from rfl,e1];rw[show byt (gY [1])=xH (1:Int).natAbs from by decide];rfl
  ·simp only[show (-1:Int).natAbs=1 from rfl,e1];rw[show byt (gY [1])=xH (-1:Int).natAbs from by decide];rfl,b⟩
def fq (l:List Cl):List Int:=l.flatMap fun c=>c.sides.map aj.cell
theorem wH (A:List Cl)(k:Int):(fq A).contains k=kS A k:=by
 rw[Bool.eq_iff_iff];simp[fq,kS,nU]
theorem vx {A:List Cl}{k:Nat}(h:k<A.length):fq (A.take<|k+1)=fq (A.take k)++A[k].sides.map aj.cell:=by
 unfold fq;rw[tS h,List.flatMap_append];simp only[zh7,List.flatMap_nil,zc7]
theorem DR {A:List Cl}{id:Int}(h:ag A id=none)(m:List Int):gL A (m++[id])=gL A m:=by
 unfold gL;refine zc9 fun c hc=>?_;have:=List.find?_eq_none.1 h c hc;simp only[zj7] at this;simp[this]
theorem Cb {ss:List aj}{j:Nat}(h:j<ss.length)(m:List Int):m++(ss.take<|j+1).map aj.cell=(m++(ss.take j).map aj.cell)++[ss[j].cell]:=by
 rw[tS h,zg7,zh1];rfl
theorem vB (E:World)(g:PH)(s:Own)(v:Value)(l:List Cl)(hv:ai g v l)(hf:aM l) :
  Ctr Tryz.prog E 128 #[.agg #[v]] g s (fun r g' s'=>s=s'∧Le g g'∧dp g' r (wy l)):=by
 have M:=bU hf;have N:=M.1;have t:=fD l;have a1:=iX l;refine zb2 (args:=[.agg #[v]]) func128 I ntmps128 (bE I)<|rZ (bW (bO I) fun L=>?_);refine aT I<|rZ<|aT I<|rZ<|lK (qV 0 an ae I I I)<|lW (SO.call call54 I<|dw E g _ _ l hv hf) ?_;rintro v11 g1 _ ⟨rfl,a2,hc⟩;obtain ⟨rs,n,p⟩:=hc;have O:ai g1 _ (am l):=⟨rs,n,p⟩;obtain ⟨q,dd,rfl⟩:=n.form;have a3:=p.length;refine aT I<|sW I<|lU (eN aF I)<|lW (mK ja false sty149 I I I oM oM) ?_;rintro _ _ _ ⟨b,rfl,rfl,rfl⟩;refine aT I<|sQ<|rZ<|aT I<|bK ?_;unfold wy;generalize am l=A at *;refine SC.to (g':=g1) (s':=rowA ja 4 (.slice (some ⟨b,0,none⟩) rs.length rs.length) (gL A<|fq<|A.take 0)::pt L (bY #[v] 29)::s) (fun w P=>by rw[show fq (A.take 0)=[] from I,Cw,a3];exact P) ?_;refine oP (ι:=Nat) (fun i=>[(3,.slice none 0 0),(4,.slice q rs.length dd),(5,.slice (some ⟨b,0,none⟩) rs.length rs.length),(6,vi i)]) (fun _=>g1)
  (fun i=>rowA ja 4 (.slice (some ⟨b,0,none⟩) rs.length rs.length) (gL A<|fq<|A.take i)::pt L (bY #[v] 29)::s)
  (fun i=>i≤A.length) (fun i=>A.length - i) 0 sB rfl rfl (zf8 _) ?_
 intro k hk;refine sQ<|sW I<|lM I<|lU (eN aF I)<|yL I<|tZ<|iP I (fun a4=>?_) (fun a4=>?_)
 ·have F:k<A.length:=oM;have Q:k<rs.length:=oM;have d:=n.based oM;have G:=p.get (List.getElem?_eq_getElem F)<|List.getElem?_eq_getElem Q;have y:rs[((k:Nat):Int).toNat]?=some rs[k]:=List.getElem?_eq_getElem Q;have f:=vx F;have b7:=M.2 _<|gM F;generalize A[k]=x at *;generalize rs[k]=r at *;generalize fq (A.take k)=m at *;obtain ⟨ri,rd,rp,rn,rc⟩:=r;have C:SlA encSide g1 (.slice rp rn rc) x.sides:=G.2.2;have a5:rn=x.sides.length:=by obtain ⟨q,cc,hq⟩:=za4 C;simp at hq;exact hq.2.1
  subst a5;refine kP<|tN<|sQ<|bK<|rZ<|aT I<|bK<|oP (ι:=Nat) (fun j=>[(3,.slice none 0 0),(4,.slice q rs.length dd),(5,.slice (some ⟨b,0,none⟩) rs.length rs.length),(6,vi k),(7,vi j)]) (fun _=>g1)
   (fun j=>rowA ja 4 (.slice (some ⟨b,0,none⟩) rs.length rs.length) (gL A<|m++(x.sides.take j).map aj.cell)::pt L (bY #[v] 29)::s)
   (fun j=>j≤x.sides.length) (fun j=>x.sides.length - j) 0 sB rfl dO (zf8 _) ?_
  intro j hj;refine sQ<|sW I<|lM I<|lM I<|lU (iA aF ar I I d oM sL)<|lU (fC ao I aH I d)<|lK (aZ (e:=encCell) (o:=2) (u:=.slice rp x.sides.length rc) bi I n.rd y I)<|lU (eN a7 I)<|yL I<|tZ<|iP I (fun R=>?_) (fun R=>?_)
  ·have S:j<x.sides.length:=oM;have D:=za6 C oM;have T:x.sides[((j:Nat):Int).toNat]?=some x.sides[j]:=List.getElem?_eq_getElem S;have U:=Cb S m;generalize m++(x.sides.take j).map aj.cell=m2 at *;generalize x.sides[j]=z at *;have V:(gL A m2).length=A.length:=by simp[gL]
   rcases se t z.cell with ⟨H,J⟩ | ⟨c,kk,H,J,W⟩
   ·refine kP<|tN<|sQ<|bK<|sW I<|lM I<|lM I<|lU (iA aF ar I I d oM sL)<|lU (fC ao I aH I d)<|lK (aZ (e:=encCell) (o:=2) (u:=.slice rp x.sides.length rc) bi I n.rd y I)<|lM I<|lU (iA a7 aR I I D oM sL)<|lU (fC de I zT3 I D)<|lK (aZ (o:=0) (u:=vi z.cell) iT3 I C.rd T I)<|lW (SO.call call107 I<|ip E g1 _ _ A z.cell O N t) ?_;rintro _ _ _ ⟨rfl,rfl,rfl⟩;rw[J];exact aT I<|sW I<|lU (SU.eq (v':=vb false) (gQ I I)<|ze4 vb<|zf9 oM)<|tZ<|za1 I<|kP<|bN<|tN<|rG<|lM I<|yD I<|lA I<|SL.nil<|ST.again (j+1) sB I (by rw[U,DR H]) oM oM
   ·have b5:kk<A.length:=(zf7.1 W).1;have X:(gL A m2).set kk true=gL A (m2++[z.cell]):=by rw[Cv a1 W,(aJ H).2]
    refine kP<|tN<|sQ<|bK<|sW I<|lM I<|lM I<|lU (iA aF ar I I d oM sL)<|lU (fC ao I aH I d)<|lK (aZ (e:=encCell) (o:=2) (u:=.slice rp x.sides.length rc) bi I n.rd y I)<|lM I<|lU (iA a7 aR I I D oM sL)<|lU (fC de I zT3 I D)<|lK (aZ (o:=0) (u:=vi z.cell) iT3 I C.rd T I)<|lW (SO.call call107 I<|ip E g1 _ _ A z.cell O N t) ?_;rintro _ _ _ ⟨rfl,rfl,rfl⟩;rw[J];refine aT I<|sW I<|lU (SU.eq (v':=vb true) (gQ I I)<|ze4 vb<|zg1 oM)<|tZ<|za2 I<|rG<|lM I<|lM I<|lU (iA underlying149 zT4 I I I oM sL)<|oZ (SO.setA (e:=ja) (a:=true) 0 zT4 I I I (by rw[V];omega) I) ?_;exact SL.nil<|bN<|tN<|rG<|lM I<|yD I<|lA I<|SL.nil<|ST.again (j+1) sB I (by rw[U,← X];rfl) oM oM
  ·have a9:x.sides.take j=x.sides:=tL oM;rw[a9,← f];exact xI<|tX<|tX<|bX<|bN<|tN<|rG<|lM I<|yD I<|lA I<|SL.nil<|ST.again (k+1) sB I I oM oM
 ·have b0:A.take k=A:=tL oM;rw[b0];refine xI<|tX<|tX<|bX<|tN<|sQ<|rZ<|aT I<|bK<|cP (zk3 _ _ _)<|cP (zk3 _ _ _)<|zb6 3 1<|oP (ι:=Value×Nat) (fun i=>[(3,i.1),(4,.slice q rs.length dd),(5,.slice (some ⟨b,0,none⟩) rs.length rs.length),(9,vi i.2)]) (fun _=>g1)
   (fun i=>rowA encInt 3 i.1 (((A.take i.2).filter fun c=>!kS A c.id).map Cl.id)::rowA ja 4 (.slice (some ⟨b,0,none⟩) rs.length rs.length) (gL A<|fq A)::pt L (bY #[v] 29)::s)
   (fun i=>i.2≤A.length) (fun i=>A.length - i.2) (.slice none 0 0,0) sB rfl rfl (zf8 _) ?_
  rintro ⟨ov,i⟩ hi;dsimp only at hi ⊢;refine sQ<|sW I<|lM I<|lU (eN aF I)<|yL I<|tZ<|iP I (fun Y=>?_) (fun Y=>?_)
  ·have K:i<A.length:=oM;have Z:i<rs.length:=oM;have d:=n.based oM;have G:=p.get (List.getElem?_eq_getElem K)<|List.getElem?_eq_getElem Z;have y:rs[((i:Nat):Int).toNat]?=some rs[i]:=List.getElem?_eq_getElem Z;have f:=oK K (fun c=>!kS A c.id) Cl.id;have b6:=we A i (fun c=>!kS A c.id) Cl.id;have b2:(gL A<|fq A)[((i:Nat):Int).toNat]?=some (kS A A[i].id):=by rw[← wH];exact Cx<|List.getElem?_eq_getElem K
   generalize A[i]=x at *;generalize rs[i]=r at *;refine kP<|tN<|sQ<|bK<|sW I<|lM I<|lU (iA underlying149 zT4 I I I oM sL)<|lK (eB (e:=ja) isAgg4 I (zb7 1 I) b2 I)<|lU (SU.not I)<|tZ<|iQ I (fun B=>?_) (fun B=>?_)
   ·refine rG<|lM I<|lM I<|lM I<|lU (iA aF ar I I d oM sL)<|lU (fC ao I zT3 I d)<|lK (aZ (e:=encCell) (o:=0) (u:=vi x.id) iT3 I n.rd y (by rw[← G.1];rfl)) ?_;refine lW (bS sty32 I I I (ab sB) dC) ?_;rintro _ _ _ ⟨b8,rfl,rfl,rfl⟩;refine lW (aP (e:=encInt) 0 x.id sty32 I I I I I oM oM) ?_;rintro ov' _ _ ⟨rfl,rfl⟩;refine lA I<|SL.nil<|bN<|tN<|rG<|lM I<|yD I<|lA I<|SL.nil ?_;refine ST.to (fun w P=>?_) (g':=g1) (s':=rowA encInt 3 ov' (((A.take<|i+1).filter fun c=>!kS A c.id).map Cl.id)::rowA ja 4 (.slice (some ⟨b,0,none⟩) rs.length rs.length) (gL A<|fq A)::pt L (bY #[v] 29)::s) ?_
    ·rw[f,zg3 (by simpa using B)];exact P
    exact ST.again (ov',i+1) sB I I (by dsimp only;omega) lN
   ·refine kP<|bN<|tN<|rG<|lM I<|yD I<|lA I<|SL.nil ?_;refine ST.to (fun w P=>?_) (g':=g1) (s':=rowA encInt 3 ov (((A.take<|i+1).filter fun c=>!kS A c.id).map Cl.id)::rowA ja 4 (.slice (some ⟨b,0,none⟩) rs.length rs.length) (gL A<|fq A)::pt L (bY #[v] 29)::s) ?_
    ·rw[f,zg2 (by simpa using B),zc7];exact P
    exact ST.again (ov,i+1) sB I I (by dsimp only;omega) lN
  ·have b3:A.take i=A:=tL oM;rw[b3];refine xI (tX<|tX<|bX<|tN<|sW I<|aT I<|rE<|fT fun g2 a0 b4=>?_);exact dR (s':=s) uR<|za8 (.inl I) results128 I ⟨I,a2.trans a0,b4⟩
open Go.ChangeShapes Go.WideShapes Go.ChangeAt Go.RowKit
set_option maxRecDepth 100000
section
variable {H:Type}{enc:TypeId×Value→H}{W:World}{base:Nat}{spare:Nat→Bool}{hd:Bool}
end
theorem Bi {α β:Type}{b:α→Int}{c:β→Int}{f:α→β}(h:∀ a,c (f a)=b a)(x:α):∀ l:List α,ins c (f x) (l.map f)=(ins b x l).map f
 | []=>rfl
 | y::r=>by
  simp only[zg6,ins,h];split
  ·rfl
  ·rw[Bi h x r];rfl
theorem mT {α β:Type}{b:α→Int}{c:β→Int}{f:α→β}(h:∀ a,c (f a)=b a):∀ l:List α,sortBy c (l.map f)=(sortBy b l).map f
 | []=>rfl
 | x::r=>by
  simp only[zg6,sortBy];rw[mT h r,Bi h]
abbrev Pr:=Int×Int
def Ring (adj:Pr→Pr→Bool)(l:List Pr):Prop:=l≠[]∧∀ x∈l,∃ y∈l,y≠x∧adj x y=true
def Cyc (adj:Pr→Pr→Bool)(m:List Pr):Prop:=∃ l,Ring adj l∧∀ x∈l,x∈m
inductive Pth (adj:Pr→Pr→Bool)(m:List Pr):Pr→Pr→Prop
 | one (x y:Pr) (hy:y∈m) (hne:y≠x) (ha:adj x y=true):Pth adj m x y
 | cons (x y z:Pr) (hy:y∈m) (hne:y≠x) (ha:adj x y=true) (h:Pth adj m y z):Pth adj m x z
def FI (T:List Pr)(low:Int):Option Int:=(T.find? fun q=>decide (q.1=low)).map Prod.snd
def adjS (S:Int→List Int)(x y:Pr):Bool:=(S x.2).contains y.1
section
variable {p:Pr}{S:Int→List Int}{T:List Pr}
end
def GR (l:List Cl)(h:Int):List Int:=((findC l h).getD aA).sides.map aj.cell
structure Vd (l:List Cl)(T:List Pr):Prop where
 once:(T.map Prod.fst++T.map Prod.snd).Nodup
 side:∀ q∈T,q.1∈GR l q.2
 free:¬ Cyc (adjS<|GR l) T
section
variable {l:List Cl}(hl:(aq l).2=0)
include hl
end
structure Gd8 (l:List Cl):Prop where
 right:Rt (aa l)
 ids:∀ c∈l,0<c.id∧c.id≤4000
def ei:Enc Pr 2:=⟨fun p=>[vi p.1,vi p.2],fun _=>rfl,fun _ u hu=>by simp at hu;rcases hu with rfl | rfl <;> rfl,by decide⟩
theorem SU.indexAddrC {P:Program}{N:Nat}{f:Fr}{dst:Option Tmp}{ty:TypeId}{pos:String}{af:Array Edge}{gd:Option (Nat×Bool)}{x y:Operand}{T e:TypeId}{k n o:Nat}{i:Int}{v:Value}(b:P.underlying T=some (.array n e))(d:∀ w,(sizeOf e).run P w = .ok k w)
  (a:ev f x=some (nz v o)) (hb:based v=true) (g:ev f y=some (vi i)) (j:0≤i) (l:i<n) :
  SU P N ⟨dst,.indexAddr T x y,ty,pos,af,gd⟩ f (nz v<|o+i.toNat * k):=by
 cases v <;> simp[based] at hb
 rename_i p m c;cases p <;> simp at hb
 simp only[nz] at a ⊢;have:=iB (P:=P) (N:=N) (dst:=dst) (ty:=ty) (pos:=pos) (af:=af) (gd:=gd) b d a g j l;rwa [Nat.add_assoc] at this
theorem Tryz.sty56:STy Tryz.prog 56 99 2 16 (.agg #[vi 0,vi 0]):=⟨underlying56,⟨t99,by kernel_rfl,by kernel_rfl,by kernel_rfl,by kernel_rfl⟩,rfl,by decide⟩
theorem Tryz.build99 (a b:Int)(w:World):(Instr.build 99 #[(0,vi a),(1,vi b)]).run Tryz.prog w = .ok (.agg #[vi a,vi b]) w:=by
 have c:∀ n,(vi n).cells = #[vi n]:=fun _=>rfl;simp[Instr.build,Instr.fill,c];rfl
end Go.Proofs.YtdepcjnaieflmaaGreatDoor
namespace Go.Sy
open Go Go.MapKept
section
variable {P:Program}{w:World}{t kt et:TypeId}{z:Value}{b:Nat}{es:Array MapEntry}{clk:Nat}{l:List (Int×Value)}
end
section
variable {P:Program}{N:Nat}{E:World}{f:Fr}{g:PH}{s:Own}{dst:Option Tmp}{ty:TypeId}{pos:String}{af:Array Edge}{gd:Option (Nat×Bool)}
variable {t kt et:TypeId}{z:Value}{b:Nat}{l:List (Int×Value)}{x y u:Operand}{k:Int}{v:Value}
end
end Go.Sy
namespace Go.Sy
open Go
def EA (P:Program)(E:World)(gf:FuncId)(lb:List Value){α:Type}(encs:α→List Value)(xs:List α)(g0:PH):Prop :=
 ∀ (l:Nat) (ι:Type) (G:ι→PH) (S:ι→Own) (J:List α→ι→Prop) (i0:ι),J [] i0→(∀ pre i,J pre i→Le g0 (G i))→(∀ pre i g',J pre i→Le (G i) g'→∃ i',J pre i'∧G i'=g'∧S i'=S i) →
  (∀ pre x suf i sx,xs=pre++x::suf→J pre i→wt P E l (encs x).toArray (G i) (S i++sx) (fun v g' s'=>v = .bool true∧∃ j,J (pre++[x]) j∧Le (G i) (G j)∧g'=G j∧s'=S j++sx)) →
  ∀ sx,Ctr P E gf (.func (.yield l) #[] #[]::lb).toArray (G i0) (S i0++sx) (fun _ g' s'=>∃ j,J xs j∧g'=G j∧s'=S j++sx)
section
variable {P:Program}{M:Md}{N:Nat}{E:World}{Q:Exit→Act→World→Prop}{f:Fr}{g:PH}{s:Own}{dst:Option Tmp}{ty:TypeId}{pos:String}{af:Array Edge}{gd:Option (Nat×Bool)}
def o0 {α ι:Type}(E:World)(G:ι→PH)(S:ι→Own)(J:List α→ι→Prop)(pre:List α)(x:α)(g:PH)(sx:Own):Exit→Act→World→Prop:=fun e _ w'=>e = .normal∧∃ j,At E (G j) (S j++sx) w'∧J (pre++[x]) j∧Le g (G j)
theorem XT.roundEnd2 {α ι:Type}{G:ι→PH}{S:ι→Own}{J:List α→ι→Prop}{pre:List α}{x:α}{g1:PH}{a:Own}(j:ι)(hg:G j=g)(b:S j++a=s)(c:J (pre++[x]) j)(hl:Le g1 (G j)):XT M N E (o0 E G S J pre x g1 a) .normal f g s:=fun _ _ _ d=>⟨rfl,j,by rw[hg,b];exact d,c,hl⟩
theorem XC.rangeFuncB {α ι κ:Type}{A:Operand}{ps:Array Tmp}{assign body:Code}{B:FuncId}{C:List Value}{encs:α→List Value}{xs:List α}{g0:PH}(G:ι→PH)(S:ι→Own)(J:List α→ι→Prop)(i0:ι)(c:Own)(fa:α→Fr)(fb:List α→α→ι→κ→Fr)(X:α→κ→Own)
  (b1:M.ro=none) (hg:ev f A=some (.func (.func B) #[] C.toArray)) (eg:∀ args w,(callFunc B args).run P w = .ok (.enter B args) w) (b2:∀ x,(encs x).length=ps.size)
  (hG:G i0=g) (hS:S i0++c=s) (a0:EA P E B C encs xs g0) (F:∀ pre i,J pre i→Le g0 (G i)) (b3:∀ pre i g',J pre i→Le (G i) g'→∃ i',J pre i'∧G i'=g'∧S i'=S i) (h0:J [] i0)
  (b4:∀ x a,Ok N f (jE a)→Ok N (fa x) { tmps:=(ps.zip (encs x).toArray).foldl (fun t (p,v)=>t.setIfInBounds p v) a.tmps,defers:=[] })
  (o:∀ l pre x i z,J pre i→XC P ⟨some l,[]⟩ N E assign (m9 (N:=N) E (G i) (S i++z) (fb pre x i)<|X x) (fa x) (G i) (S i++z))
  (H:∀ l pre x K i z q,(∃ (r:Loop) (k:Nat),z[k]?=some (pt l<|.loop r))→xs=pre++x::K→J pre i→XC P ⟨some l,[]⟩ N E body (o0 E G S J pre x (G i) z) (fb pre x i q) (G i) (X x q++(S i++z)))
  (O:∀ D j,J xs j→XT ⟨none,⟨.collected D,#[]⟩::M.ds⟩ N E Q .normal f (G j) (pt D (.deferred<|some [])::(S j++c))):XC P M N E (.rangeFunc A ps assign body) Q f g s:=by
 subst hG hS;intro a w ha hw;rw[b1];refine wpIn_rangeFunc ?_;intro fn _;obtain ⟨rec,b⟩:∃ rec:LoopState→Option Code→Loop,rec=fun st pe=>{ state:=st,pending:=pe,fn,tmps:=a.tmps,params:=ps,assign,body,defers:=w.heap.size }:=⟨_,rfl⟩;obtain ⟨L,hL⟩:∃ L,L=w.heap.size+1:=⟨_,rfl⟩;obtain ⟨D,hD⟩:∃ D,D=w.heap.size:=⟨_,rfl⟩;obtain ⟨W1,a4⟩:∃ W1,(w.alloc<|.deferred<|some []).alloc (.loop<|rec .ready none)=W1:=⟨_,rfl⟩;have hA:At E (G i0) (pt L (.loop<|rec .ready none)::pt D (.deferred<|some [])::(S i0++c)) W1:=by
  rw[← a4,hL,hD];have R:At E (G i0) (pt w.heap.size (.deferred<|some [])::(S i0++c)) (w.alloc<|.deferred<|some []):=hw.alloc (e:=pt w.heap.size<|.deferred<|some []) rfl rfl;have T:=R.alloc (e:=pt (w.alloc<|.deferred<|some []).heap.size<|.loop<|rec .ready none) rfl rfl;rw[World.size_alloc] at T;exact T
 obtain ⟨S2,y⟩:∃ S2:ι→Own,S2=fun i=>S i++(pt L (.loop<|rec .ready none)::pt D (.deferred<|some [])::c):=⟨_,rfl⟩;have b5:At E (G i0) (S2 i0++[]) W1:=by
  rw[y,zc7];dsimp only;refine hA.perm ?_;have R:(pt L (.loop<|rec .ready none)::pt D (.deferred<|some [])::(S i0++c))=[pt L<|.loop<|rec .ready none,pt D<|.deferred<|some []]++(S i0++c):=rfl;have T:S i0++(pt L (.loop<|rec .ready none)::pt D (.deferred<|some [])::c)=S i0++([pt L<|.loop<|rec .ready none,pt D<|.deferred<|some []]++c):=rfl;rw[R,T,← zh1,← zh1];exact List.perm_append_comm.append_right _
 refine⟨L,[{ target:=.collected D,args:=#[] }],W1,{ target:=.fn (.func B) C.toArray,args:=#[.func (.yield L) #[] #[]] },W1,B,(.func (.yield L) #[] #[]::C).toArray,W1,?_,?_,fun _ _=>trivial,?_,fun h=>(by cases h),?_⟩
 ·rw[← a4,b,hL,hD];exact run_enterLoop_outer _ _ _ _ _
 ·have R:a.eval A = .func (.func B) #[] C.toArray:=ha.ev hg;simp only[resolve,R];simp[go_sem]
 ·have:(#[.func (.yield L) #[] #[]]++C.toArray:Array Value)=(.func (.yield L) #[] #[]::C).toArray:=by simp
  simp[invoke,go_sem,eg]
 ·refine (callsIn_wide (n:=0 - 1)).2<|(a0 L ι G S2 J i0 h0 F (fun pre i g' Z hl=>by obtain ⟨i',a1,a2,a3⟩:=b3 pre i g' Z hl;exact⟨i',a1,a2,by rw[y];dsimp only;rw[a3]⟩) ?_ [] W1 b5).mono ?_
  ·intro pre x K i z b6 Z W hW;rw[y] at hW;simp only[zh1,List.cons_append] at hW;have c3:(S i).length=(S i).length:=rfl;have gl:∀ (i:ι) (u d:Ent) (r:Own),(S i++u::d::r)[(S i).length]?=some u:=fun i u d r=>by simp
   have hl:=hW.here<|gl i _ _ _;have hy:=run_yield (P:=P) (args:=(encs x).toArray) hl (by rw[b];simpa using b2 x);rw[b] at hy;refine⟨fn,_,assign,body,hy,roundIn_of_wpIn trivial ?_⟩;refine Code.wpIn_mono (fun e a1 w1 R=>?_)<|o L pre x i _ Z { tmps:=(ps.zip (encs x).toArray).foldl (fun t (p,v)=>t.setIfInBounds p v) a.tmps,defers:=[] } W ⟨I,b4 x a ha.2⟩ hW;obtain ⟨rfl,q,b7,a5⟩:=R;have glX:∀ (X:Own) (i:ι) (u d:Ent) (r:Own),(X++(S i++u::d::r))[X.length+(S i).length]?=some u:=fun X i u d r=>by rw[zh5 oM,Nat.add_sub_cancel_left];exact gl i u d r
   have b8:=a5.here<|glX _ i _ _ _;refine⟨_,run_beginRound b8 (by rw[b]),?_⟩;have m:∀ (i:ι) (u d v:Ent) (r:Own),(S i++u::d::r).set (S i).length v=S i++v::d::r:=fun i u d v r=>by simp
   have U:∀ (X:Own) (i:ι) (u d v:Ent) (r:Own),(X++(S i++u::d::r)).set (X.length+(S i).length) v=X++(S i++v::d::r):=fun X i u d v r=>by rw[List.set_append_right _ _ oM,Nat.add_sub_cancel_left,m]
   have a9:=a5.obj (o':=.loop { rec .ready none with state:=.busy })<|glX _ i _ _ _;rw[U] at a9;refine Code.wpIn_mono (fun e a3 w3 h3=>?_)<|H L pre x K i _ q ⟨_,0,I⟩ b6 Z a1 _ b7 a9;obtain ⟨rfl,j,b0,b9,c0⟩:=h3;have c1:=b0.here<|gl j _ _ _;have he:=run_endRound (P:=P) none c1;have V:=b0.obj (o':=.loop { (rec .ready none) with state:=.ready,pending:=none })<|gl j _ _ _;rw[m] at V;refine⟨_,_,he,.bool true,G j,S2 j++z,I,?_,I,j,b9,c0,I,I⟩;rw[y];simp only[zh1,List.cons_append];rw[b] at V ⊢;exact V
  ·rintro e W2 ⟨v,g',s',rfl,Y,j,Z,rfl,rfl⟩;rw[y,zc7] at Y;have gl:∀ (i:ι) (u d:Ent) (r:Own),(S i++u::d::r)[(S i).length]?=some u:=fun i u d r=>by simp
   have hl:=Y.here<|gl j _ _ _;have he:=run_endLoop (P:=P) hl (by rw[b];simp);have T:=Y.obj (o':=.loop { (rec .ready none) with state:=.exhausted })<|gl j _ _ _;have m:∀ (i:ι) (u d v:Ent) (r:Own),(S i++u::d::r).set (S i).length v=S i++v::d::r:=fun i u d v r=>by simp
   rw[m] at T;have c2:(rec .ready none).pending=none:=by rw[b]
   refine⟨none,_,he.trans<|ze4 (fun p=>Result.ok p _) c2,?_⟩;refine O D j Z _ _ ⟨by rw[← ha.1];rfl,ha.2⟩ ?_;have h3:=(T.sublist (s':=S j++pt D (.deferred<|some [])::c)<|by exact (zc4 _).append<|zj3 _ _).perm List.perm_middle;exact h3
end
end Go.Sy
namespace Go.Proofs.YtdepcjnaieflmaaGreatDoor
open _root_.Go.Proofs.Tryz _root_.Go.Proofs.YtdepcjnaieflmaaGreatDoor.Tryz
open Go Go.Sy Go.Pl Go.Proofs
set_option maxRecDepth 100000
set_option maxHeartbeats 1000000
set_option maxHeartbeats 2000000
end Go.Proofs.YtdepcjnaieflmaaGreatDoor
