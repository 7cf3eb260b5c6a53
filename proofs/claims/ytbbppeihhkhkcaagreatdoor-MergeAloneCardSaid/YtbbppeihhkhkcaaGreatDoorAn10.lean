/- 10 -/
import Derived.Test.YtbbppeihhkhkcaaGreatDoorAn09
import Derived.RangeFuncLeaves
import Derived.RangeFuncRecord
import Derived.RangeFuncSeq
import Derived.OrdersIn
import Derived.TacticsIn
import Derived.Laws.BytesString
import Derived.Laws.Strings
import Derived.Shelf.Strings.Trim
import Derived.ChangeKeysEq
set_option linter.unusedSimpArgs false
set_option linter.unusedVariables false
namespace Go.Proofs.YtbbppeihhkhkcaaGreatDoor
open _root_.Go.Proofs.Tryz _root_.Go.Proofs.YtbbppeihhkhkcaaGreatDoor.Tryz
open Go Go.Sy Go.Pl Go.Proofs
set_option maxRecDepth 100000
set_option maxHeartbeats 1000000
theorem ax.set {α β:Type}{R:α→β→Prop}{a:α}{b:β}(h:R a b):∀ {l:List α} {m:List β} (k:Nat),ax R l m→ax R (l.set k a) (m.set k b)
 | [],[],_,_=>trivial
 | _::_,_::_,0,c=>⟨h,c.2⟩
 | _::_,_::_,k+1,c=>⟨c.1,ax.set h k c.2⟩
 | [],_::_,_,c=>c.elim
 | _::_,[],_,c=>c.elim
def ShC (a b:Cl):Prop:=a.id=b.id∧a.dim=b.dim∧a.sides.Perm b.sides
def ShL (l m:List Cl):Prop:=∃ l1:List Cl,l1.Perm l∧ax ShC l1 m
theorem ShL.fits {l m:List Cl}(h:ShL l m)(e:aJ l):aJ m:=by
 obtain ⟨l1,f,g⟩:=h;refine⟨by rw[← g.length,f.length_eq]; exact e.1,fun c a=>?_⟩;have:∀ {l m:List Cl},ax ShC l m→∀ c∈m,∃ d∈l,ShC d c:=by
  intro l;induction l with
  | nil=>intro m h c a; cases m with | nil=>cases a | cons _ _=>exact h.elim
  | cons x t ih =>
   intro m h c a;cases m with
   | nil=>cases a
   | cons y m =>
    rcases zf3.1 a with rfl | a
    ·exact⟨x,by simp,h.1⟩
    ·obtain ⟨d,hd,b⟩:=ih h.2 c a;exact⟨d,by simp[hd],b⟩
 obtain ⟨d,hd,b⟩:=this g c a;rw[← b.2.2.length_eq];exact e.2 d<|f.mem_iff.1 hd
end Go.Proofs.YtbbppeihhkhkcaaGreatDoor
namespace Go.Sy
open Go
structure Md where
 ro:Option Nat
 ds:List Deferred
def wf (ro:Option Nat):Fence:={ fn:=fun _=>True,depth:=none,alive:=false,round:=ro }
def jH (a:Act):Act:={ a with defers:=[] }
theorem oV (a:Act):(jH a).eval=a.eval:=by funext x; cases x <;> rfl
theorem D1 (a:Act)(d:Option Tmp)(v:Value):jH (a.put d v)=(jH a).put d v:=by cases d <;> rfl
theorem qW (a:Act)(d:Option Tmp)(v:Value):(a.put d v).defers=a.defers:=by cases d <;> rfl
def Okd (ds:List Deferred)(N:Nat)(f:Fr)(a:Act):Prop:=a.defers=ds∧Ok N f (jH a)
section
variable {P:Program}{M:Md}{N:Nat}{E:World}{Q:Exit→Act→World→Prop}{f f':Fr}{g g':PH}{s s':Own}{ops:Array Oper}
theorem Okd.put {ds:List Deferred}{a:Act}(h:Okd ds N f a){d:Nat}(b:d<N)(v:Value):Okd ds N ((d,v)::f) (a.put (some d) v):=⟨h.1,by rw[D1]; exact h.2.put b v⟩
theorem Okd.sub {ds:List Deferred}{a:Act}(h:Okd ds N f a)(b:Sub f' f):Okd ds N f' a:=⟨h.1,h.2.sub b⟩
theorem Okd.ev {ds:List Deferred}{a:Act}(h:Okd ds N f a){x:Operand}{v:Value}(b:Sy.ev f x=some v):a.eval x=v:=by rw[← oV]; exact h.2.ev b
def XC (P:Program)(M:Md)(N:Nat)(E:World)(c:Code)(Q:Exit→Act→World→Prop)(f:Fr)(g:PH)(s:Own):Prop:=∀ a w,Okd M.ds N f a→At E g s w→c.wpIn (wf M.ro) 0 P Q a w
def XT (M:Md)(N:Nat)(E:World)(Q:Exit→Act→World→Prop)(e:Exit)(f:Fr)(g:PH)(s:Own):Prop:=∀ a w,Okd M.ds N f a→At E g s w→Q e a w
def XL (P:Program)(M:Md)(N:Nat)(E:World)(ops:Array Oper)(Q:Exit→Act→World→Prop)(l:List Oper)(f:Fr)(g:PH)(s:Own):Prop:=∀ a w,Okd M.ds N f a→At E g s w→wpListIn (wf M.ro) 0 P ops Q l a w
def XO (P:Program)(M:Md)(N:Nat)(E:World)(o:Oper)(f:Fr)(g:PH)(s:Own)(K:Value→PH→Own→Prop):Prop :=
 ∀ a w,Okd M.ds N f a→At E g s w→∀ (Q:Exit→Act→World→Prop) (next:Act→World→Prop),
  (∀ v g' s' w',K v g' s'→At E g' s' w'→next (a.put o.dst v) w')→o.wpIn (wf M.ro) 0 P a w next Q
theorem XC.to {c:Code}(h:∀ w,At E g s w→At E g' s' w)(b:XC P M N E c Q f g' s'):XC P M N E c Q f g s:=fun a w d e=>b a w d (h w e)
theorem XT.drop {e:Exit}(b:s'.Sublist s)(h:XT M N E Q e f g s'):XT M N E Q e f g s:=fun a w c d=>h a w c (d.sublist b)
theorem XT.to {e:Exit}(h:∀ w,At E g s w→At E g' s' w)(b:XT M N E Q e f g' s'):XT M N E Q e f g s:=fun a w c d=>b a w c (h w d)
theorem XL.to {l:List Oper}(h:∀ w,At E g s w→At E g' s' w)(b:XL P M N E ops Q l f g' s'):XL P M N E ops Q l f g s:=fun a w c d=>b a w c (h w d)
theorem XC.facts {c:Code}(h:(∃ w,At E g s w)→XC P M N E c Q f g s):XC P M N E c Q f g s:=fun a w d b=>h ⟨w,b⟩ a w d b
theorem XL.facts {l:List Oper}(h:(∃ w,At E g s w)→XL P M N E ops Q l f g s):XL P M N E ops Q l f g s:=fun a w c b=>h ⟨w,b⟩ a w c b
theorem XT.facts {e:Exit}(h:(∃ w,At E g s w)→XT M N E Q e f g s):XT M N E Q e f g s:=fun a w c b=>h ⟨w,b⟩ a w c b
theorem XC.skip (h:XT M N E Q .normal f g s):XC P M N E .skip Q f g s:=fun a w b c=>wpIn_skip (h a w b c)
theorem XC.ret (h:XT M N E Q .ret f g s):XC P M N E .ret Q f g s:=fun a w b c=>wpIn_ret (h a w b c)
theorem XC.exit {id:Nat}(h:XT M N E Q (.exit id) f g s):XC P M N E (.exit id) Q f g s:=fun a w b c=>wpIn_exit (h a w b c)
theorem XC.label {l:Nat}(h:XT M N E Q .normal f g s):XC P M N E (.label l) Q f g s:=fun a w b c=>wpIn_label (h a w b c)
theorem XC.seq {x y:Code}(h:XC P M N E x (Exit.then (y.wpIn (wf M.ro) 0 P Q) Q) f g s):XC P M N E (.seq x y) Q f g s:=fun a w b c=>wpIn_seq (h a w b c)
theorem XC.block {id:Nat}{c:Code}(h:XC P M N E c (Exit.inBlock id Q) f g s):XC P M N E (.block id c) Q f g s:=fun a w b d=>wpIn_block (h a w b d)
theorem XC.cond {c:Operand}{x y:Code}{t:Bool}(d:ev f c=some (.bool t))(h:XC P M N E (if t then x else y) Q f g s):XC P M N E (.cond c x y) Q f g s :=
 fun a w b e=>wpIn_cond (b.ev d)<|h a w b e
theorem XC.condT {c:Operand}{x y:Code}(a:ev f c=some (.bool true))(h:XC P M N E x Q f g s):XC P M N E (.cond c x y) Q f g s:=XC.cond a h
theorem XC.condF {c:Operand}{x y:Code}(a:ev f c=some (.bool false))(h:XC P M N E y Q f g s):XC P M N E (.cond c x y) Q f g s:=XC.cond a h
theorem XC.ifB {c:Operand}{x y:Code}{t:Bool}(a:ev f c=some (.bool t))(b:t=true→XC P M N E x Q f g s)(d:t=false→XC P M N E y Q f g s) :
  XC P M N E (.cond c x y) Q f g s:=by
 cases t
 ·exact XC.condF a<|d I
 ·exact XC.condT a<|b I
theorem XC.ifP {c:Operand}{x y:Code}{p:Prop}[Decidable p](a:ev f c=some (.bool<|decide p))(b:p→XC P M N E x Q f g s)(d:¬ p→XC P M N E y Q f g s) :
  XC P M N E (.cond c x y) Q f g s :=
 XC.ifB a (fun h=>b<|zg5 h) (fun h=>d<|of_decide_eq_false h)
theorem XT.thenN {c:Code}(h:XC P M N E c Q f g s):XT M N E (Exit.then (c.wpIn (wf M.ro) 0 P Q) Q) .normal f g s:=h
theorem XT.thenX {K:Act→World→Prop}{id:Nat}(h:XT M N E Q (.exit id) f g s):XT M N E (Exit.then K Q) (.exit id) f g s:=h
theorem XT.thenR {K:Act→World→Prop}(h:XT M N E Q .ret f g s):XT M N E (Exit.then K Q) .ret f g s:=h
theorem XT.blockN {id:Nat}(h:XT M N E Q .normal f g s):XT M N E (Exit.inBlock id Q) .normal f g s:=h
theorem XT.blockX {id:Nat}(h:XT M N E Q .normal f g s):XT M N E (Exit.inBlock id Q) (.exit id) f g s:=fun a w b c=>by simpa [Exit.inBlock] using h a w b c
theorem XT.blockO {id j:Nat}(b:j≠id)(h:XT M N E Q (.exit j) f g s):XT M N E (Exit.inBlock id Q) (.exit j) f g s:=fun a w c d=>by
 simpa [Exit.inBlock,b] using h a w c d
def GQ {ι:Type}(ds:List Deferred)(N:Nat)(E:World)(F:ι→Fr)(G:ι→PH)(S:ι→Own)(J:ι→Prop)(a:Act)(w:World):Prop:=∃ i,Okd ds N (F i) a∧At E (G i) (S i) w∧J i
theorem XC.cut {ι:Type}{x y:Code}(F:ι→Fr)(G:ι→PH)(S:ι→Own)(J:ι→Prop)(b:XC P M N E x (Exit.then (GQ M.ds N E F G S J) Q) f g s)
  (c:∀ i,J i→XC P M N E y Q (F i) (G i) (S i)):XC P M N E (.seq x y) Q f g s:=by
 refine XC.seq fun a w d j=>Code.wpIn_mono (fun e a' w' h=>?_)<|b a w d j;cases e <;> first | exact h | (obtain ⟨i,k,l,m⟩:=h; exact c i m a' w' k l)
theorem XT.mid {ι:Type}{F:ι→Fr}{G:ι→PH}{S:ι→Own}{J:ι→Prop}(i:ι)(a:Sub (F i) f)(hg:G i=g)(b:S i=s)(c:J i) :
  XT M N E (Exit.then (GQ M.ds N E F G S J) Q) .normal f g s:=fun _ _ d e=>⟨i,d.sub a,by rw[hg,b]; exact e,c⟩
def Ez {ι:Type}(ds:List Deferred)(N:Nat)(E:World)(F:ι→Fr)(G:ι→PH)(S:ι→Own)(J:ι→Prop)(μ:ι→Nat)(i:ι)(a:Act)(w:World):Prop :=
 ∃ j,Okd ds N (F j) a∧At E (G j) (S j) w∧J j∧μ j<μ i
theorem XT.again {ι:Type}{F:ι→Fr}{G:ι→PH}{S:ι→Own}{J:ι→Prop}{μ:ι→Nat}{i:ι}(j:ι)(a:Sub (F j) f)(hg:G j=g)(b:S j=s)(c:J j)(hμ:μ j<μ i) :
  XT M N E (Exit.then (Ez M.ds N E F G S J μ i) Q) .normal f g s:=fun _ _ d e=>⟨j,d.sub a,by rw[hg,b]; exact e,c,hμ⟩
theorem XC.loop {ι:Type}{c:Code}(F:ι→Fr)(G:ι→PH)(S:ι→Own)(J:ι→Prop)(μ:ι→Nat)(i:ι)(y:Sub (F i) f)(hg:G i=g)(z:S i=s)(A:J i)
  (round:∀ i,J i→XC P M N E c (Exit.then (Ez M.ds N E F G S J μ i) Q) (F i) (G i) (S i)):XC P M N E (.loop c) Q f g s:=by
 intro a w p B;have key:∀ n,∀ (i:ι) (a:Act) (w:World),μ i=n→Okd M.ds N (F i) a→At E (G i) (S i) w→J i→∀ (b:Frame) (k:List Item) (cs:List Frame),b.roundOf=(wf M.ro).round→(wf M.ro).fn b.fn→(wf M.ro).room (cs.length+1+0) →
   ∃ e a' w',Q e a' w'∧ArrivesIn (Machine.fenced P<|wf M.ro) P (lone (b.atR a<|.code c :: .inLoop c::k) cs w) b k cs e a' w':=by
  intro n;induction n using Nat.strongRecOn with
  | _ n ih =>
   intro i a w hn p C D b k cs h hb hr;obtain ⟨e,a₁,w₁,m,d⟩:=round i D a w p C b (.inLoop c::k) cs h hb hr;cases e with
   | normal =>
    obtain ⟨j,q,r,t,u⟩:=m;obtain ⟨e₂,a₂,w₂,v,o⟩:=ih (μ j) (hn ▸ u) j a₁ w₁ rfl q r t b k cs h hb hr;exact⟨e₂,a₂,w₂,v,.of_steps (StepsIn.trans d<|.one (fenced_calm hb hr I) stepR_inLoop) o⟩
   | exit id=>exact⟨_,a₁,w₁,m,.pass (x:=.inLoop c) rfl (fun _ _=>.inl<|by simp) d⟩
   | goto l=>exact⟨_,a₁,w₁,m,.pass (x:=.inLoop c) rfl (fun _ _=>.inl<|by simp) d⟩
   | ret=>exact⟨_,a₁,w₁,m,.pass (x:=.inLoop c) rfl (fun _ _=>.inl<|by simp) d⟩
   | panic ch=>exact⟨_,a₁,w₁,m,.pass (x:=.inLoop c) rfl (fun _ _=>.inl<|by simp) d⟩
   | outgrown=>exact⟨_,a₁,w₁,m,.pass (x:=.inLoop c) rfl (fun _ _=>.inl<|by simp) d⟩
 intro b k cs h hb hr;obtain ⟨e,a',w',m,d⟩:=key _ i a w rfl (p.sub y) (by rw[hg,z]; exact B) A b k cs h hb hr;exact⟨e,a',w',m,.of_steps (.one (fenced_calm hb hr I) stepR_loop) d⟩
theorem XC.region {id:Nat}(h:XL P M N E ops Q ops.toList f g s):XC P M N E (.region id ops false) Q f g s:=fun a w b c=>wpIn_region_list (h a w b c)
theorem XL.nil (h:XT M N E Q .normal f g s):XL P M N E ops Q [] f g s:=fun a w b c=>h a w b c
theorem SO.xo {o:Oper}{K:Value→PH→Own→Prop}(m:∀ c,o.op ≠ .defer c)(h:SO P N E o f g s K):XO P M N E o f g s K:=by
 intro a w q t Q next hn;refine⟨fun _ _=>trivial,?_⟩;rw[Oper.semAt_eq _ _ _ m];have b:=h (jH a) w q.2 t (fun _ _ _=>False) (fun a' w'=>a'.defers=[]∧∃ v g' s',a'=(jH a).put o.dst v∧K v g' s'∧At E g' s' w') (fun v g' s' w' p i=>⟨qW _ _ _,v,g',s',rfl,p,i⟩);unfold Oper.wp at b;rw[oV] at b;have key:∀ v w',(((jH a).put o.dst v).defers=[]∧∃ v' g' s',(jH a).put o.dst v=(jH a).put o.dst v'∧K v' g' s'∧At E g' s' w')→next (a.put o.dst v) w':=by
  rintro v w' ⟨_,v',g',s',j,p,i⟩;have:a.put o.dst v=a.put o.dst v':=by
   cases hd:o.dst with
   | none=>rfl
   | some d =>
    rw[hd] at j;have l:=ze4 Act.tmps j;cases a;simp only[Act.put,jH] at l ⊢;rw[l]
  rw[this];exact hn v' g' s' w' p i
 generalize (execOp a.eval o).run P w=r at b;cases r with
 | ok n w' =>
  cases n <;> simp only[Oper.upon] at b <;> first | exact b.elim | skip
  ·exact key _ _ b
  ·exact key _ _ b
  ·rename_i f' args;exact⟨fun h=>(by cases h),(CallsIn.more (n:=0) ((callsIn_wide (n:=0)).2<|Calls.mono b (fun e k j=>by cases e with | returned v=>exact key _ _ j | panicked c=>exact j.elim | outgrown=>obtain ⟨_,_,l⟩:=j; exact l.elim))<|zf8 _)⟩
  ·exact absurd b.1 (by rw[qW]; simp)
  ·exact⟨fun h=>(by cases h),fun c cs _=>let ⟨v,k,r,st⟩:=b c cs; ⟨v,k,key _ _ r,stepsIn_wide.2 st⟩⟩
 | halt x w'=>cases x <;> simp only[Oper.upon] at b <;> exact b.elim
theorem XL.step {o:Oper}{l:List Oper}{K:Value→PH→Own→Prop}(hg:Gd N ops f o true)(i:XO P M N E o f g s K)
  (h:∀ v g' s' a,K v g' s'→Okd M.ds N f a→∃ f',Okd M.ds N f' (a.put o.dst v)∧XL P M N E ops Q l f' g' s'):XL P M N E ops Q (o::l) f g s:=by
 intro a w b j;unfold wpListIn;have c:Region.wanted o (yielded ops a.tmps)=true:=hg (jH a) b.2;rw[zg3 c];refine i a w b j Q _ fun v g' s' w' k d=>?_;obtain ⟨f',e,hn⟩:=h v g' s' a k b;exact hn _ _ e d
theorem XL.x {d:Nat}{op:Op}{ty:TypeId}{pos:String}{af:Array Edge}{l:List Oper}{K:Value→PH→Own→Prop}(a:XO P M N E ⟨some d,op,ty,pos,af,none⟩ f g s K)(hd:d<N)
  (h:∀ v g' s',K v g' s'→XL P M N E ops Q l ((d,v)::f) g' s'):XL P M N E ops Q (⟨some d,op,ty,pos,af,none⟩::l) f g s :=
 XL.step (Gd.none rfl) a fun v g' s' _ b c=>⟨_,c.put hd v,h v g' s' b⟩
theorem XL.go {d:Nat}{op:Op}{ty:TypeId}{pos:String}{af:Array Edge}{gd:Option (Nat×Bool)}{l:List Oper}{K:Value→PH→Own→Prop}(hg:Gd N ops f ⟨some d,op,ty,pos,af,gd⟩ true)(b:SO P N E ⟨some d,op,ty,pos,af,gd⟩ f g s K)(hd:d<N)
  (h:∀ v g' s',K v g' s'→XL P M N E ops Q l ((d,v)::f) g' s') (a:∀ c,op ≠ .defer c:=by intro _ h; cases h):XL P M N E ops Q (⟨some d,op,ty,pos,af,gd⟩::l) f g s :=
 XL.step hg (b.xo a) fun v g' s' _ e i=>⟨_,i.put hd v,h v g' s' e⟩
theorem XL.o {d:Nat}{op:Op}{ty:TypeId}{pos:String}{af:Array Edge}{l:List Oper}{K:Value→PH→Own→Prop}(b:SO P N E ⟨some d,op,ty,pos,af,none⟩ f g s K)(hd:d<N)
  (h:∀ v g' s',K v g' s'→XL P M N E ops Q l ((d,v)::f) g' s') (a:∀ c,op ≠ .defer c:=by intro _ h; cases h):XL P M N E ops Q (⟨some d,op,ty,pos,af,none⟩::l) f g s :=
 XL.go (Gd.none rfl) b hd h a
theorem XL.on {op:Op}{ty:TypeId}{pos:String}{af:Array Edge}{l:List Oper}{K:Value→PH→Own→Prop}(b:SO P N E ⟨none,op,ty,pos,af,none⟩ f g s K)
  (h:∀ v g' s',K v g' s'→XL P M N E ops Q l f g' s') (a:∀ c,op ≠ .defer c:=by intro _ h; cases h):XL P M N E ops Q (⟨none,op,ty,pos,af,none⟩::l) f g s :=
 XL.step (Gd.none rfl) (b.xo a) fun v g' s' _ d e=>⟨f,e,h v g' s' d⟩
theorem XL.gq {d:Nat}{op:Op}{ty:TypeId}{pos:String}{af:Array Edge}{gd:Option (Nat×Bool)}{l:List Oper}{v:Value}(hg:Gd N ops f ⟨some d,op,ty,pos,af,gd⟩ true)(b:SQ P N E ⟨some d,op,ty,pos,af,gd⟩ f g s v)(hd:d<N)
  (h:XL P M N E ops Q l ((d,v)::f) g s) (a:∀ c,op ≠ .defer c:=by intro _ h; cases h):XL P M N E ops Q (⟨some d,op,ty,pos,af,gd⟩::l) f g s :=
 XL.go hg b.so hd (fun v' g' s' ⟨e1,e2,e3⟩=>by subst e1; subst e2; subst e3; exact h) a
theorem XL.q {d:Nat}{op:Op}{ty:TypeId}{pos:String}{af:Array Edge}{l:List Oper}{v:Value}(b:SQ P N E ⟨some d,op,ty,pos,af,none⟩ f g s v)(hd:d<N)
  (h:XL P M N E ops Q l ((d,v)::f) g s) (a:∀ c,op ≠ .defer c:=by intro _ h; cases h):XL P M N E ops Q (⟨some d,op,ty,pos,af,none⟩::l) f g s:=XL.gq (Gd.none rfl) b hd h a
theorem XL.gu {d:Nat}{op:Op}{ty:TypeId}{pos:String}{af:Array Edge}{gd:Option (Nat×Bool)}{l:List Oper}{v:Value}(hg:Gd N ops f ⟨some d,op,ty,pos,af,gd⟩ true)(b:SU P N ⟨some d,op,ty,pos,af,gd⟩ f v)(hd:d<N)
  (h:XL P M N E ops Q l ((d,v)::f) g s) (a:∀ c,op ≠ .defer c:=by intro _ h; cases h):XL P M N E ops Q (⟨some d,op,ty,pos,af,gd⟩::l) f g s:=XL.gq hg b.sq hd h a
theorem XL.u {d:Nat}{op:Op}{ty:TypeId}{pos:String}{af:Array Edge}{l:List Oper}{v:Value}(b:SU P N ⟨some d,op,ty,pos,af,none⟩ f v)(hd:d<N)
  (h:XL P M N E ops Q l ((d,v)::f) g s) (a:∀ c,op ≠ .defer c:=by intro _ h; cases h):XL P M N E ops Q (⟨some d,op,ty,pos,af,none⟩::l) f g s:=XL.q b.sq hd h a
theorem XL.off {d:Nat}{op:Op}{ty:TypeId}{pos:String}{af:Array Edge}{gd:Option (Nat×Bool)}{l:List Oper}(hg:Gd N ops f ⟨some d,op,ty,pos,af,gd⟩ false)(hd:d<N)
  (h:XL P M N E ops Q l ((d,undef)::f) g s):XL P M N E ops Q (⟨some d,op,ty,pos,af,gd⟩::l) f g s:=by
 intro a w c e;unfold wpListIn;have b:Region.wanted (⟨some d,op,ty,pos,af,gd⟩:Oper) (yielded ops a.tmps)=false:=hg (jH a) c.2;rw[zg2 (by rw[b]; simp)];exact⟨fun _ _=>trivial,h _ _ (c.put hd undef) e⟩
theorem At.obj {w:World}{b i:Nat}{o o':Obj}(h:At E g s w)(c:s[i]?=some (pt b o)):At E g (s.set i<|pt b o') (w.putObj b o'):=by
 have d:=h.fresh _ (zg4 c) b rfl;refine h.turn c I ⟨I,Nat.le_refl _⟩ I (by simp[World.putObj]) (fun k _ f=>World.putObj_heap_other<|fun e=>f<|by simp[pt,e]) ?_ (fun b' a=>?_)
 ·simp only[pt,Option.bind_some];exact World.putObj_heap_same d.2
 ·simp only[pt,zg9] at a;subst a;exact⟨by simpa [World.putObj] using d.2,.inl I⟩
theorem At.here {w:World}{b i:Nat}{o:Obj}(h:At E g s w)(a:s[i]?=some (pt b o)):w.heap[b]?=some o:=by
 have:=h.own _<|zg4 a;simpa [pt] using this
end
def wn (P:Program)(E:World)(l:Nat)(args:Array Value)(g:PH)(s:Own)(R:Value→PH→Own→Prop):Prop :=
 ∀ w,At E g s w→YieldAt Fence.wide 0 P l args w fun e w'=>∃ v g' s',e = .returned v∧At E g' s' w'∧R v g' s'
def FP (P:Program)(E:World)(gf:FuncId)(lb:List Value){α:Type}(encs:α→List Value)(xs:List α)(g0:PH):Prop :=
 ∀ (l:Nat) (ι:Type) (G:ι→PH) (S:ι→Own) (J:List α→ι→Prop) (i0:ι),J [] i0→(∀ pre i,J pre i→Le g0 (G i)) →
  (∀ pre x suf i sx,xs=pre++x::suf→J pre i→wn P E l (encs x).toArray (G i) (S i++sx) (fun v g' s'=>v = .bool true∧∃ j,J (pre++[x]) j∧g'=G j∧s'=S j++sx)) →
  ∀ sx,Ctr P E gf (.func (.yield l) #[] #[]::lb).toArray (G i0) (S i0++sx) (fun _ g' s'=>∃ j,J xs j∧g'=G j∧s'=S j++sx)
section
variable {P:Program}{M:Md}{N:Nat}{E:World}{Q:Exit→Act→World→Prop}{f:Fr}{g:PH}{s:Own}{dst:Option Tmp}{ty:TypeId}{pos:String}{af:Array Edge}{gd:Option (Nat×Bool)}
theorem XO.yield {x:Operand}{l:List Operand}{tys:Array TypeId}{vs:List Value}{k:Nat}{R:Value→PH→Own→Prop}(m:ev f x=some (.func (.yield k) #[] #[]))(hl:evs f l=some vs)(n:wn P E k vs.toArray g s R) :
  XO P M N E ⟨dst,.call ⟨.value x,l.toArray,tys⟩,ty,pos,af,gd⟩ f g s R:=by
 intro a w j o Q next hn;refine⟨fun _ _=>trivial,?_⟩;rw[Oper.semAt_eq _ _ _ (fun _ h=>by cases h)];obtain ⟨fn,b,assign,c,p,q⟩:=n w o;have r:a.eval x = .func (.yield k) #[] #[]:=j.ev m;have t:l.map a.eval=vs:=by have:=j.2.evs hl; rwa [oV] at this
 have u:(execOp a.eval ⟨dst,.call ⟨.value x,l.toArray,tys⟩,ty,pos,af,gd⟩).run P w = .ok (.round k fn b assign c) w:=by
  simp only[execOp,resolve,r,List.map_toArray,t];simp[Deferred.ofValue,Sem.run_bind,invoke,p]
 rw[u];refine⟨fun h=>(by cases h),RoundIn.mono q fun e w' y=>?_⟩;obtain ⟨v,g',s',rfl,d,i⟩:=y;exact hn v g' s' w' i d
theorem Ctr.ofX {n:FuncId}{fn:Func}{c:Code}{args:List Value}{R:Value→PH→Own→Prop}
  (d:P.funcs[n]?=some fn) (hb:fn.body=some c) (e:fn.ntmps=N) (f:args.length≤N)
  (h:XC P ⟨none,[]⟩ N E c (bodyPostM (wf none) 0 P fn<|nh E R) (mG 0 args) g s):Ctr P E n args.toArray g s R:=by
 intro w i;refine (callsIn_wide (n:=0)).1<|callsIn_of_wp_marks (F:=wf none) d hb trivial (h _ w ⟨I,⟨I,?_,fun t v j=>?_⟩⟩ i) I
 ·simp[jH,e]; omega
 ·obtain ⟨_,a⟩:=ko args 0 t v j;have b:t<args.length:=(zf7.1<|by simpa using a).1;simp only[Nat.sub_zero] at a;obtain ⟨_,k⟩:=zf7.1 a;simp[jH,Array.getElem?_append,b,k]
theorem XT.leave0 {fn:Func}{R:Value→PH→Own→Prop}{e:Exit}(c:e = .ret∨e = .normal)(h:ST N E (bodyPost P fn<|nh E R) e f g s):XT ⟨none,[]⟩ N E (bodyPostM (wf none) 0 P fn<|nh E R) e f g s:=by
 intro a w b d;have i:=h (jH a) w b.2 d
 rcases c with rfl | rfl
 all_goals
  obtain ⟨_,v,j,k⟩:=i;show LeavesInM _ _ _ _ _ _ a.defers _ _;rw[b.1];exact⟨v,j,k⟩
theorem XT.leave1 {fn:Func}{R:Value→PH→Own→Prop}{e:Exit}{D:Nat}(j:e = .ret∨e = .normal)(h:ST N E (bodyPost P fn<|nh E R) e f g s) :
  XT ⟨none,[⟨.collected D,#[]⟩]⟩ N E (bodyPostM (wf none) 0 P fn<|nh E R) e f g (pt D (.deferred<|some [])::s):=by
 intro a w c d;have k:w.heap[D]?=some (.deferred<|some []):=At.here (i:=0) d rfl;have b:=(At.obj (i:=0) (o':=.deferred none) d rfl).sublist<|zj3 _ _;have l:=h (jH a) _ c.2 b
 rcases j with rfl | rfl
 all_goals
  obtain ⟨_,v,m,n⟩:=l;show LeavesInM _ _ _ _ _ _ a.defers _ _;rw[c.1];exact⟨by simp,.inl ⟨D,_,I,run_takeDeferred k,v,m,n⟩⟩
theorem rV {a:Act}{t:Nat}{u:Value}(h:Ok N f (jH a))(b:t<N):Ok N ((t,u)::f) { tmps:=((#[t]:Array Tmp).zip [u].toArray).foldl (fun t (p,v)=>t.setIfInBounds p v) a.tmps,defers:=[] }:=by
 have:=h.put b u;simpa [Act.put,jH] using this
theorem Fg {a:Act}{t t':Nat}{u u':Value}(h:Ok N f (jH a))(c:t<N)(b:t'<N):Ok N ((t',u')::(t,u)::f) { tmps:=((#[t,t']:Array Tmp).zip [u,u'].toArray).foldl (fun t (p,v)=>t.setIfInBounds p v) a.tmps,defers:=[] }:=by
 have:=(h.put c u).put b u';simpa [Act.put,jH] using this
def y6 {α ι:Type}(E:World)(G:ι→PH)(S:ι→Own)(J:List α→ι→Prop)(pre:List α)(x:α)(sx:Own):Exit→Act→World→Prop:=fun e _ w'=>e = .normal∧∃ j,At E (G j) (S j++sx) w'∧J (pre++[x]) j
def uW {N:Nat}(E:World)(g:PH)(s:Own)(fb:Fr):Exit→Act→World→Prop:=fun e a' w'=>e = .normal∧Okd [] N fb a'∧At E g s w'
theorem XT.roundEnd {α ι:Type}{G:ι→PH}{S:ι→Own}{J:List α→ι→Prop}{pre:List α}{x:α}{sx:Own}(j:ι)(hg:G j=g)(a:S j++sx=s)(b:J (pre++[x]) j):XT M N E (y6 E G S J pre x sx) .normal f g s:=fun _ _ _ c=>⟨rfl,j,by rw[hg,a]; exact c,b⟩
theorem XT.assignEnd {fb:Fr}{ro:Option Nat}(a:Sub fb f):XT ⟨ro,[]⟩ N E (uW (N:=N) E g s fb) .normal f g s:=fun _ _ b c=>⟨rfl,b.sub a,c⟩
theorem XC.rangeFunc {α ι:Type}{gop:Operand}{ps:Array Tmp}{assign body:Code}{gf:FuncId}{lb:List Value}{encs:α→List Value}{xs:List α}{g0:PH}(G:ι→PH)(S:ι→Own)(J:List α→ι→Prop)(i0:ι)(sx0:Own)(fa:α→Fr)(fb:List α→α→ι→Fr)
  (X:M.ro=none) (hg:ev f gop=some (.func (.func gf) #[] lb.toArray)) (eg:∀ args w,(callFunc gf args).run P w = .ok (.enter gf args) w) (Y:∀ x,(encs x).length=ps.size)
  (hG:G i0=g) (hS:S i0++sx0=s) (F:FP P E gf lb encs xs g0) (o:∀ pre i,J pre i→Le g0 (G i)) (h0:J [] i0)
  (Z:∀ x a,Ok N f (jH a)→Ok N (fa x) { tmps:=(ps.zip (encs x).toArray).foldl (fun t (p,v)=>t.setIfInBounds p v) a.tmps,defers:=[] })
  (k:∀ l pre x i sx,J pre i→XC P ⟨some l,[]⟩ N E assign (uW (N:=N) E (G i) (S i++sx)<|fb pre x i) (fa x) (G i) (S i++sx))
  (q:∀ l pre x suf i sx,xs=pre++x::suf→J pre i→XC P ⟨some l,[]⟩ N E body (y6 E G S J pre x sx) (fb pre x i) (G i) (S i++sx))
  (y:∀ D j,J xs j→XT ⟨none,⟨.collected D,#[]⟩::M.ds⟩ N E Q .normal f (G j) (pt D (.deferred<|some [])::(S j++sx0))):XC P M N E (.rangeFunc gop ps assign body) Q f g s:=by
 subst hG hS;intro a w T hw;rw[X];refine wpIn_rangeFunc ?_;intro fn _;obtain ⟨b,c⟩:∃ b:LoopState→Option Code→Loop,b=fun st pe=>{ state:=st,pending:=pe,fn,tmps:=a.tmps,params:=ps,assign,body,defers:=w.heap.size }:=⟨_,rfl⟩;obtain ⟨L,hL⟩:∃ L,L=w.heap.size+1:=⟨_,rfl⟩;obtain ⟨D,hD⟩:∃ D,D=w.heap.size:=⟨_,rfl⟩;obtain ⟨W1,H⟩:∃ W1,(w.alloc<|.deferred<|some []).alloc (.loop<|b .ready none)=W1:=⟨_,rfl⟩;have hA:At E (G i0) (pt L (.loop<|b .ready none)::pt D (.deferred<|some [])::(S i0++sx0)) W1:=by
  rw[← H,hL,hD];have z:At E (G i0) (pt w.heap.size (.deferred<|some [])::(S i0++sx0)) (w.alloc<|.deferred<|some []):=hw.alloc (e:=pt w.heap.size<|.deferred<|some []) rfl rfl;have A:=z.alloc (e:=pt (w.alloc<|.deferred<|some []).heap.size<|.loop<|b .ready none) rfl rfl;rw[World.size_alloc] at A;exact A
 obtain ⟨S2,m⟩:∃ S2:ι→Own,S2=fun i=>S i++(pt L (.loop<|b .ready none)::pt D (.deferred<|some [])::sx0):=⟨_,rfl⟩;have a0:At E (G i0) (S2 i0++[]) W1:=by
  rw[m,zc7];dsimp only;refine hA.perm ?_;have z:(pt L (.loop<|b .ready none)::pt D (.deferred<|some [])::(S i0++sx0))=[pt L<|.loop<|b .ready none,pt D<|.deferred<|some []]++(S i0++sx0):=rfl;have A:S i0++(pt L (.loop<|b .ready none)::pt D (.deferred<|some [])::sx0)=S i0++([pt L<|.loop<|b .ready none,pt D<|.deferred<|some []]++sx0):=rfl;rw[z,A,← zh1,← zh1];exact List.perm_append_comm.append_right _
 refine⟨L,[{ target:=.collected D,args:=#[] }],W1,{ target:=.fn (.func gf) lb.toArray,args:=#[.func (.yield L) #[] #[]] },W1,gf,(.func (.yield L) #[] #[]::lb).toArray,W1,?_,?_,fun _ _=>trivial,?_,fun h=>(by cases h),?_⟩
 ·rw[← H,c,hL,hD]; exact run_enterLoop_outer _ _ _ _ _
 ·have z:a.eval gop = .func (.func gf) #[] lb.toArray:=T.ev hg;simp only[resolve,z];simp[go_sem]
 ·have:(#[.func (.yield L) #[] #[]]++lb.toArray:Array Value)=(.func (.yield L) #[] #[]::lb).toArray:=by simp
  simp[invoke,go_sem,eg]
 ·refine (callsIn_wide (n:=0 - 1)).2<|(F L ι G S2 J i0 h0 o ?_ [] W1 a0).mono ?_
  ·intro pre x suf i sx a2 U W V;rw[m] at V;simp only[zh1,List.cons_append] at V;have b2:(S i).length=(S i).length:=rfl;have gl:∀ (i:ι) (u u':Ent) (r:Own),(S i++u::u'::r)[(S i).length]?=some u:=fun i u u' r=>by simp
   have hl:=V.here<|gl i _ _ _;have hy:=run_yield (P:=P) (args:=(encs x).toArray) hl (by rw[c]; simpa using Y x);rw[c] at hy;refine⟨fn,_,assign,body,hy,roundIn_of_wpIn trivial ?_⟩;refine Code.wpIn_mono (fun e a1 w1 z=>?_)<|k L pre x i _ U { tmps:=(ps.zip (encs x).toArray).foldl (fun t (p,v)=>t.setIfInBounds p v) a.tmps,defers:=[] } W ⟨I,Z x a T.2⟩ V;obtain ⟨rfl,a4,K⟩:=z;have a5:=K.here<|gl i _ _ _;refine⟨_,run_beginRound a5 (by rw[c]),?_⟩;have d:∀ (i:ι) (u u' v:Ent) (r:Own),(S i++u::u'::r).set (S i).length v=S i++v::u'::r:=fun i u u' v r=>by simp
   have O:=K.obj (o':=.loop { b .ready none with state:=.busy })<|gl i _ _ _;rw[d] at O;refine Code.wpIn_mono (fun e a3 w3 h3=>?_)<|q L pre x suf i _ a2 U a1 _ a4 O;obtain ⟨rfl,j,R,a9⟩:=h3;have b0:=R.here<|gl j _ _ _;have he:=run_endRound (P:=P) none b0;have B:=R.obj (o':=.loop { (b .ready none) with state:=.ready,pending:=none })<|gl j _ _ _;rw[d] at B;refine⟨_,_,he,.bool true,G j,S2 j++sx,I,?_,I,j,a9,I,I⟩;rw[m];simp only[zh1,List.cons_append];rw[c] at B ⊢;exact B
  ·rintro e W2 ⟨v,g',s',rfl,C,j,U,rfl,rfl⟩;rw[m,zc7] at C;have gl:∀ (i:ι) (u u':Ent) (r:Own),(S i++u::u'::r)[(S i).length]?=some u:=fun i u u' r=>by simp
   have hl:=C.here<|gl j _ _ _;have he:=run_endLoop (P:=P) hl (by rw[c]; simp);have A:=C.obj (o':=.loop { (b .ready none) with state:=.exhausted })<|gl j _ _ _;have d:∀ (i:ι) (u u' v:Ent) (r:Own),(S i++u::u'::r).set (S i).length v=S i++v::u'::r:=fun i u u' v r=>by simp
   rw[d] at A;have b1:(b .ready none).pending=none:=by rw[c]
   refine⟨none,_,he.trans<|ze4 (fun p=>Result.ok p _) b1,?_⟩;refine y D j U _ _ ⟨by rw[← T.1]; rfl,T.2⟩ ?_;have h3:=(A.sublist (s':=S j++pt D (.deferred<|some [])::sx0)<|by exact (zc4 _).append<|zj3 _ _).perm List.perm_middle;exact h3
end
end Go.Sy
namespace Go.Sy
open Go
section
variable {P:Program}{M:Md}{N:Nat}{E:World}{Q:Exit→Act→World→Prop}{f:Fr}{g:PH}{s:Own}{dst:Option Tmp}{ty:TypeId}{pos:String}{af:Array Edge}{gd:Option (Nat×Bool)}
end
end Go.Sy
namespace Go.Sy
open Go
section
variable {P:Program}{M:Md}{N:Nat}{E:World}{Q:Exit→Act→World→Prop}{f:Fr}{g:PH}{s:Own}{dst:Option Tmp}{ty:TypeId}{pos:String}{af:Array Edge}{gd:Option (Nat×Bool)}
def ne {κ:Type}{N:Nat}(E:World)(g:PH)(s:Own)(fb:κ→Fr)(X:κ→Own):Exit→Act→World→Prop:=fun e a' w'=>e = .normal∧∃ q,Okd [] N (fb q) a'∧At E g (X q++s) w'
theorem XT.assignEndA {κ:Type}{fb:κ→Fr}{X:κ→Own}{ro:Option Nat}{s0:Own}(q:κ)(a:Sub (fb q) f)(b:X q++s0=s):XT ⟨ro,[]⟩ N E (ne (N:=N) E g s0 fb X) .normal f g s:=fun _ _ c d=>⟨rfl,q,c.sub a,by rw[b]; exact d⟩
end
end Go.Sy
namespace Go.Sy
open Go
def ext (ds:List Deferred)(b:Act):Act:={ b with defers:=b.defers++ds }
theorem mF (ds:List Deferred)(b:Act)(d:Option Tmp)(v:Value):ext ds (b.put d v)=(ext ds b).put d v:=by cases d <;> rfl
theorem DU (ds:List Deferred)(b:Act):(ext ds b).eval=b.eval:=by funext x; cases x <;> rfl
def oe (ops:Array Oper):Bool:=ops.toList.all fun o=>match o.op with | .defer _=>false | _=>true
theorem zQ {ops:Array Oper}(h:oe ops=true){i:Nat}{o:Oper}(a:ops[i]?=some o):∀ c,o.op ≠ .defer c:=by
 intro c b;unfold oe at h;rw[zk2] at h;have hm:o∈ops.toList:=by
  rw[Array.getElem?_eq_some_iff] at a;obtain ⟨d,rfl⟩:=a;simp
 have:=h o hm;rw[b] at this;exact absurd this (by simp)
section
variable {P:Program}{ops:Array Oper}{ro:Option Nat}{ds:List Deferred}{Q Q0:Exit→Act→World→Prop}
theorem zh {o:Oper}{b:Act}{w:World}{K0 K:Act→World→Prop}(i:∀ c,o.op ≠ .defer c)(d:∀ e b w,Q0 e b w→e = .normal)(f:∀ b' w',K0 b' w'→K (ext ds b') w')
  (a:o.wp P b w K0 Q0):o.wpIn (wf ro) 0 P (ext ds b) w K Q:=by
 refine⟨fun _ _=>trivial,?_⟩;rw[Oper.semAt_eq _ _ _ i,DU];unfold Oper.wp at a;generalize (execOp b.eval o).run P w=r at a;cases r with
 | ok n w' =>
  cases n <;> simp only[Oper.upon] at a <;> first | exact a.elim | skip
  ·have:=f _ _ a;rw[mF] at this;exact this
  ·have:=f _ _ a;rw[mF] at this;exact this
  ·refine⟨fun h=>(by cases h),(CallsIn.more (n:=0) ((callsIn_wide (n:=0)).2<|Calls.mono a<|fun e g j=>?_)<|zf8 _)⟩;cases e with
   | returned v =>
    have:=f _ _ j;rw[mF] at this;exact this
   | panicked c=>exact absurd (d _ _ _ j) (by simp)
   | outgrown =>
    obtain ⟨_,_,k⟩:=j;exact absurd (d _ _ _ k) (by simp)
  ·have:=f _ _ a;rw[mF] at this;exact this
  ·exact⟨fun h=>(by cases h),fun c cs _=>let ⟨v,g,r,st⟩:=a c cs; ⟨v,g,(by have:=f _ _ r; rw[mF] at this; exact this),stepsIn_wide.2 st⟩⟩
 | halt x w' =>
  cases x <;> simp only[Oper.upon] at a <;> first | exact a.elim | exact absurd (d _ _ _ a) (by simp)
theorem qz {i:Nat}{b:Act}{w:World}{K0 K:Act→World→Prop}(d:oe ops=true)(c:∀ e b w,Q0 e b w→e = .normal)(f:∀ b' w',K0 b' w'→K (ext ds b') w')
  (a:wpOp P ops Q0 i K0 b w):wpOpIn (wf ro) 0 P ops Q i K (ext ds b) w:=by
 unfold wpOp at a;unfold wpOpIn;cases g:ops[i]? with
 | none =>
  rw[g] at a;exact f _ _ a
 | some o =>
  rw[g] at a;dsimp only at a ⊢;have j:(ext ds b).tmps=b.tmps:=rfl;rw[j];split at a
  ·rename_i h;rw[zg3 h]
   rcases a with a | ⟨_,a',w',k⟩
   ·exact zh (zQ d g) c f a
   ·exact absurd (c _ _ _ k) (by simp)
  ·rename_i h;rw[zg2 h];refine⟨fun _ _=>trivial,?_⟩;have:=f _ _ a;rw[mF] at this;exact this
theorem jF (c:oe ops=true)(a:∀ e b w,Q0 e b w→e = .normal∧Q .normal (ext ds b) w):∀ (fuel:Nat) (L:Array Bool) (b:Act) (w:World),wpAny P .any ops Q0 fuel L b w→wpAnyIn (wf ro) 0 P .any ops Q fuel L (ext ds b) w
 | 0,_,_,_,h=>⟨h.1,(a _ _ _ h.2).2⟩
 | fuel+1,L,b,w,h=>⟨fun hr=>(a _ _ _<|h.1 hr).2,fun i d=>qz c (fun e b w h=>(a e b w h).1) (fun b' w' hb=>jF c a fuel _ b' w' hb)<|h.2 i d⟩
end
section
variable {P:Program}{M:Md}{N:Nat}{E:World}{Q:Exit→Act→World→Prop}{f:Fr}{g:PH}{s:Own}{ops:Array Oper}
def Qx (ds:List Deferred)(Q:Exit→Act→World→Prop):Exit→Act→World→Prop:=fun e b w=>e = .normal∧Q .normal (ext ds b) w
instance (ds:List Deferred):Quiet (Qx ds Q):=⟨fun _ _ _ _ _ h=>absurd h.1 (by simp)⟩
theorem ST.ofXT (h:XT M N E Q .normal f g s):ST N E (Qx M.ds Q) .normal f g s:=fun a w b c=>⟨rfl,h _ _ ⟨by simp[ext,b.defers],by
 have:jH (ext M.ds a)=a:=by
  obtain ⟨t,d⟩:=a;have hd:d=[]:=b.defers;subst hd;rfl
 rw[this]; exact b⟩ c⟩
end
end Go.Sy
namespace Go.Proofs.YtbbppeihhkhkcaaGreatDoor
open _root_.Go.Proofs.Tryz _root_.Go.Proofs.YtbbppeihhkhkcaaGreatDoor.Tryz
open Go Go.Sy Go.Pl Go.Proofs
set_option maxRecDepth 100000
set_option maxHeartbeats 1000000
theorem oN {α β:Type}{l:List α}{k:Nat}(h:k<l.length)(p:α→Bool)(f:α→β):((l.take<|k+1).filter p).map f=((l.take k).filter p).map f++(if p l[k] then [f l[k]] else []):=by
 rw[tS h,zh8,zg7];congr 1;simp only[zi9,List.filter_nil];split <;> rfl
theorem vW {α β:Type}(l:List α)(k:Nat)(p:α→Bool)(f:α→β):(((l.take k).filter p).map f).length≤k:=by
 rw[ze8];refine zk9 (zc6 _ _) ?_;rw[ze6]; omega
theorem Tryz.buildE56 (w:World):(Instr.build 56 #[]).run Tryz.prog w = .ok (.agg #[vi 0,vi 0,.slice none 0 0]) w:=by
 simp[Instr.build,Instr.fill];rfl
def CY (l:List Cl)(d:Int):List Int:=((am l).filter fun c=>decide (c.dim=d)).map Cl.id
theorem SU.maxI {P:Program}{N:Nat}{f:Fr}{dst:Option Tmp}{ty:TypeId}{pos:String}{af:Array Edge}{gd:Option (Nat×Bool)}{x y:Operand}{T U:TypeId}{m n:Int}(c:ev f x=some (vi m))(d:ev f y=some (vi n)) :
  SU P N ⟨dst,.call ⟨.builtin .max,#[x,y],#[T,U]⟩,ty,pos,af,gd⟩ f (vi<|max m n):=fun a w b=>by
 have h:=run_max_int2 (P:=P) (w:=w) #[T,U] ty .i64 .i64 m n;have e:(if m<n then n else m)=max m n:=by split <;> omega
 rw[e] at h;simp[execOp,resolve,invoke,builtin,b.ev c,b.ev d,h]
theorem py (E:World)(g:PH)(s:Own)(v:Value)(l:List Cl)(d:Int)(H:ai g v l)(J:aJ l) :
  Ctr Tryz.prog E 45 #[.agg #[v],vi d] g s (fun r g' s'=>s=s'∧Le g g'∧dp g' r (CY l d)):=by
 have m:=bT J;have M:=m.1;obtain ⟨p,c,rfl⟩:=H.form;refine zb2 (args:=[.agg #[.slice p l.length c],vi d]) func45 I ntmps45 (bE I)<|rZ (bW (bO I) fun b2=>?_);refine aT I<|rZ<|aT I<|rZ<|SL.K (qV 0 aj ae I I I)<|lW (SO.call call96 I<|dw E g _ _ l H J) ?_;rintro v9 g1 _ ⟨rfl,B,N⟩;obtain ⟨rs,b,h⟩:=N;obtain ⟨q,dd,rfl⟩:=b.form;refine aT I<|sQ<|rZ<|aT I<|bK ?_;have O:=h.length;unfold CY;generalize am l=A at *;refine zb6 3 1<|oP (ι:=Value×Nat) (fun i=>[(1,vi d),(5,i.1),(6,.slice q rs.length dd),(7,vi i.2)]) (fun _=>g1) (fun i=>rowA encInt 3 i.1 (((A.take i.2).filter fun c=>decide (c.dim=d)).map Cl.id)::pt b2 (.cells #[.slice p l.length c] 29 (0,0))::s)
  (fun i=>i.2≤A.length) (fun i=>A.length - i.2) (.slice none 0 0,0) sB rfl rfl (zf8 _) ?_
 rintro ⟨ov,k⟩ P;dsimp only at P ⊢;refine sQ<|sW I<|lM I<|lU (eN aB I)<|yL I<|tZ<|iP I (fun C=>?_) (fun C=>?_)
 ·have j:k<A.length:=oM;have n:k<rs.length:=oM;have f:=b.based oM;have t:=h.get (List.getElem?_eq_getElem j)<|List.getElem?_eq_getElem n;have y:rs[((k:Nat):Int).toNat]?=some rs[k]:=List.getElem?_eq_getElem n;have a:=oN j (fun c=>decide (c.dim=d)) Cl.id;have L:=vW A k (fun c=>decide (c.dim=d)) Cl.id;have Q:=m.2 _<|gM j;generalize A[k]=x at *;generalize rs[k]=r at *;refine kP<|tN<|sQ<|bK<|sW I<|lM I<|lU (iA aB aw I I f oM sL)<|lU (fC ao I zT3 I f)<|SL.K (aZ (e:=encCell) (o:=1) (u:=vi x.dim) iT3 I b.rd y (by rw[← t.2.1]; rfl)) ?_;refine lM I<|yE I<|tZ<|iP I (fun hd=>?_) (fun hd=>?_)
  ·refine rG<|lM I<|lM I<|lM I<|lU (iA aB aw I I f oM sL)<|lU (fC ao I zT3 I f)<|SL.K (aZ (e:=encCell) (o:=0) (u:=vi x.id) iT3 I b.rd y (by rw[← t.1]; rfl)) ?_;refine lW (bS sty52 I I I (ab sB) dC) ?_;rintro _ _ _ ⟨R,rfl,rfl,rfl⟩;refine lW (aP (e:=encInt) 0 x.id sty52 I I I I I oM oM) ?_;rintro ov' _ _ ⟨rfl,rfl⟩;refine lA I<|SL.nil<|bN<|tN<|rG<|lM I<|yD I<|lA I<|SL.nil ?_;refine ST.to (fun w D=>?_) (g':=g1) (s':=rowA encInt 3 ov' (((A.take<|k+1).filter fun c=>decide (c.dim=d)).map Cl.id)::pt b2 (.cells #[.slice p l.length c] 29 (0,0))::s) ?_
   ·rw[a,zg3<|zg1 hd]; exact D
   exact ST.again (ov',k+1) sB I I (by dsimp only; omega) lN
  ·refine kP<|bN<|tN<|rG<|lM I<|yD I<|lA I<|SL.nil ?_;refine ST.to (fun w D=>?_) (g':=g1) (s':=rowA encInt 3 ov (((A.take<|k+1).filter fun c=>decide (c.dim=d)).map Cl.id)::pt b2 (.cells #[.slice p l.length c] 29 (0,0))::s) ?_
   ·rw[a,zg2 (by rw[zf9 hd]; simp),zc7]; exact D
   exact ST.again (ov,k+1) sB I I (by dsimp only; omega) lN
 ·have F:A.take k=A:=tL oM;rw[F];refine xI (tX<|tX<|bX<|tN<|sW I<|aT I<|rE<|fT fun g2 z G=>?_);exact dR (s':=s) uR<|za8 (.inl I) results45 I ⟨I,B.trans z,G⟩
theorem wL (E:World)(g:PH)(s:Own)(c:Cl)(r:Rc)(id:Int)(p:an g c r)(hl:c.sides.length<1099511627776) :
  Ctr Tryz.prog E 175 #[rcv r,vi id] g s (fun x g' s'=>x=vb (nY c id)∧g=g'∧s=s'):=by
 obtain ⟨ri,rd,⟨rp,rn,rc⟩⟩:=r;have h:SlA encSide g (.slice rp rn rc) c.sides:=p.2.2;have hn:rn=c.sides.length:=zc2 h;subst hn;refine zb2 (args:=[rcv ⟨ri,rd,⟨rp,c.sides.length,rc⟩⟩,vi id]) func175 I ntmps175 (bE I)<|rZ (bW (bO I) fun b2=>?_);refine aT I<|sQ<|rZ<|aT I<|bK<|oP (ι:=Nat) (fun k=>[(1,vi id),(2,pp b2 0),(5,vi k)]) (fun _=>g) (fun _=>pt b2 (.cells #[vi ri,vi rd,.slice rp c.sides.length rc] 56 (0,0))::s)
  (fun k=>k≤c.sides.length∧(c.sides.take k).any (fun x=>decide (x.cell=id))=false) (fun k=>c.sides.length - k) 0 sB rfl rfl ⟨zf8 _,rfl⟩ ?_
 rintro k ⟨q,a⟩;refine sQ<|sW I<|lU (fA ao I aM I)<|SL.K (qL (v:=.slice rp c.sides.length rc) br I<|cO 0 I I)<|lU (eN be I)<|yL I<|tZ<|iP I (fun i=>?_) (fun i=>?_)
 ·have b:k<c.sides.length:=oM;have d:=h.based oM;have j:c.sides[((k:Nat):Int).toNat]?=some c.sides[k]:=List.getElem?_eq_getElem b;have l:(c.sides.take<|k+1).any (fun x=>decide (x.cell=id))=((c.sides.take k).any (fun x=>decide (x.cell=id))||decide (c.sides[k].cell=id)):=by
   rw[tS b,List.any_append]; simp
  have f:c.sides[k]∈c.sides:=gM b;generalize c.sides[k]=x at *;refine kP<|tN<|sQ<|bK<|rZ<|lU (fA ao I aM I)<|SL.K (qL (v:=.slice rp c.sides.length rc) br I<|cO 0 I I)<|lM I<|lU (iA be aY I I d oM sL)<|lU (fC c4 I zT3 I d)<|SL.K (aZ (e:=encSide) (o:=0) (u:=vi x.cell) iT3 I h.rd j I)<|lM I<|yE I<|tZ<|iP I (fun m=>?_) (fun m=>?_)
  ·exact rZ<|aT I<|rE<|bR<|tR<|tR<|bR<|tR<|dR (s':=s) uR<|za8 (.inl I) results175 I ⟨by rw[show nY c id=true from zk1.2 ⟨x,f,zg1 m⟩],I,I⟩
  ·exact kP<|bN<|tN<|rG<|lM I<|yD I<|lA I<|SL.nil<|ST.again (k+1) sB I I ⟨oM,by rw[l,a,zf9 m]; rfl⟩ oM
 ·have n:c.sides.take k=c.sides:=tL oM;rw[n] at a;exact xI<|tX<|tX<|bX<|tN<|rZ<|aT I<|rE<|dR (s':=s) uR<|za8 (.inl I) results175 I ⟨by rw[show nY c id=false from a],I,I⟩
theorem dx (E:World)(g:PH)(s:Own)(v:Value)(l:List Cl)(id:Int)(H:ai g v l)(J:aJ l) :
  Ctr Tryz.prog E 116 #[.agg #[v],vi id] g s (fun r g' s'=>s=s'∧Le g g'∧dp g' r (aC l id)):=by
 have j:=bT J;have M:=j.1;obtain ⟨p,c,rfl⟩:=H.form;refine zb2 (args:=[.agg #[.slice p l.length c],vi id]) func116 I ntmps116 (bE I)<|rZ (bW (bO I) fun b2=>?_);refine aT I<|rZ<|aT I<|rZ<|SL.K (qV 0 aj ae I I I)<|lW (SO.call call96 I<|dw E g _ _ l H J) ?_;rintro v9 g1 _ ⟨rfl,z,N⟩;obtain ⟨rs,b,d⟩:=N;obtain ⟨q,dd,rfl⟩:=b.form;refine aT I<|sQ<|rZ<|aT I<|bK ?_;have O:=d.length;unfold aC;generalize am l=A at *;refine zb6 3 1<|oP (ι:=Value×Nat) (fun i=>[(1,vi id),(5,i.1),(6,.slice q rs.length dd),(7,vi i.2)]) (fun _=>g1) (fun i=>rowA encInt 3 i.1 (((A.take i.2).filter fun c=>nY c id).map Cl.id)::pt b2 (.cells #[.slice p l.length c] 29 (0,0))::s)
  (fun i=>i.2≤A.length) (fun i=>A.length - i.2) (.slice none 0 0,0) sB rfl rfl (zf8 _) ?_
 rintro ⟨ov,k⟩ P;dsimp only at P ⊢;refine sQ<|sW I<|lM I<|lU (eN aB I)<|yL I<|tZ<|iP I (fun B=>?_) (fun B=>?_)
 ·have f:k<A.length:=oM;have m:k<rs.length:=oM;have h:=b.based oM;have n:=d.get (List.getElem?_eq_getElem f)<|List.getElem?_eq_getElem m;have t:rs[((k:Nat):Int).toNat]?=some rs[k]:=List.getElem?_eq_getElem m;have a:=oN f (fun c=>nY c id) Cl.id;have L:=vW A k (fun c=>nY c id) Cl.id;have C:=j.2 _<|gM f;generalize A[k]=x at *;generalize rs[k]=r at *;refine kP<|tN<|sQ<|bK<|sW I<|lM I<|lU (iA aB aw I I h oM sL)<|SL.K (SQ.elemA dT aw I b.rd t)<|lM I<|lW (SO.call call175 I<|wL E g1 _ x r id n C) ?_;rintro _ _ _ ⟨rfl,rfl,rfl⟩;refine tZ<|iQ I (fun hd=>?_) (fun hd=>?_)
  ·refine rG<|lM I<|lM I<|lM I<|lU (iA aB aw I I h oM sL)<|lU (fC ao I zT3 I h)<|SL.K (aZ (e:=encCell) (o:=0) (u:=vi x.id) iT3 I b.rd t (by rw[← n.1]; rfl)) ?_;refine lW (bS sty52 I I I (ab sB) dC) ?_;rintro _ _ _ ⟨Q,rfl,rfl,rfl⟩;refine lW (aP (e:=encInt) 0 x.id sty52 I I I I I oM oM) ?_;rintro ov' _ _ ⟨rfl,rfl⟩;refine lA I<|SL.nil<|bN<|tN<|rG<|lM I<|yD I<|lA I<|SL.nil ?_;refine ST.to (fun w D=>?_) (g':=g1) (s':=rowA encInt 3 ov' (((A.take<|k+1).filter fun c=>nY c id).map Cl.id)::pt b2 (.cells #[.slice p l.length c] 29 (0,0))::s) ?_
   ·rw[a,zg3<|hd]; exact D
   exact ST.again (ov',k+1) sB I I (by dsimp only; omega) lN
  ·refine kP<|bN<|tN<|rG<|lM I<|yD I<|lA I<|SL.nil ?_;refine ST.to (fun w D=>?_) (g':=g1) (s':=rowA encInt 3 ov (((A.take<|k+1).filter fun c=>nY c id).map Cl.id)::pt b2 (.cells #[.slice p l.length c] 29 (0,0))::s) ?_
   ·rw[a,zg2 (by rw[hd]; simp),zc7]; exact D
   exact ST.again (ov,k+1) sB I I (by dsimp only; omega) lN
 ·have F:A.take k=A:=tL oM;rw[F];refine xI (tX<|tX<|bX<|tN<|sW I<|aT I<|rE<|fT fun g2 y G=>?_);exact dR (s':=s) uR<|za8 (.inl I) results116 I ⟨I,z.trans y,G⟩
theorem a8 (E:World)(g:PH)(s:Own)(v:Value)(l:List Cl)(id:Int)(D:ai g v l)(F:aJ l) :
  Ctr Tryz.prog E 48 #[.agg #[v],vi id] g s (fun r g' s'=>s=s'∧Le g g'∧∃ x,r = .tuple #[rcv x,vb (findC l id).isSome]∧an g' ((findC l id).getD aH) x):=by
 have t:=bT F;have u:=t.1;obtain ⟨p,c,rfl⟩:=D.form;have e:=fF l;have G:=iW l;refine zb2 (args:=[.agg #[.slice p l.length c],vi id]) func48 I ntmps48 (bE I)<|rZ (bW (bO I) fun b2=>?_);refine bW (aL zl7) fun b4=>aT I<|rZ<|SL.K (qV 1 aj ae I I I)<|lW (SO.call call96 I<|dw E g _ _ l D F) ?_;rintro v9 g1 _ ⟨rfl,i,H⟩;obtain ⟨rs,d,a⟩:=H;have w:ai g1 _ (am l):=⟨rs,d,a⟩;obtain ⟨q,dd,rfl⟩:=d.form;refine aT I<|sW I<|lM I<|lW (SO.call call101 I<|il E g1 _ _ (am l) id w u e) ?_;rintro _ _ _ ⟨rfl,rfl,rfl⟩;refine aT I<|sQ<|sW I<|yL I<|tZ ?_;have J:=a.length;unfold findC;generalize am l=A at *;have j:=sb e id;refine iP I (fun b=>?_) (fun b=>?_)
 ·rcases j with ⟨m,h⟩ | ⟨x,k,m,h,y⟩
  ·have n:(A.find? fun c=>decide (c.id=id))=none:=m;exact rZ<|lU (za3 I<|buildE56)<|oZ (sK 0 aw I I I I I sB)<|aT I<|rE<|tR<|ST.retCD1 0 s (.inl I) results48 I I dT aw I I uR ⟨I,i,Ax,by rw[n]; rfl,by rw[n]; exact gW g1⟩
  ·rw[h] at b; omega
 ·rcases j with ⟨m,h⟩ | ⟨x,k,m,h,y⟩
  ·rw[h] at b; omega
  ·have f:(A.find? fun c=>decide (c.id=id))=some x:=m;rw[h];have L:k<A.length:=(zf7.1 y).1;have o:k<rs.length:=oM;have z:=d.based oM;have B:=a.get y<|List.getElem?_eq_getElem o;have C:rs[((k:Nat):Int).toNat]?=some rs[k]:=List.getElem?_eq_getElem o;generalize rs[k]=r at *;obtain ⟨ri,rd,⟨rp,rn,rc⟩⟩:=r;exact kP<|tN<|sW I<|lM I<|lU (iA aB aw I I z oM sL)<|SL.K (SQ.elemA dT aw I d.rd C)<|oZ (sK 0 aw I I I I I sB)<|aT I<|rE<|ST.retCD1 0 s (.inl I) results48 I I dT aw I I uR ⟨I,i,⟨ri,rd,⟨rp,rn,rc⟩⟩,by rw[f]; rfl,by rw[f]; exact B⟩
end Go.Proofs.YtbbppeihhkhkcaaGreatDoor
namespace Go.Sy
open Go
section
variable {α:Type}{k:Nat}{P:Program}{N:Nat}{E:World}{f:Fr}{g:PH}{s:Own}{dst:Option Tmp}{ty:TypeId}{pos:String}{af:Array Edge}{gd:Option (Nat×Bool)}
theorem SO.makeC {x y:Operand}{t T:TypeId}{bytes n:Nat}{z:Value}(e:Enc α k)(m:STy P t T k bytes z)(v:ev f x=some (vi 0))(A:ev f y=some (vi n))(hb:n * bytes≤140737488355328)(p:n≤4611686018427387904) :
  SO P N E ⟨dst,.makeSlice t x y,ty,pos,af,gd⟩ f g s fun v' g' s'=>g=g'∧s'=rowA e T v' []::s :=
 SO.of_run fun ac w q r=>by
  obtain ⟨ti,b,c,d,h⟩:=m.info;have i:(ti.bytes:Int) * ((n:Nat):Int)≤281474976710656:=by
   rw[h,← Int.natCast_mul,Nat.mul_comm]; omega
  have j:=run_make (P:=P) w t T ti z m.und b c .i64 .i64 0 n oM oM i oM;simp only[Int.toNat_natCast] at j;rw[d] at j;have a:(execOp ac.eval ⟨dst,.makeSlice t x y,ty,pos,af,gd⟩).run P w = .ok (.value<|.slice (some ⟨w.heap.size,0,none⟩) 0 n) (w.alloc<|.cells (madeCells z.cells<|n * k) T):=by
   simp[execOp,q.ev v,q.ev A,j]
  have u:(w.alloc<|.cells (madeCells z.cells<|n * k) T).heap[w.heap.size]?=some (.cells (madeCells z.cells<|n * k) T (0,0)):=heap_alloc_new w _;refine⟨_,_,g,_,a,?_,I,I⟩;cases n with
  | zero =>
   have B:=r.emptyRow T k<|some ⟨w.heap.size,0,none⟩;have C:=B.alloc (e:=pt w.heap.size<|.cells (madeCells z.cells<|0 * k) T (0,0)) (o:=.cells (madeCells z.cells<|0 * k) T (0,0)) rfl rfl;exact C.sublist<|zj3 _ _
  | succ n =>
   have l:(madeCells z.cells<|(n+1) * k).size=(n+1) * k:=by simp[madeCells]
   exact r.alloc (e:=rowA e T (.slice (some ⟨w.heap.size,0,none⟩) 0<|n+1) []) (o:=.cells (madeCells z.cells<|(n+1) * k) T (0,0)) I ⟨by simp,.inr ⟨_,n,_,I,I,by simp,by unfold maxLen; omega,l,by simp⟩⟩
def tm:Enc Int 1:=⟨fun n=>[.int .u8 n],fun _=>rfl,fun _ u hu=>by simp at hu; subst hu; rfl,by decide⟩
def Fz:Enc Int 1:=⟨fun n=>[.int .u64 n],fun _=>rfl,fun _ u hu=>by simp at hu; subst hu; rfl,by decide⟩
def byt (l:List Int):List UInt8:=l.map fun n=>UInt8.ofNat n.toNat
def txt (l:List UInt8):Value:=.string ⟨l.toArray⟩
theorem Ct (l:List Int):∀ s:ByteArray,l.foldl (fun r n=>r.push<|UInt8.ofNat n.toNat) s=⟨s.data++(byt l).toArray⟩:=by
 induction l with
 | nil=>intro s; simp[byt]
 | cons a t ih =>
  intro s;simp only[zj1];rw[ih];simp[byt,ByteArray.push]
theorem z8 (l:List Int):l.flatMap tm.enc=l.map (Value.int .u8):=by
 induction l with
 | nil=>rfl
 | cons a t ih=>simp only[zh7,zg6,ih]; rfl
theorem SQ.bytesText {x:Operand}{S D e:TypeId}{p:Option Addr}{c:Nat}{l:List Int}(v:P.underlying S=some (.slice e))(z:P.underlying e=some (.int .u8))(hd:P.underlying D=some .string)
  (A:ev f x=some (.slice p l.length c)) (hr:Rd g s (.slice p l.length c) (l.flatMap tm.enc)) :
  SQ P N E ⟨dst,.convert S D x,ty,pos,af,gd⟩ f g s (txt<|byt l):=fun a w B u=>by
 have C:(convert S D<|.slice p l.length c).run P w = .ok (txt<|byt l) w:=by
  rw[run_convert_bytes_string w S D e p l.length c v z hd];rw[z8] at hr;cases l with
  | nil =>
   cases p with
   | none=>simp[Conv.bytesToString,txt,byt]; rfl
   | some a =>
    have k:=run_bytesToString (P:=P) w a 0 c [] (by simp[loadCells]; exact de (P:=P) (w:=w) (b:=a.block) (o:=a.off) 0 0 [] #[] I (fun j y m=>by simp at m));rw[zc5,k];rfl
  | cons n t =>
   obtain ⟨q,n',c',h,i,F⟩:=hr E w u 0 (.int .u8 n) rfl;injection h with h G H
   subst h;obtain ⟨qb,qo,qs⟩:=q;dsimp only at i;subst i;have k:=run_bytesToString (P:=P) w ⟨qb,qo,none⟩ (n::t).length c (n::t) (by
    have:=de (P:=P) (w:=w) (b:=qb) (o:=qo) (n::t).length 0 ((n::t).map (Value.int .u8)) #[] (by simp) (fun j y m=>by
     obtain ⟨q',n2,c2,d,_,r⟩:=hr E w u j y m;injection d with d
     injection d with d
     subst d;simpa using r)
    simpa [loadCells] using this)
   rw[k,Ct];simp[txt]
 simp[execOp,B.ev A,C]
theorem xF (l:List UInt8):(⟨l.toArray⟩:ByteArray).toList=l:=by rw[ByteArray.toList_eq]
theorem SU.neqT {x y:Operand}{T U:TypeId}{l m:List UInt8}(b:ev f x=some (txt l))(c:ev f y=some (txt m)) :
  SU P N ⟨dst,.binOp .neq T x y U,ty,pos,af,gd⟩ f (.bool<|decide (l≠m)):=fun ac w a=>by
 have hg:(eqGuard .neq T x y (txt l)<|txt m).run P w = .ok () w:=by simp[eqGuard,txt]
 have hb:(binOp .neq T (txt l)<|txt m).run P w = .ok (.bool<|decide (l≠m)) w:=by
  unfold txt;rw[binOp_string_neq,xF,xF];by_cases h:l=m <;> simp[h,bne] <;> rfl
 simp only[execOp,a.ev b,a.ev c,Sem.run_bind,hg,zd2,hb];rfl
end
end Go.Sy
namespace Go.Sy
open Go
section
variable {P:Program}{N:Nat}{f:Fr}{dst:Option Tmp}{ty:TypeId}{pos:String}{af:Array Edge}{gd:Option (Nat×Bool)}
end
end Go.Sy
namespace Go.Proofs.YtbbppeihhkhkcaaGreatDoor
open _root_.Go.Proofs.Tryz _root_.Go.Proofs.YtbbppeihhkhkcaaGreatDoor.Tryz
open Go Go.Sy Go.Pl Go.Proofs Go.Shelf
set_option maxRecDepth 100000
set_option maxHeartbeats 1000000
theorem FJ {f:Fr}{t:Nat}{a b:Int}(h:aN f t=some (vi a))(e:a=b):aN f t=some (vi b):=e ▸ h
theorem Tryz.sty222:STy Tryz.prog 222 145 1 8 (.int .u64 0):=⟨underlying222,⟨t145,by kernel_rfl,by kernel_rfl,by kernel_rfl,by kernel_rfl⟩,rfl,by decide⟩
theorem Tryz.sty208:STy Tryz.prog 208 5 1 1 (.int .u8 0):=⟨underlying208,⟨t5,by kernel_rfl,by kernel_rfl,by kernel_rfl,by kernel_rfl⟩,rfl,by decide⟩
def eK (l:List Int):List Int:=(l.reverse.dropWhile (· == 0)).reverse
theorem qN {m:List Int}(h:0<m.length)(b:m.getD (m.length - 1) 1=0):eK (m.take<|m.length - 1)=eK m:=by
 rcases List.eq_nil_or_concat m with rfl | ⟨a,x,rfl⟩
 ·simp at h
 ·have c:x=0:=by simpa [zh3] using b
  subst c;simp[eK]
theorem qM {m:List Int}(h:(decide ((m.length:Int)>0)&&decide (m.getD (m.length - 1) 1=0))=false):eK m=m:=by
 rcases List.eq_nil_or_concat m with rfl | ⟨a,x,rfl⟩
 ·rfl
 ·have b:x≠0:=by simpa [zh3] using h
  simp[eK,b]
theorem BZ (E:World)(g:PH)(s:Own)(v:Value)(l:List Int)(t:SlA Fz g v l)(hl:l.length<1099511627776) :
  Ctr Tryz.prog E 232 #[v] g s (fun r g' s'=>g=g'∧s=s'∧SlA Fz g r (eK l)):=by
 refine zb2 (args:=[v]) func232 I ntmps232 (bE I)<|rZ<|aT I<|sQ<|bK<|oP (ι:=Value×List Int) (fun i=>[(0,i.1)]) (fun _=>g) (fun _=>s) (fun i=>SlA Fz g i.1 i.2∧eK i.2=eK l∧i.2.length≤l.length) (fun i=>i.2.length) (v,l) ⟨I,trivial⟩ I I ⟨t,I,Nat.le_refl _⟩ ?_;rintro ⟨v1,m⟩ ⟨hm,a,f⟩;dsimp only at hm a f ⊢;obtain ⟨p,c,rfl⟩:=za4 hm;have o:=(SlA.cap hm).2;have f1:(m.length:Int)>0→(decide ((m.length:Int)>0)&&decide (m.getD (m.length - 1) 1=0))=decide (m.getD (m.length - 1) 1=0):=fun h=>by rw[zg1 h,Bool.true_and]
 have f2:¬ (m.length:Int)>0→(decide ((m.length:Int)>0)&&decide (m.getD (m.length - 1) 1=0))=false:=fun h=>by simp only[h,decide_false,Bool.false_and]
 have j:(m.length:Int)>0→m[((m.length:Int) - 1).toNat]?=some (m.getD (m.length - 1) 1):=fun h=>by
  have k:((m.length:Int) - 1).toNat=m.length - 1:=oM;have u:m.length - 1<m.length:=oM;rw[k,zh3,List.getElem?_eq_getElem u]; rfl
 have n:(m.length:Int)>0→based (.slice p m.length c)=true:=fun h=>za6 hm oM;refine sQ<|SC.cutB 14 ((decide ((m.length:Int)>0)&&decide (m.getD (m.length - 1) 1=0))) ?_ ?_
 ·refine rG<|lM I<|lU (eN tf I)<|lU (gR I I)<|lM I<|sP ?_ ?_
  ·intro d;exact yC I<|yC I<|lY I I I (eN tf I)<|lY I I I (sU I I oM)<|lY I I I (iA tf sizeOf145 I I (n d) oM sL)<|SL.gq (gT I I I dC) (eB isAgg145 I (za7 hm) (j d) I) dC<|lY I I I (eQ I I)<|yP I<|SL.nil<|zb1 (by (rw[f1 d]; rfl)) mI
  ·intro d;exact yA I<|yA I<|yA I<|yA I<|yA I<|yA I<|yA I<|yF I<|SL.nil<|zb1 (by (rw[f2 d]; rfl)) mI
 refine iQ I (fun e=>?_) (fun e=>?_)
 ·rw[zj5,zj8,zj8] at e;obtain ⟨q,b⟩:=e;have k:((m.length:Int) - 1).toNat=m.length - 1:=oM;refine kP<|tN<|bK<|rG<|lM I<|lM I<|lU (eN tf I)<|lU (sU I I oM)<|lU (SU.sliceH tf sizeOf145 I I oM oM)<|lA I<|SL.nil<|bN<|ST.again (sliced p 0 ((m.length:Int) - 1).toNat c 1,m.take<|m.length - 1) ⟨I,trivial⟩ I I ⟨?_,?_,?_⟩ (by dsimp only; rw[ze6]; omega)
  ·have:=SlA.cut hm (l:=0) (m:=m.length - 1) (zf8 _) oM;dsimp only;rw[k];simpa using this
  ·dsimp only; rw[qN oM b]; exact a
  ·dsimp only; rw[ze6]; omega
 ·exact xI<|tX<|tX<|bX<|tN<|sW I<|aT I<|rE<|za8 (.inl I) results232 I ⟨I,I,by rw[← a,qM e]; exact hm⟩
theorem vw (E:World)(g:PH)(s:Own)(v:Value)(l:List Int)(t:SlA encInt g v l)(hl:l.length<1099511627776) :
  Ctr Tryz.prog E 164 #[v] g s (fun r g' s'=>g=g'∧s=s'∧SlA encInt g r (eK l)):=by
 refine zb2 (args:=[v]) func164 I ntmps164 (bE I)<|rZ<|aT I<|sQ<|bK<|oP (ι:=Value×List Int) (fun i=>[(0,i.1)]) (fun _=>g) (fun _=>s) (fun i=>SlA encInt g i.1 i.2∧eK i.2=eK l∧i.2.length≤l.length) (fun i=>i.2.length) (v,l) ⟨I,trivial⟩ I I ⟨t,I,Nat.le_refl _⟩ ?_;rintro ⟨v1,m⟩ ⟨hm,a,f⟩;dsimp only at hm a f ⊢;obtain ⟨p,c,rfl⟩:=za4 hm;have o:=(SlA.cap hm).2;have f1:(m.length:Int)>0→(decide ((m.length:Int)>0)&&decide (m.getD (m.length - 1) 1=0))=decide (m.getD (m.length - 1) 1=0):=fun h=>by rw[zg1 h,Bool.true_and]
 have f2:¬ (m.length:Int)>0→(decide ((m.length:Int)>0)&&decide (m.getD (m.length - 1) 1=0))=false:=fun h=>by simp only[h,decide_false,Bool.false_and]
 have j:(m.length:Int)>0→m[((m.length:Int) - 1).toNat]?=some (m.getD (m.length - 1) 1):=fun h=>by
  have k:((m.length:Int) - 1).toNat=m.length - 1:=oM;have u:m.length - 1<m.length:=oM;rw[k,zh3,List.getElem?_eq_getElem u]; rfl
 have n:(m.length:Int)>0→based (.slice p m.length c)=true:=fun h=>za6 hm oM;refine sQ<|SC.cutB 14 ((decide ((m.length:Int)>0)&&decide (m.getD (m.length - 1) 1=0))) ?_ ?_
 ·refine rG<|lM I<|lU (eN az I)<|lU (gR I I)<|lM I<|sP ?_ ?_
  ·intro d;exact yC I<|yC I<|lY I I I (eN az I)<|lY I I I (sU I I oM)<|lY I I I (iA az zT3 I I (n d) oM sL)<|SL.gq (gT I I I dC) (eB iT3 I (za7 hm) (j d) I) dC<|lY I I I (eQ I I)<|yP I<|SL.nil<|zb1 (by (rw[f1 d]; rfl)) mI
  ·intro d;exact yA I<|yA I<|yA I<|yA I<|yA I<|yA I<|yA I<|yF I<|SL.nil<|zb1 (by (rw[f2 d]; rfl)) mI
 refine iQ I (fun e=>?_) (fun e=>?_)
 ·rw[zj5,zj8,zj8] at e;obtain ⟨q,b⟩:=e;have k:((m.length:Int) - 1).toNat=m.length - 1:=oM;refine kP<|tN<|bK<|rG<|lM I<|lM I<|lU (eN az I)<|lU (sU I I oM)<|lU (SU.sliceH az zT3 I I oM oM)<|lA I<|SL.nil<|bN<|ST.again (sliced p 0 ((m.length:Int) - 1).toNat c 1,m.take<|m.length - 1) ⟨I,trivial⟩ I I ⟨?_,?_,?_⟩ (by dsimp only; rw[ze6]; omega)
  ·have:=SlA.cut hm (l:=0) (m:=m.length - 1) (zf8 _) oM;dsimp only;rw[k];simpa using this
  ·dsimp only; rw[qN oM b]; exact a
  ·dsimp only; rw[ze6]; omega
 ·exact xI<|tX<|tX<|bX<|tN<|sW I<|aT I<|rE<|za8 (.inl I) results164 I ⟨I,I,by rw[← a,qM e]; exact hm⟩
theorem tK (E:World)(g:PH)(s:Own)(v:Value)(c:v.cells = #[v]) :
  Ctr Tryz.prog E 233 #[v] g s (fun r g' s'=>s=s'∧Le g g'∧∃ b,r = .func (.func 271) #[] #[pp b 0]∧g' b=some (.cells #[v] 222 (0,0))):=by
 refine zb2 (args:=[v]) func233 I ntmps233 (bE I)<|rZ (bW (bO I) fun b1=>?_);refine aT I<|rZ<|lU (SU.mkFunc I)<|aT I<|rE ?_;rw[c];refine ST.freeze fun g1 a hb=>?_;exact za8 (.inl I) results233 I ⟨I,a,_,I,hb⟩
def tT (l:List Int):List (Nat×Int):=(l.zipIdx.map fun p=>(p.2,p.1)).reverse
theorem pw (l:List Int):(tT l).length=l.length:=by simp[tT]
theorem Dq {l:List Int}{k:Nat}(h:k<l.length):(tT l)[l.length - 1 - k]?=some (k,l[k]):=by
 unfold tT;rw[List.getElem?_reverse (by simp; omega)];simp only[ze8,List.length_zipIdx];rw[show l.length - 1 - (l.length - 1 - k)=k by omega];simp[h]
theorem qJ (E:World)(g0:PH)(b:Nat)(v:Value)(l:List Int)(hb:g0 b=some (.cells #[v] 222 (0,0)))(C:SlA Fz g0 v l)(hl:l.length<1099511627776) :
  FP Tryz.prog E 271 [pp b 0] (fun x:Nat×Int=>[vi x.1,.int .u64 x.2]) (tT l) g0:=by
 intro k ι G S J i0 D a H sx;obtain ⟨p,c,rfl⟩:=za4 C;refine Ctr.ofX (args:=[.func (.yield k) #[] #[],pp b 0]) func271 I ntmps271 (bE I)<|XC.seq<|XC.region<|XL.q (qL (v:=.slice p l.length c) isAgg222 I<|cK (a _ _ D _ _ hb) I) dC<|XL.u (eN tf I) dC<|XL.u (sU I I oM) dC<|XL.u (aS I) dC<|XL.nil<|XT.thenN<|XC.block<|XC.loop (ι:=ι×Nat) (fun i=>[(0,.func (.yield k) #[] #[]),(1,pp b 0),(3,vi<|(i.2:Int) - 1)]) (fun i=>G i.1) (fun i=>S i.1++sx) (fun i=>i.2≤l.length∧J ((tT l).take<|l.length - i.2) i.1) (fun i=>i.2) (i0,l.length)
  sB rfl rfl ⟨Nat.le_refl _,by simpa using D⟩ ?_
 rintro ⟨j,n⟩ ⟨hn,h⟩;dsimp only at hn h ⊢;have e:=a _ _ h;refine XC.seq<|XC.seq<|XC.region<|XL.u (mV I) dC<|XL.u (gQ I I) dC<|XL.nil<|XT.thenN<|XC.ifP I (fun m=>?_) (fun m=>?_)
 ·have f:n - 1<l.length:=oM;have g:=za5 C e;have o:=za6 g oM;have r:l[((n:Int) - 1).toNat]?=some l[n - 1]:=by rw[show ((n:Int) - 1).toNat=n - 1 by omega]; exact List.getElem?_eq_getElem f
  have d:=Dq f;rw[show l.length - 1 - (n - 1)=l.length - n by omega] at d;have s:tT l=(tT l).take (l.length - n)++(n - 1,l[n - 1])::(tT l).drop (l.length - n+1):=by
   obtain ⟨F,t⟩:=zf7.1 d;rw[← t,List.getElem_cons_drop,zj4]
  have w:=H _ _ _ j sx s h;have y:(tT l).take (l.length - (n - 1))=(tT l).take (l.length - n)++[(n - 1,l[n - 1])]:=by
   obtain ⟨F,t⟩:=zf7.1 d;rw[show l.length - (n - 1)=l.length - n+1 by omega,tS F,t]
  generalize l[n - 1]=x at *;have z:vi ((n - 1:Nat):Int)=vi ((n:Int) - 1):=ze4 vi oM;dsimp only at w;rw[z] at w;refine XC.skip<|XT.thenN<|XC.seq<|XC.block<|XC.seq<|XC.region<|XL.u (mV I) dC<|XL.u (mV I) dC<|XL.q (qL (v:=.slice p l.length c) isAgg222 I<|cK (e _ _ hb) I) dC<|XL.u (mV I) dC<|XL.u (iA tf sizeOf145 I I o oM sL) dC<|XL.q (eB isAgg145 I (za7 g) r I) dC<|XL.x (XO.yield I I w) dC ?_;rintro _ _ _ ⟨rfl,j',A,rfl,rfl⟩;exact XL.u (SU.not I) dC<|XL.nil<|XT.thenN<|XC.condF I<|XC.skip<|XT.blockN<|XT.thenN<|XC.region<|XL.u (mV I) dC<|XL.u (sU I I oM) dC<|XL.u (aS I) dC<|XL.nil<|XT.again (j',n - 1) ⟨I,I,FJ I oM,trivial⟩ I I ⟨by dsimp only; omega,by dsimp only; rw[y]; exact A⟩ (by dsimp only; omega)
 ·have B:n=0:=oM;subst B;exact XC.exit<|XT.thenX<|XT.thenX<|XT.blockX<|XT.leave0 (.inr I)<|ST.ret0 (.inr I) results271 ⟨j,by have:=h; rwa [tL (by rw[pw]; omega)] at this,I,I⟩
def w8:Ren :=
 {
  f:=fun x =>
   match x with
   | 161=>234
   | 231=>272
   | 227=>273
   | 233=>274
   | 235=>275
   | 228=>293
   | 197=>294
   | 151=>295
   | 260=>302
   | 152=>303
   | 137=>305
   | 119=>306
   | 224=>307
   | 225=>308
   | 217=>309
   | 266=>310
   | n=>n,
  t:=fun x =>
   match x with
   | 9=>9
   | 4=>4
   | 3=>3
   | 5=>5
   | 117=>284
   | 116=>283
   | 0=>0
   | 124=>287
   | 105=>301
   | 21=>21
   | 119=>310
   | 46=>203
   | 139=>313
   | 138=>312
   | n=>n,
  g:=fun x =>
   match x with
   | 3=>0
   | 4=>1
   | n=>n }
theorem Tryz.lays161:Lays.n161 Tryz.prog w8 :=
  {
  mixed:=Eq.refl true,f119:=zb8 func306<|ze4 some kR,
  f137:=zb8 func305<|ze4 some kR,
  f151:=zb8 func295<|ze4 some kR,
  f152:=zb8 func303<|ze4 some kR,
  f161:=zb8 func234<|ze4 some kR,
  f197:=zb8 func294<|ze4 some kR,
  f217:=zb8 func309<|ze4 some kR,
  f224:=zb8 func307<|ze4 some kR,
  f225:=zb8 func308<|ze4 some kR,
  f227:=zb8 func273<|ze4 some kR,
  f228:=zb8 func293<|ze4 some kR,
  f231:=zb8 func272<|ze4 some kR,
  f233:=zb8 func274<|ze4 some kR,
  f235:=zb8 func275<|ze4 some kR,
  f260:=zb8 func302<|ze4 some kR,
  f266:=zb8 func310<|ze4 some kR,t0:=uT0,
  a0:=isAgg0,z0:=sizeOf0,v0:=zl6,t3:=uT3,a3:=iT3,
  z3:=zT3,v3:=zm4,t4:=uT4,a4:=isAgg4,z4:=zT4,
  v4:=zl5,t5:=uT5,a5:=isAgg5,z5:=sizeOf5,v5:=zeroValue5,
  t9:=uT9,a9:=isAgg9,z9:=sizeOf9,v9:=zeroValue9,t21:=underlying21,
  a21:=isAgg21,z21:=sizeOf21,v21:=zeroValue21,t46:=jN,a46:=isAgg203,
  z46:=sizeOf203,v46:=zeroValue203,t105:=underlying301,a105:=isAgg301,
  z105:=sizeOf301,v105:=zeroValue301,t116:=underlying283,a116:=isAgg283,
  z116:=sizeOf283,t117:=underlying284,a117:=isAgg284,z117:=sizeOf284,
  v117:=zeroValue284,t119:=underlying310,a119:=isAgg310,z119:=sizeOf310,
  t124:=underlying287,a124:=isAgg287,z124:=sizeOf287,v124:=zeroValue287,
  t138:=underlying312,a138:=isAgg312,z138:=sizeOf312,v138:=zeroValue312,
  t139:=underlying313,a139:=isAgg313,z139:=sizeOf313,v139:=zeroValue313,
  g3:=kR,g4:=kR }
def np (l:List UInt8):List UInt8:=l.dropWhile (· == 0)
theorem tt (E:World)(g:PH)(s:Own)(l:List UInt8) :
  Ctr Tryz.prog E 234 #[txt l,txt [0]] g s (fun r g' s'=>r=txt (np l)∧g=g'∧s=s'):=by
 intro w a;refine (Any.strings_TrimLeft_one lays161 ⟨l.toArray⟩ 0 dC w).mono ?_;rintro e w' ⟨rfl,rfl⟩;exact⟨_,g,s,I,a,I,I,I⟩
def by4 (x:Int):List Int:=[IntKind.u8.wrap<|x.fdiv<|2 ^ min (24:Int).toNat IntKind.u64.bits,IntKind.u8.wrap<|x.fdiv<|2 ^ min (16:Int).toNat IntKind.u64.bits,IntKind.u8.wrap<|x.fdiv<|2 ^ min (8:Int).toNat IntKind.u64.bits,IntKind.u8.wrap x]
def byP (x:Nat×Int):List Int:=by4 x.2
theorem Ah (l:List (Nat×Int)):(l.flatMap byP).length=4 * l.length:=by
 induction l with
 | nil=>rfl
 | cons a t ih=>simp only[zh7,ze7,ih,zf1,byP,by4,zc5]; omega
theorem xG (l:List Int):(eK l).length≤l.length:=by
 unfold eK;rw[List.length_reverse];have:=(List.dropWhile_sublist (l:=l.reverse) (· == 0)).length_le;simpa using this
def nF (l:List Int):List UInt8:=np (byt<|(tT<|eK l).flatMap byP)
def CQ (neg:Bool)(bs:List UInt8):Value:=.agg #[vb<|neg&&decide (bs≠[]),txt bs]
theorem Tryz.build80 (a:Bool)(l:List UInt8)(w:World):(Instr.build 80 #[(0,vb a),(1,txt l)]).run Tryz.prog w = .ok (.agg #[vb a,txt l]) w:=by
 have b:(vb a).cells = #[vb a]:=rfl;have c:(txt l).cells = #[txt l]:=rfl;simp[Instr.build,Instr.fill,b,c];rfl
theorem vB (E:World)(g:PH)(s:Own)(v:Value)(l:List Int)(neg:Bool)(C:SlA Fz g v l)(hl:l.length<1099511627776) :
  Ctr Tryz.prog E 187 #[v,vb neg] g s (fun r g' s'=>r=CQ neg (nF l)∧s=s'∧Le g g'):=by
 have F:=xG l;refine Ctr.ofX (args:=[v,vb neg]) func187 I ntmps187 (bE I)<|XC.seq<|XC.region<|XL.o (aL zeroValue80) dC ?_;rintro _ _ _ ⟨b4,rfl,rfl,rfl⟩;refine XL.nil<|XT.thenN<|XC.seq<|XC.region<|XL.u (mV I) dC<|XL.o (SO.call call232 I<|BZ E g _ v l C hl) dC ?_;rintro v10 _ _ ⟨rfl,rfl,hm⟩;obtain ⟨q,d,rfl⟩:=za4 hm;refine XL.u (aS I) dC<|XL.nil<|XT.thenN<|XC.seq<|XC.region<|XL.u (mV I) dC<|XL.u (eN tf I) dC<|XL.u (SU.eq (v':=vi<|(4 * (eK l).length:Nat)) (SU.mul I I oM)<|ze4 vi oM) dC<|XL.o (SO.makeC tm sty208 I I oM oM) dC ?_;rintro v14 _ _ ⟨rfl,rfl⟩;refine XL.facts fun ⟨w0,b⟩=>?_;obtain ⟨f,j,rfl⟩:=ag (i:=0) b rfl;clear b w0;refine XL.o (aL zeroValue208) dC ?_;rintro _ _ _ ⟨b5,rfl,rfl,rfl⟩;refine XL.on (sK 0 sizeOf208 I I I I I sB) ?_;rintro _ _ _ ⟨rfl,rfl⟩;refine XL.nil<|XT.thenN<|XC.seq<|XC.seq<|XC.region<|XL.u (mV I) dC<|XL.o (SO.call call233 I<|tK E _ _ _ I) dC ?_;rintro _ g1 _ ⟨rfl,p,bb,rfl,y⟩;refine XL.nil<|XT.thenN<|XC.block<|XC.to (g':=g1) (s':=rowA tm 5 (.slice f 0 j) []::pt b5 (.cells #[.slice f 0 j] 208 (0,0))::pt b4 (.cells #[vb false,txt []] 80 (0,0))::s) (fun w z=>z.perm<|zk3 _ _ _)<|XC.rangeFunc (α:=Nat×Int) (ι:=Value×List Int) (encs:=fun x=>[vi x.1,.int .u64 x.2]) (xs:=tT<|eK l) (g0:=g1) (fun _=>g1) (fun i=>rowA tm 5 i.1 i.2::pt b5 (.cells #[i.1] 208 (0,0))::pt b4 (.cells #[vb false,txt []] 80 (0,0))::[]) (fun c i=>i.2=c.flatMap byP) (.slice f 0 j,[]) s
  (fun x=>[(18,.int .u64 x.2),(17,vi x.1),(5,pp b5 0)]) (fun _ x _=>[(7,.int .u64 x.2),(5,pp b5 0)]) rfl rfl call271 (fun _=>rfl) rfl rfl (qJ E g1 bb _ _ y (za5 hm p) oM) (fun _ _ _=>zb9 _) rfl
  (fun x a h=>Fg (h.sub (g:=[(5,pp b5 0)]) ⟨rfl,trivial⟩) dC dC) ?_ ?_ ?_
 ·intro k c x i sx t;exact XC.region<|XL.u (aS I) dC<|XL.nil<|XT.assignEnd sB
 ·rintro k c ⟨xi,x⟩ G ⟨bv,bs⟩ sx A t;dsimp only at t ⊢;have H:c.length<(eK l).length:=by
   have:=ze4 List.length A;rw[pw,ze7,zf1] at this;omega
  have J:bs.length=4 * c.length:=by rw[t,Ah]
  refine XC.facts fun ⟨w0,b⟩=>?_;obtain ⟨q2,d2,rfl⟩:=ag (i:=0) b rfl;clear b w0;refine XC.block<|XC.region<|XL.q (qL (v:=.slice q2 bs.length d2) isAgg208 I<|cO 1 I I) dC<|XL.u (mV I) dC<|XL.u (SU.shr I I dC) dC<|XL.u (ze1 nj uT5 I) dC<|XL.u (mV I) dC<|XL.u (SU.shr I I dC) dC<|XL.u (ze1 nj uT5 I) dC<|XL.u (mV I) dC<|XL.u (SU.shr I I dC) dC<|XL.u (ze1 nj uT5 I) dC<|XL.u (mV I) dC<|XL.u (ze1 nj uT5 I) dC<|XL.o (bS sty208 I I I (ab sB) dC) dC ?_;rintro _ _ _ ⟨K,rfl,rfl,rfl⟩;refine XL.to (fun w z=>At.litRow (e:=tm) (l:=by4 x) (n:=3) z I I dC)<|XL.o (SO.appendE (m:=4) 1 (bs++by4 x).length ((bs++by4 x).flatMap tm.enc) sty208 I I I I I (zb7 0 I) (tm.length<|by4 x) (tm.ones _) (by simp[by4]) (by simp) (by simp[by4]; omega) (by simp[by4]; omega)) dC ?_;rintro v32 _ _ ⟨rfl,rfl⟩;refine XL.facts fun ⟨w0,b⟩=>?_;obtain ⟨q3,d3,rfl⟩:=ag (e:=tm) (l:=bs++by4 x) (i:=1) b rfl;clear b w0;refine XL.on (sK 2 sizeOf208 I I I I I sB) ?_;rintro _ _ _ ⟨rfl,rfl⟩;exact XL.nil<|XT.blockN<|XT.drop (zj3 _ _)<|XT.roundEnd (.slice q3 (bs++by4 x).length d3,bs++by4 x) I I (by dsimp only; rw[List.flatMap_append,t]; simp[byP])
 ·rintro D ⟨bv,bs⟩ t;dsimp only at t ⊢;refine XT.facts fun ⟨w0,b⟩=>?_;obtain ⟨q2,d2,rfl⟩:=ag (i:=1) b rfl;clear b w0;refine XT.blockN<|XT.thenN<|XC.seq<|XC.region<|XL.q (qL (v:=.slice q2 bs.length d2) isAgg208 I<|cO 2 I I) dC<|XL.q (SQ.bytesText underlying208 uT5 uT9 I<|zb7 1 I) dC<|XL.o (SO.call call234 I<|tt E g1 _<|byt bs) dC ?_;rintro _ _ _ ⟨rfl,rfl,rfl⟩;refine XL.u (aS I) dC<|XL.nil<|XT.thenN ?_;have B:np (byt bs)=nF l:=by unfold nF; rw[t]
  rw[B];generalize nF l=T at *;cases neg
  ·refine XC.seq<|XC.region<|XL.u (mV I) dC<|XL.u (mV I) dC<|XL.off (gZ I I I dC) dC<|XL.off (gZ I I I dC) dC<|XL.u (wF I I) dC<|XL.u (mV I) dC<|XL.u (za3 I<|build80 _ _) dC<|XL.on (sK 3 vM I I I I I sB) ?_;rintro _ _ _ ⟨rfl,rfl⟩;exact XL.nil<|XT.thenN<|XC.ret<|XT.leave1 (.inl I)<|ST.retCD 2 s (.inl I) results187 I isAgg80 vM I I (.cons _<|.cons _<|.cons _<|.refl _) ⟨I,I,p⟩
  ·refine XC.seq<|XC.region<|XL.u (mV I) dC<|XL.u (mV I) dC<|XL.gu (gT I I I dC) (mV I) dC<|XL.gu (gT I I I dC) (SU.neqT I I) dC<|XL.u (wT I I) dC<|XL.u (mV I) dC<|XL.u (za3 I<|build80 _ _) dC<|XL.on (sK 3 vM I I I I I sB) ?_;rintro _ _ _ ⟨rfl,rfl⟩;exact XL.nil<|XT.thenN<|XC.ret<|XT.leave1 (.inl I)<|ST.retCD 2 s (.inl I) results187 I isAgg80 vM I I (.cons _<|.cons _<|.cons _<|.refl _) ⟨I,I,p⟩
open Go Go.Sy Go.Pl Go.Proofs
theorem SU.negK {P:Program}{N:Nat}{f:Fr}{dst:Option Tmp}{ty:TypeId}{pos:String}{af:Array Edge}{gd:Option (Nat×Bool)}{x:Operand}{T:TypeId}{k:IntKind}{n:Int}(b:ev f x=some (.int k n)):SU P N ⟨dst,.unOp .neg T x,ty,pos,af,gd⟩ f (.int k<|k.wrap<|0 - n):=fun a w c=>by
 simp only[execOp,c.ev b]; rfl
theorem EA (n:Int):IntKind.u64.wrap n=n % 18446744073709551616:=by simp[IntKind.wrap,IntKind.bits,IntKind.signed]
theorem Gb (m:Nat)(h:m<18446744073709551616):IntKind.u64.wrap (BitVec.ofInt IntKind.u64.bits (m:Int) &&& BitVec.ofInt IntKind.u64.bits 4294967295).toNat=((m % 4294967296:Nat):Int):=by
 have a:(BitVec.ofInt IntKind.u64.bits (m:Int) &&& BitVec.ofInt IntKind.u64.bits 4294967295).toNat=m % 4294967296:=by
  have hb:IntKind.u64.bits=64:=rfl;rw[hb,BitVec.toNat_and];have e1:(BitVec.ofInt 64 (m:Int)).toNat=m:=by
   rw[BitVec.toNat_ofInt];omega
  have e2:(BitVec.ofInt 64 4294967295).toNat=2 ^ 32 - 1:=by decide
  rw[e1,e2,Nat.and_two_pow_sub_one_eq_mod]
 rw[a];exact IntWalk.u64_in _ oM
theorem GC (m:Nat):((m:Nat):Int).fdiv (2 ^ min (32:Int).toNat IntKind.u64.bits)=((m / 4294967296:Nat):Int):=by
 have a:((2:Int) ^ min (32:Int).toNat IntKind.u64.bits)=4294967296:=by decide
 rw[a,Int.fdiv_eq_ediv_of_nonneg _ dC];omega
theorem Tryz.buildE80 (w:World):(Instr.build 80 #[]).run Tryz.prog w = .ok (.agg #[vb false,txt []]) w:=by
 simp[Instr.build,Instr.fill];rfl
def Ay (n:Int):List Int:=[((n.natAbs % 4294967296:Nat):Int),((n.natAbs / 4294967296:Nat):Int)]
theorem DQ (E:World)(g:PH)(s:Own)(n:Int)(e : -9223372036854775808≤n)(f:n<9223372036854775808) :
  Ctr Tryz.prog E 129 #[vi n] g s (fun r g' s'=>r=CQ (decide (n<0)) (nF<|Ay n)∧s=s'∧Le g g'):=by
 refine zb2 (args:=[vi n]) func129 I ntmps129 (bE I)<|rZ (bW (aL zeroValue80) fun b2=>?_);refine tZ<|sW I<|lU (ze1 uT3 nj I)<|aT I<|SC.cut (ι:=Unit) (fun _=>[(0,vi n),(2,pp b2 0),(3,.int .u64 (n.natAbs:Int))]) (fun _=>g) (fun _=>pt b2 (.cells #[vb false,txt []] 80 (0,0))::s) (fun _=>True) ?_ ?_
 ·refine sW I<|yL I<|tZ<|iP I (fun hn=>?_) (fun hn=>?_)
  ·have c:IntKind.u64.wrap (0 - IntKind.u64.wrap n)=(n.natAbs:Int):=by
    rw[EA,EA]; omega
   exact rG<|lM I<|lU (SU.negK I)<|lA I<|SL.nil<|za9 () ⟨I,I,by rw[← c]; rfl,trivial⟩ rfl rfl trivial
  ·have c:IntKind.u64.wrap n=(n.natAbs:Int):=by
    rw[EA]; omega
   exact kP<|za9 () ⟨I,I,by rw[← c]; rfl,trivial⟩ rfl rfl trivial
 rintro _ -;try dsimp only
 refine sW I<|lU (SU.eq (v':=.int .u64 ((n.natAbs % 4294967296:Nat):Int)) (SU.and I I)<|ze4 _<|Gb _ oM)<|lM I<|lU (SU.eq (v':=.int .u64 ((n.natAbs / 4294967296:Nat):Int)) (SU.shr I I dC)<|ze4 _<|GC _)<|lW (bS sty222 I I I (ab sB) dC) ?_;rintro _ _ _ ⟨d,rfl,rfl,rfl⟩;refine zb5 fun g1 a hb=>?_;refine lM I<|yL I<|lW (SO.call call187 I<|vB E g1 _ _ (Ay n) _ (SlA.lit hb I I)<|by simp[Ay]) ?_;rintro _ g2 _ ⟨rfl,rfl,b⟩;refine oZ (sK 0 vM I I I I I sB) ?_;refine tZ<|rE ?_;exact ST.retCD 0 s (.inl I) results129 I isAgg80 vM I I uR ⟨I,I,a.trans b⟩
def hiB (x:Int):Int:=IntKind.u8.wrap (IntKind.i64.wrap<|x.tdiv 256)
def loB (x:Int):Int:=IntKind.u8.wrap (x.tmod 256)
def eS:List Int→List Int
 | []=>[]
 | x::D=>eS D++((if decide (D≠[])||decide (x≥256) then [hiB x] else [])++[loB x])
theorem uN:∀ D:List Int,(eS D).length≤2 * D.length
 | []=>by simp[eS]
 | x::D=>by
  have:=uN D;simp only[eS,ze7,zf1,zc5];split <;> simp <;> omega
theorem vv (E:World)(g:PH)(s:Own)(v:Value)(neg:Bool)(l:List Int)(A:SlA encInt g v l)(hl:l.length<1099511627776) :
  Ctr Tryz.prog E 97 #[vb neg,v] g s (fun r g' s'=>r = .agg #[vb<|neg&&decide (eK l≠[]),txt<|byt<|eS<|eK l]∧s=s'∧Le g g'):=by
 have C:=xG l;refine zb2 (args:=[vb neg,v]) func97 I ntmps97 (bE I)<|rZ (bW (aL zeroValue80) fun b4=>?_);refine tZ<|sW I<|lW (SO.call call164 I<|vw E g _ v l A hl) ?_;rintro v8 _ _ ⟨rfl,rfl,hm⟩;obtain ⟨q,d,rfl⟩:=za4 hm;refine aT I<|sQ<|sW I<|lU (eN az I)<|yE I<|tZ ?_;generalize eK l=t at *;refine iP I (fun hz=>?_) (fun hz=>?_)
 ·have m:t=[]:=zf6 oM;subst m;exact rZ<|lU (za3 I<|buildE80)<|oZ (sK 0 vM I I I I I sB)<|tZ<|rE<|tR<|ST.retCD 0 s (.inl I) results97 I isAgg80 vM I I uR ⟨by cases neg <;> rfl,I,zb9 g⟩
 ·refine kP<|tN<|rZ<|aT I<|sQ<|sW I<|lU (eN az I)<|lU (sU I I oM)<|aT I<|bK<|zb6 5 1<|oP (ι:=Nat×Value) (fun i=>[(0,vb neg),(1,.slice q t.length d),(4,pp b4 0),(5,i.2),(6,vi<|(i.1:Int) - 1)]) (fun _=>g) (fun i=>rowA tm 5 i.2 (eS<|t.drop i.1)::pt b4 (.cells #[vb false,txt []] 80 (0,0))::s) (fun i=>i.1≤t.length) (fun i=>i.1) (t.length,.slice none 0 0)
   sB rfl (by dsimp only; rw[List.drop_length]; rfl) (Nat.le_refl _) ?_
  rintro ⟨n,bv⟩ hn;dsimp only at hn ⊢;refine sQ<|sW I<|lU (gQ I I)<|tZ<|iP I (fun o=>?_) (fun o=>?_)
  ·have f:n - 1<t.length:=oM;have a:=za6 hm oM;have b:t[((n:Int) - 1).toNat]?=some t[n - 1]:=by rw[show ((n:Int) - 1).toNat=n - 1 by omega]; exact List.getElem?_eq_getElem f
   have p:t.drop (n - 1)=t[n - 1]::t.drop n:=by
    have:=zg8 f;rwa [show n - 1+1=n by omega] at this
   have u:decide (t.drop n≠[])=decide ((n:Int) - 1<(t.length:Int) - 1):=by
    rw[decide_eq_decide];constructor
    ·intro h;have:=List.length_pos_iff.2 h;rw[zf2] at this;omega
    ·intro h e;have:=ze4 List.length e;rw[zf2,zc5] at this;omega
   have w:=uN<|t.drop n;rw[zf2] at w;generalize t[n - 1]=x at *;have j:eS (t.drop<|n - 1)=eS (t.drop n)++((if decide ((n:Int) - 1<(t.length:Int) - 1)||decide (x≥256) then [hiB x] else [])++[loB x]):=by rw[p,eS,u]
   generalize eS (t.drop n)=B at *;have f1:(n:Int) - 1<(t.length:Int) - 1→(decide ((n:Int) - 1<(t.length:Int) - 1)||decide (x≥256))=true:=fun h=>by rw[zg1 h,Bool.true_or]
   have f2:¬ (n:Int) - 1<(t.length:Int) - 1→(decide ((n:Int) - 1<(t.length:Int) - 1)||decide (x≥256))=decide (x≥256):=fun h=>by rw[zf9 h,Bool.false_or]
   refine kP<|tN<|sQ<|bK<|SC.cut (ι:=Value) (fun i=>[(0,vb neg),(1,.slice q t.length d),(4,pp b4 0),(5,i),(6,vi<|(n:Int) - 1)]) (fun _=>g) (fun i=>rowA tm 5 i (B++(if decide ((n:Int) - 1<(t.length:Int) - 1)||decide (x≥256) then [hiB x] else []))::pt b4 (.cells #[vb false,txt []] 80 (0,0))::s) (fun _=>True) ?_ ?_
   ·refine SC.cutB 31 ((decide ((n:Int) - 1<(t.length:Int) - 1)||decide (x≥256))) ?_ ?_
    ·refine rG<|lM I<|lM I<|lU (eN az I)<|lU (sU I I oM)<|yL I<|lM I<|sP ?_ ?_
     ·intro c;exact yA I<|yA I<|yA I<|yA I<|yA I<|yP I<|SL.nil<|zb1 (by (rw[f1 c]; rfl)) mI
     ·intro c;exact yC I<|yC I<|lY I I I (iA az zT3 I I a oM sL)<|SL.gq (gT I I I dC) (eB iT3 I (za7 hm) b I) dC<|lY I I I (gQ I I)<|yF I<|SL.nil<|zb1 (by (rw[f2 c]; rfl)) mI
    refine iQ I (fun y=>?_) (fun y=>?_)
    ·refine rG<|lM I<|lM I<|lM I<|lU (iA az zT3 I I a oM sL)<|SL.K (eB iT3 I (za7 hm) b I)<|lU (SU.quo I I dC)<|lU (SU.eq (v':=.int .u8<|hiB x) (ze1 uT3 uT5 I) I)<|lW (bS sty208 I I I (ab sB) dC) ?_;rintro _ _ _ ⟨D,rfl,rfl,rfl⟩;refine lW (aP (e:=tm) 0 (hiB x) sty208 I I I I I oM oM) ?_;rintro bv' _ _ ⟨rfl,rfl⟩;exact lA I<|SL.nil<|za9 bv' sB I (by rw[zg3 y]; rfl) trivial
    ·exact kP<|za9 bv sB I (by rw[zg2 (by rw[y]; simp),zc7]) trivial
   rintro bv2 -;try dsimp only
   have F:(B++(if decide ((n:Int) - 1<(t.length:Int) - 1)||decide (x≥256) then [hiB x] else [])).length≤B.length+1:=by
    rw[ze7]; split <;> simp
   rw[← zh1] at j;generalize (B++(if decide ((n:Int) - 1<(t.length:Int) - 1)||decide (x≥256) then [hiB x] else []))=B2 at *;refine rG<|lM I<|lM I<|lM I<|lU (iA az zT3 I I a oM sL)<|SL.K (eB iT3 I (za7 hm) b I)<|lU (zd9 I I dC)<|lU (SU.eq (v':=.int .u8<|loB x) (ze1 uT3 uT5 I) I)<|lW (bS sty208 I I I (ab sB) dC) ?_;rintro _ _ _ ⟨G,rfl,rfl,rfl⟩;refine lW (aP (e:=tm) 0 (loB x) sty208 I I I I I oM oM) ?_;rintro bv3 _ _ ⟨rfl,rfl⟩;exact lA I<|SL.nil<|bN<|tN<|rG<|lM I<|lU (sU I I oM)<|lA I<|SL.nil<|ST.again (n - 1,bv3) ⟨I,I,I,I,FJ I oM,trivial⟩ I (by dsimp only; rw[j]; rfl) (by dsimp only; omega) (by dsimp only; omega)
  ·have z:n=0:=oM;subst z;refine SC.facts fun ⟨w0,k⟩=>?_;obtain ⟨q2,d2,rfl⟩:=ag (i:=0) k rfl;clear k w0;rw[List.drop_zero] at *;exact xI<|tX<|tX<|bX<|tN<|sW I<|lM I<|SL.K (SQ.bytesText underlying208 uT5 uT9 I<|zb7 0 I)<|lU (za3 I<|build80 _ _)<|oZ (sK 1 vM I I I I I sB)<|tZ<|rE<|ST.retCD 1 s (.inl I) results97 I isAgg80 vM I I uR ⟨by rw[show decide (t≠[])=true from zg1 (fun e:t=[]=>hz (by rw[e]; rfl)),Bool.and_true]; rfl,rfl,zb9 g⟩
def mM (m:Nat):List Int:=if h:m=0 then [] else ((m % 65536:Nat):Int)::mM (m / 65536)
termination_by m
decreasing_by omega
theorem fh:mM 0=[]:=by unfold mM; rfl
theorem gy {m:Nat}(h:m≠0):mM m=((m % 65536:Nat):Int)::mM (m / 65536):=by rw[mM,dif_neg h]
theorem pP:∀ (k m:Nat),m<65536 ^ k→(mM m).length≤k
 | 0,m,h=>by
  have:m=0:=by simpa using h
  subst this; rw[fh]; simp
 | k+1,m,h=>by
  by_cases a:m=0
  ·subst a; rw[fh]; simp
  ·rw[gy a,zf1];have:=pP k (m / 65536) (by rw[Nat.div_lt_iff_lt_mul dC]; rwa [Nat.pow_succ] at h);omega
theorem Cz (m:Nat):eK (mM m)=mM m:=by
 have key:∀ m,mM m=[]∨∃ a x,mM m=a++[x]∧x≠0:=by
  intro m;induction m using Nat.strongRecOn with
  | _ m ih =>
   by_cases c:m=0
   ·left; subst c; exact fh
   ·right;rw[gy c]
    rcases ih (m / 65536) oM with h | ⟨a,x,h,b⟩
    ·refine⟨[],_,by rw[h]; rfl,?_⟩;by_cases d:m / 65536=0
     ·omega
     ·rw[gy d] at h; cases h
    ·exact⟨_::a,x,by rw[h]; rfl,b⟩
 rcases key m with h | ⟨a,x,h,b⟩
 ·rw[h]; rfl
 ·rw[h]; simp[eK,b]
theorem wM (E:World)(g:PH)(s:Own)(n:Int)(q : -9223372036854775808≤n)(t:n<9223372036854775808) :
  Ctr Tryz.prog E 31 #[vi n] g s (fun r g' s'=>r = .agg #[vb<|decide (n<0)&&decide (mM n.natAbs≠[]),txt<|byt<|eS<|mM n.natAbs]∧s=s'∧Le g g'):=by
 have l:=pP 4 n.natAbs oM;refine zb2 (args:=[vi n]) func31 I ntmps31 (bE I)<|rZ (bW (aL zeroValue80) fun b2=>?_);refine tZ<|rZ<|aT I<|sW I<|lU (ze1 uT3 nj I)<|aT I<|SC.cut (ι:=Unit) (fun _=>[(0,vi n),(2,pp b2 0),(3,.slice none 0 0),(4,.int .u64 (n.natAbs:Int))]) (fun _=>g) (fun _=>pt b2 (.cells #[vb false,txt []] 80 (0,0))::s) (fun _=>True) ?_ ?_
 ·refine sW I<|yL I<|tZ<|iP I (fun hn=>?_) (fun hn=>?_)
  ·have h:IntKind.u64.wrap (0 - IntKind.u64.wrap n)=(n.natAbs:Int):=by
    rw[EA,EA]; omega
   exact rG<|lM I<|lU (SU.negK I)<|lA I<|SL.nil<|za9 () ⟨I,I,I,by rw[← h]; rfl,trivial⟩ rfl rfl trivial
  ·have h:IntKind.u64.wrap n=(n.natAbs:Int):=by
    rw[EA]; omega
   exact kP<|za9 () ⟨I,I,I,by rw[← h]; rfl,trivial⟩ rfl rfl trivial
 rintro _ -;try dsimp only
 refine sQ<|bK<|zb6 3 1<|oP (ι:=Nat×Value×List Int) (fun i=>[(0,vi n),(2,pp b2 0),(3,i.2.1),(4,.int .u64 (i.1:Int))]) (fun _=>g) (fun i=>rowA encInt 3 i.2.1 i.2.2::pt b2 (.cells #[vb false,txt []] 80 (0,0))::s) (fun i=>i.2.2++mM i.1=mM n.natAbs∧i.1≤n.natAbs) (fun i=>i.1) (n.natAbs,.slice none 0 0,[])
  sB rfl rfl ⟨rfl,Nat.le_refl _⟩ ?_
 rintro ⟨m,bv,D⟩ ⟨b,hm⟩;dsimp only at b hm ⊢;have o:D.length≤4:=by have:=ze4 List.length b; rw[ze7] at this; omega
 refine sQ<|sW I<|lU (gR I I)<|tZ<|iP I (fun c=>?_) (fun c=>?_)
 ·have a:m≠0:=oM;have j:=gy a;refine kP<|tN<|bK<|sW I<|lM I<|lU (zd9 I I dC)<|lU (SU.eq (v':=vi ((m % 65536:Nat):Int)) (ze1 nj uT3 I)<|ze4 vi (by rw[show ((m:Int)).tmod 65536=((m % 65536:Nat):Int) by rw[Int.tmod_eq_emod_of_nonneg oM]; omega]; exact zl2 _ oM)) ?_;refine lW (bS sty52 I I I (ab sB) dC) ?_;rintro _ _ _ ⟨p,rfl,rfl,rfl⟩;refine lW (aP (e:=encInt) 0 ((m % 65536:Nat):Int) sty52 I I I I I oM oM) ?_;rintro bv' _ _ ⟨rfl,rfl⟩;refine aT I<|rG<|lM I<|lU (SU.eq (v':=.int .u64 ((m / 65536:Nat):Int)) (SU.quo I I dC)<|ze4 _ (by rw[show ((m:Int)).tdiv 65536=((m / 65536:Nat):Int) by rw[Int.tdiv_eq_ediv_of_nonneg oM]; omega]; exact IntWalk.u64_in _ oM)) ?_;refine lA I<|SL.nil<|bN ?_;exact ST.again (m / 65536,bv',D++[((m % 65536:Nat):Int)]) sB I I ⟨by dsimp only; rw[← b,j]; simp,by dsimp only; omega⟩ (by dsimp only; omega)
 ·have a:m=0:=oM;subst a;rw[fh,zc7] at b;subst b;refine xI (tX<|tX<|bX<|tN<|sQ<|fS fun g1 d k=>?_);refine rG<|lM I<|yL I<|lM I<|lW (SO.call call97 I<|vv E g1 _ bv _ (mM n.natAbs) k oM) ?_;rintro _ g2 _ ⟨rfl,rfl,f⟩;exact oZ (sK 0 vM I I I I I sB)<|tZ<|rE<|ST.retCD 0 s (.inl I) results31 I isAgg80 vM I I uR ⟨by rw[Cz]; rfl,rfl,d.trans f⟩
theorem jm {a b:Nat}(h:a % 256=b % 256):UInt8.ofNat a=UInt8.ofNat b:=by
 apply UInt8.toNat.inj;simpa using h
theorem u8w (k:Nat):IntKind.u8.wrap (k:Int)=((k % 256:Nat):Int):=by simp[IntKind.wrap,IntKind.bits,IntKind.signed]
theorem sG (k:Nat):UInt8.ofNat (IntKind.u8.wrap (k:Int)).toNat=UInt8.ofNat k:=by
 rw[u8w,Int.toNat_natCast]; exact jm oM
theorem sZ (k e:Nat):(k:Int).fdiv ((e:Nat):Int)=((k / e:Nat):Int):=by
 rw[Int.fdiv_eq_ediv_of_nonneg _ oM]; simp
theorem Bp (k:Nat):byt (by4 (k:Int))=[UInt8.ofNat<|k / 16777216,UInt8.ofNat<|k / 65536,UInt8.ofNat<|k / 256,UInt8.ofNat k]:=by
 have a:((2:Int) ^ min (24:Int).toNat IntKind.u64.bits)=((16777216:Nat):Int):=by decide
 have b:((2:Int) ^ min (16:Int).toNat IntKind.u64.bits)=((65536:Nat):Int):=by decide
 have c:((2:Int) ^ min (8:Int).toNat IntKind.u64.bits)=((256:Nat):Int):=by decide
 unfold by4;rw[a,b,c,sZ,sZ,sZ];simp only[byt,zg6,List.map_nil,sG]
def beK:Nat→Nat→List UInt8
 | 0,_=>[]
 | k+1,m=>beK k (m / 65536)++[UInt8.ofNat<|m / 256,UInt8.ofNat m]
def AC (m:Nat):List UInt8:=np (beK 4 m)
theorem s6:∀ k,np (beK k 0)=[]
 | 0=>rfl
 | k+1=>by
  have ih:=s6 k;unfold np at *;rw[beK,List.dropWhile_append,ih];rfl
theorem ya {a:Nat}(b:a≠0)(h:a<256):UInt8.ofNat a≠0:=fun e=>by
 have:=ze4 UInt8.toNat e;simp at this;omega
theorem m6:∀ (k m:Nat),m<65536 ^ k→byt (eS<|mM m)=np (beK k m)
 | 0,m,h=>by
  have:m=0:=by simpa using h
  subst this; rw[fh]; rfl
 | k+1,m,h=>by
  by_cases e:m=0
  ·subst e; rw[fh,s6]; rfl
  ·have ih:=m6 k (m / 65536) (by rw[Nat.div_lt_iff_lt_mul dC]; rwa [Nat.pow_succ] at h);rw[gy e,beK];have c:UInt8.ofNat (loB ((m % 65536:Nat):Int)).toNat=UInt8.ofNat m:=by
    unfold loB;rw[show (((m % 65536:Nat):Int)).tmod 256=((m % 65536 % 256:Nat):Int) by rw[Int.tmod_eq_emod_of_nonneg oM]; omega,sG];exact jm oM
   have d:UInt8.ofNat (hiB ((m % 65536:Nat):Int)).toNat=UInt8.ofNat (m % 65536 / 256):=by
    unfold hiB;rw[show (((m % 65536:Nat):Int)).tdiv 256=((m % 65536 / 256:Nat):Int) by rw[Int.tdiv_eq_ediv_of_nonneg oM]; omega,zl2 _ oM,sG]
   by_cases f:m / 65536=0
   ·rw[f,fh];have hz:=s6 k;unfold np at *;rw[List.dropWhile_append,hz];have hm:m % 65536=m:=oM;rw[hm] at c d ⊢;simp only[eS,List.nil_append,ne_eq,not_true_eq_false,decide_false,Bool.false_or,List.isEmpty_nil,if_true];by_cases i:(m:Int)≥256
    ·have b:(UInt8.ofNat (m / 256) == 0)=false:=by simpa using ya (a:=m / 256) oM oM
     rw[zg1 i,zg3 rfl,List.dropWhile_cons,b];simp only[byt,zg7,zg6,List.map_nil,c,d];rfl
    ·have g:m / 256=0:=oM;have b:(UInt8.ofNat m == 0)=false:=by simpa using ya (a:=m) e oM
     rw[zf9 i,zg2 (by simp),g,List.dropWhile_cons,show (UInt8.ofNat 0 == 0)=true from rfl,zg3 rfl,List.dropWhile_cons,b];simp only[byt,List.nil_append,zg6,List.map_nil,c];rfl
   ·have j:mM (m / 65536)≠[]:=by rw[gy f]; simp
    have b:byt (eS<|mM<|m / 65536)≠[]:=by
     rw[gy f];simp[byt,eS]
    have g:UInt8.ofNat (m % 65536 / 256)=UInt8.ofNat (m / 256):=jm oM;rw[ih] at b;unfold np at *;rw[List.dropWhile_append];have l:(List.dropWhile (fun x=>x == 0)<|beK k<|m / 65536).isEmpty=false:=by simpa using b
    rw[l];simp only[eS,Bool.false_eq_true,if_false];rw[zg1 j,Bool.true_or,zg3 rfl];rw[← ih];simp only[byt,zg7,zg6,List.map_nil,c,d,g];rfl
theorem FZ {a:Int}(h:a≠0):eK [a,0]=[a]:=by simp[eK,h]
theorem FY {a b:Int}(h:b≠0):eK [a,b]=[a,b]:=by simp[eK,h]
theorem wu (n:Int)(h:n.natAbs<18446744073709551616):nF (Ay n)=AC n.natAbs:=by
 obtain ⟨m,hm⟩:∃ m,m=n.natAbs:=⟨_,rfl⟩;unfold Ay;rw[← hm] at h ⊢;have a:=Bp<|m % 4294967296;have b:=Bp<|m / 4294967296;have c:beK 4 m=[UInt8.ofNat<|m / 4294967296 / 16777216,UInt8.ofNat<|m / 4294967296 / 65536,UInt8.ofNat<|m / 4294967296 / 256,UInt8.ofNat<|m / 4294967296,UInt8.ofNat<|m % 4294967296 / 16777216,UInt8.ofNat<|m % 4294967296 / 65536,UInt8.ofNat<|m % 4294967296 / 256,UInt8.ofNat<|m % 4294967296]:=by
  simp only[beK,List.nil_append,List.cons_append];refine congr (ze4 List.cons ?_)<|congr (ze4 List.cons ?_)<|congr (ze4 List.cons ?_)<|congr (ze4 List.cons ?_)<|congr (ze4 List.cons ?_)<|congr (ze4 List.cons ?_)<|congr (ze4 List.cons ?_)<|congr (ze4 List.cons ?_) I
  all_goals exact jm oM
 unfold AC nF;rw[c];by_cases d:m / 4294967296=0
 ·by_cases f:m % 4294967296=0
  ·rw[d,f]; rfl
  ·have e:eK [((m % 4294967296:Nat):Int),((m / 4294967296:Nat):Int)]=[((m % 4294967296:Nat):Int)]:=by
    rw[d];exact FZ oM
   rw[e];show np (byt<|by4 _++[])=_;rw[zc7,a,d];rfl
 ·have e:eK [((m % 4294967296:Nat):Int),((m / 4294967296:Nat):Int)]=[((m % 4294967296:Nat):Int),((m / 4294967296:Nat):Int)]:=by
   exact FY oM
  rw[e];show np (byt<|by4 _++(by4 _++[]))=_;rw[zc7];have:byt (by4 ((m / 4294967296:Nat):Int)++by4 ((m % 4294967296:Nat):Int))=byt (by4 ((m / 4294967296:Nat):Int))++byt (by4 ((m % 4294967296:Nat):Int)):=by simp[byt]
  rw[this,b,a];rfl
def EI (n:Int):Value:=CQ (decide (n<0)) (AC n.natAbs)
theorem Cp (E:World)(g:PH)(s:Own)(n:Int)(a : -9223372036854775808≤n)(b:n<9223372036854775808) :
  Ctr Tryz.prog E 129 #[vi n] g s (fun r g' s'=>r=EI n∧s=s'∧Le g g') :=
 (DQ E g s n a b).mono fun _ _ _ ⟨c,d⟩=>⟨by rw[c,wu _ oM]; rfl,d⟩
theorem DW (m:Nat):decide (mM m≠[])=decide (m≠0):=by
 rw[decide_eq_decide];by_cases h:m=0
 ·subst h; rw[fh]; simp
 ·rw[gy h]; simp[h]
theorem DG {m:Nat}(h:m<18446744073709551616):decide (AC m≠[])=decide (m≠0):=by
 rw[show AC m=byt (eS<|mM m) from (m6 4 m oM).symm,decide_eq_decide];by_cases a:m=0
 ·subst a; rw[fh]; simp[eS,byt]
 ·rw[gy a]; simp[a,eS,byt]
theorem vy (E:World)(g:PH)(s:Own)(n:Int)(a : -9223372036854775808≤n)(b:n<9223372036854775808) :
  Ctr Tryz.prog E 31 #[vi n] g s (fun r g' s'=>r=EI n∧s=s'∧Le g g') :=
 (wM E g s n a b).mono fun _ _ _ ⟨c,d⟩=>⟨by
  rw[c,m6 4 _ oM,DW];unfold EI CQ;rw[DG oM];rfl,d⟩
def fq (l:List Cl):List Int:=l.flatMap fun c=>c.sides.map ak.cell
theorem wE (A:List Cl)(k:Int):(fq A).contains k=kV A k:=by
 rw[Bool.eq_iff_iff];simp[fq,kV,nY]
theorem vq {A:List Cl}{k:Nat}(h:k<A.length):fq (A.take<|k+1)=fq (A.take k)++A[k].sides.map ak.cell:=by
 unfold fq;rw[tS h,List.flatMap_append];simp only[zh7,List.flatMap_nil,zc7]
theorem DS {A:List Cl}{id:Int}(h:ah A id=none)(m:List Int):gN A (m++[id])=gN A m:=by
 unfold gN;refine zc9 fun c a=>?_;have:=List.find?_eq_none.1 h c a;simp only[zj7] at this;simp[this]
theorem B9 {ss:List ak}{j:Nat}(h:j<ss.length)(m:List Int):m++(ss.take<|j+1).map ak.cell=(m++(ss.take j).map ak.cell)++[ss[j].cell]:=by
 rw[tS h,zg7,zh1]; rfl
theorem vx (E:World)(g:PH)(s:Own)(v:Value)(l:List Cl)(hv:ai g v l)(hf:aJ l) :
  Ctr Tryz.prog E 49 #[.agg #[v]] g s (fun r g' s'=>s=s'∧Le g g'∧dp g' r (wv l)):=by
 have L:=bT hf;have M:=L.1;have p:=fF l;have a0:=iW l;refine zb2 (args:=[.agg #[v]]) func49 I ntmps49 (bE I)<|rZ (bW (bO I) fun b1=>?_);refine aT I<|rZ<|aT I<|rZ<|SL.K (qV 0 aj ae I I I)<|lW (SO.call call96 I<|dw E g _ _ l hv hf) ?_;rintro v11 g1 _ ⟨rfl,a1,hc⟩;obtain ⟨rs,h,n⟩:=hc;have N:ai g1 _ (am l):=⟨rs,h,n⟩;obtain ⟨q,dd,rfl⟩:=h.form;have a2:=n.length;refine aT I<|sW I<|lU (eN aB I)<|lW (mK i9 false sty161 I I I oM oM) ?_;rintro _ _ _ ⟨b,rfl,rfl,rfl⟩;refine aT I<|sQ<|rZ<|aT I<|bK ?_;unfold wv;generalize am l=A at *;refine SC.to (g':=g1) (s':=rowA i9 4 (.slice (some ⟨b,0,none⟩) rs.length rs.length) (gN A<|fq<|A.take 0)::pt b1 (.cells #[v] 29 (0,0))::s) (fun w O=>by rw[show fq (A.take 0)=[] from I,Cv,a2]; exact O) ?_;refine oP (ι:=Nat) (fun i=>[(3,.slice none 0 0),(4,.slice q rs.length dd),(5,.slice (some ⟨b,0,none⟩) rs.length rs.length),(6,vi i)]) (fun _=>g1)
  (fun i=>rowA i9 4 (.slice (some ⟨b,0,none⟩) rs.length rs.length) (gN A<|fq<|A.take i)::pt b1 (.cells #[v] 29 (0,0))::s)
  (fun i=>i≤A.length) (fun i=>A.length - i) 0 sB rfl rfl (zf8 _) ?_
 intro k hk;refine sQ<|sW I<|lM I<|lU (eN aB I)<|yL I<|tZ<|iP I (fun a3=>?_) (fun a3=>?_)
 ·have D:k<A.length:=oM;have P:k<rs.length:=oM;have d:=h.based oM;have F:=n.get (List.getElem?_eq_getElem D)<|List.getElem?_eq_getElem P;have t:rs[((k:Nat):Int).toNat]?=some rs[k]:=List.getElem?_eq_getElem P;have f:=vq D;have b6:=L.2 _<|gM D;generalize A[k]=x at *;generalize rs[k]=r at *;generalize fq (A.take k)=m at *;obtain ⟨ri,rd,rp,rn,rc⟩:=r;have B:SlA encSide g1 (.slice rp rn rc) x.sides:=F.2.2;have a4:rn=x.sides.length:=by obtain ⟨q,cc,hq⟩:=za4 B; simp at hq; exact hq.2.1
  subst a4;refine kP<|tN<|sQ<|bK<|rZ<|aT I<|bK<|oP (ι:=Nat) (fun j=>[(3,.slice none 0 0),(4,.slice q rs.length dd),(5,.slice (some ⟨b,0,none⟩) rs.length rs.length),(6,vi k),(7,vi j)]) (fun _=>g1)
   (fun j=>rowA i9 4 (.slice (some ⟨b,0,none⟩) rs.length rs.length) (gN A<|m++(x.sides.take j).map ak.cell)::pt b1 (.cells #[v] 29 (0,0))::s)
   (fun j=>j≤x.sides.length) (fun j=>x.sides.length - j) 0 sB rfl (by simp) (zf8 _) ?_
  intro j hj;refine sQ<|sW I<|lM I<|lM I<|lU (iA aB aw I I d oM sL)<|lU (fC ao I aM I d)<|SL.K (aZ (e:=encCell) (o:=2) (u:=.slice rp x.sides.length rc) br I h.rd t I)<|lU (eN be I)<|yL I<|tZ<|iP I (fun Q=>?_) (fun Q=>?_)
  ·have R:j<x.sides.length:=oM;have C:=za6 B oM;have S:x.sides[((j:Nat):Int).toNat]?=some x.sides[j]:=List.getElem?_eq_getElem R;have T:=B9 R m;generalize m++(x.sides.take j).map ak.cell=m2 at *;generalize x.sides[j]=z at *;have U:(gN A m2).length=A.length:=by simp[gN]
   rcases sb p z.cell with ⟨G,H⟩ | ⟨c,kk,G,H,V⟩
   ·refine kP<|tN<|sQ<|bK<|sW I<|lM I<|lM I<|lU (iA aB aw I I d oM sL)<|lU (fC ao I aM I d)<|SL.K (aZ (e:=encCell) (o:=2) (u:=.slice rp x.sides.length rc) br I h.rd t I)<|lM I<|lU (iA be aY I I C oM sL)<|lU (fC c4 I zT3 I C)<|SL.K (aZ (o:=0) (u:=vi z.cell) iT3 I B.rd S I)<|lW (SO.call call101 I<|il E g1 _ _ A z.cell N M p) ?_;rintro _ _ _ ⟨rfl,rfl,rfl⟩;rw[H];exact aT I<|sW I<|lU (SU.eq (v':=vb false) (gQ I I)<|ze4 vb<|zf9 oM)<|tZ<|za1 I<|kP<|bN<|tN<|rG<|lM I<|yD I<|lA I<|SL.nil<|ST.again (j+1) sB I (by rw[T,DS G]) oM oM
   ·have b4:kk<A.length:=(zf7.1 V).1;have W:(gN A m2).set kk true=gN A (m2++[z.cell]):=by rw[Cu a0 V,(aG G).2]
    refine kP<|tN<|sQ<|bK<|sW I<|lM I<|lM I<|lU (iA aB aw I I d oM sL)<|lU (fC ao I aM I d)<|SL.K (aZ (e:=encCell) (o:=2) (u:=.slice rp x.sides.length rc) br I h.rd t I)<|lM I<|lU (iA be aY I I C oM sL)<|lU (fC c4 I zT3 I C)<|SL.K (aZ (o:=0) (u:=vi z.cell) iT3 I B.rd S I)<|lW (SO.call call101 I<|il E g1 _ _ A z.cell N M p) ?_;rintro _ _ _ ⟨rfl,rfl,rfl⟩;rw[H];refine aT I<|sW I<|lU (SU.eq (v':=vb true) (gQ I I)<|ze4 vb<|zg1 oM)<|tZ<|za2 I<|rG<|lM I<|lM I<|lU (iA underlying161 zT4 I I I oM sL)<|oZ (SO.setA (e:=i9) (a:=true) 0 zT4 I I I (by rw[U]; omega) I) ?_;exact SL.nil<|bN<|tN<|rG<|lM I<|yD I<|lA I<|SL.nil<|ST.again (j+1) sB I (by rw[T,← W]; rfl) oM oM
  ·have a5:x.sides.take j=x.sides:=tL oM;rw[a5,← f];exact xI<|tX<|tX<|bX<|bN<|tN<|rG<|lM I<|yD I<|lA I<|SL.nil<|ST.again (k+1) sB I I oM oM
 ·have a9:A.take k=A:=tL oM;rw[a9];refine xI<|tX<|tX<|bX<|tN<|sQ<|rZ<|aT I<|bK<|cP (zk3 _ _ _)<|cP (zk3 _ _ _)<|zb6 3 1<|oP (ι:=Value×Nat) (fun i=>[(3,i.1),(4,.slice q rs.length dd),(5,.slice (some ⟨b,0,none⟩) rs.length rs.length),(9,vi i.2)]) (fun _=>g1)
   (fun i=>rowA encInt 3 i.1 (((A.take i.2).filter fun c=>!kV A c.id).map Cl.id)::rowA i9 4 (.slice (some ⟨b,0,none⟩) rs.length rs.length) (gN A<|fq A)::pt b1 (.cells #[v] 29 (0,0))::s)
   (fun i=>i.2≤A.length) (fun i=>A.length - i.2) (.slice none 0 0,0) sB rfl rfl (zf8 _) ?_
  rintro ⟨ov,i⟩ hi;dsimp only at hi ⊢;refine sQ<|sW I<|lM I<|lU (eN aB I)<|yL I<|tZ<|iP I (fun X=>?_) (fun X=>?_)
  ·have J:i<A.length:=oM;have Y:i<rs.length:=oM;have d:=h.based oM;have F:=n.get (List.getElem?_eq_getElem J)<|List.getElem?_eq_getElem Y;have t:rs[((i:Nat):Int).toNat]?=some rs[i]:=List.getElem?_eq_getElem Y;have f:=oN J (fun c=>!kV A c.id) Cl.id;have b5:=vW A i (fun c=>!kV A c.id) Cl.id;have b0:(gN A<|fq A)[((i:Nat):Int).toNat]?=some (kV A A[i].id):=by rw[← wE]; exact Cw<|List.getElem?_eq_getElem J
   generalize A[i]=x at *;generalize rs[i]=r at *;refine kP<|tN<|sQ<|bK<|sW I<|lM I<|lU (iA underlying161 zT4 I I I oM sL)<|SL.K (eB (e:=i9) isAgg4 I (zb7 1 I) b0 I)<|lU (SU.not I)<|tZ<|iQ I (fun y=>?_) (fun y=>?_)
   ·refine rG<|lM I<|lM I<|lM I<|lU (iA aB aw I I d oM sL)<|lU (fC ao I zT3 I d)<|SL.K (aZ (e:=encCell) (o:=0) (u:=vi x.id) iT3 I h.rd t (by rw[← F.1]; rfl)) ?_;refine lW (bS sty52 I I I (ab sB) dC) ?_;rintro _ _ _ ⟨b7,rfl,rfl,rfl⟩;refine lW (aP (e:=encInt) 0 x.id sty52 I I I I I oM oM) ?_;rintro ov' _ _ ⟨rfl,rfl⟩;refine lA I<|SL.nil<|bN<|tN<|rG<|lM I<|yD I<|lA I<|SL.nil ?_;refine ST.to (fun w O=>?_) (g':=g1) (s':=rowA encInt 3 ov' (((A.take<|i+1).filter fun c=>!kV A c.id).map Cl.id)::rowA i9 4 (.slice (some ⟨b,0,none⟩) rs.length rs.length) (gN A<|fq A)::pt b1 (.cells #[v] 29 (0,0))::s) ?_
    ·rw[f,zg3 (by simpa using y)]; exact O
    exact ST.again (ov',i+1) sB I I (by dsimp only; omega) lN
   ·refine kP<|bN<|tN<|rG<|lM I<|yD I<|lA I<|SL.nil ?_;refine ST.to (fun w O=>?_) (g':=g1) (s':=rowA encInt 3 ov (((A.take<|i+1).filter fun c=>!kV A c.id).map Cl.id)::rowA i9 4 (.slice (some ⟨b,0,none⟩) rs.length rs.length) (gN A<|fq A)::pt b1 (.cells #[v] 29 (0,0))::s) ?_
    ·rw[f,zg2 (by simpa using y),zc7]; exact O
    exact ST.again (ov,i+1) sB I I (by dsimp only; omega) lN
  ·have b2:A.take i=A:=tL oM;rw[b2];refine xI (tX<|tX<|bX<|tN<|sW I<|aT I<|rE<|fT fun g2 Z b3=>?_);exact dR (s':=s) uR<|za8 (.inl I) results49 I ⟨I,a1.trans Z,b3⟩
open Go.ChangeShapes Go.WideShapes Go.ChangeAt Go.RowKit
set_option maxRecDepth 100000
section
variable {H:Type}{enc:TypeId×Value→H}{W:World}{base:Nat}{spare:Nat→Bool}{hd:Bool}
end
theorem Bf {α β:Type}{ka:α→Int}{kb:β→Int}{f:α→β}(h:∀ a,kb (f a)=ka a)(x:α):∀ l:List α,ins kb (f x) (l.map f)=(ins ka x l).map f
 | []=>rfl
 | y::r=>by
  simp only[zg6,ins,h];split
  ·rfl
  ·rw[Bf h x r]; rfl
theorem mU {α β:Type}{ka:α→Int}{kb:β→Int}{f:α→β}(h:∀ a,kb (f a)=ka a):∀ l:List α,sortBy kb (l.map f)=(sortBy ka l).map f
 | []=>rfl
 | x::r=>by
  simp only[zg6,sortBy];rw[mU h r,Bf h]
abbrev Pr:=Int×Int
def Ring (adj:Pr→Pr→Bool)(l:List Pr):Prop:=l≠[]∧∀ x∈l,∃ y∈l,y≠x∧adj x y=true
def Cyc (adj:Pr→Pr→Bool)(m:List Pr):Prop:=∃ l,Ring adj l∧∀ x∈l,x∈m
inductive Pth (adj:Pr→Pr→Bool)(m:List Pr):Pr→Pr→Prop
 | one (x y:Pr) (hy:y∈m) (hne:y≠x) (ha:adj x y=true):Pth adj m x y
 | cons (x y z:Pr) (hy:y∈m) (hne:y≠x) (ha:adj x y=true) (h:Pth adj m y z):Pth adj m x z
def FI (T:List Pr)(low:Int):Option Int:=(T.find? fun q=>decide (q.1=low)).map Prod.snd
def adjS (S:Int→List Int)(x y:Pr):Bool:=(S x.2).contains y.1
section
variable {p:Pr}{S:Int→List Int}{T:List Pr}
end
def GO (l:List Cl)(h:Int):List Int:=((findC l h).getD aH).sides.map ak.cell
structure Vd (l:List Cl)(T:List Pr):Prop where
 once:(T.map Prod.fst++T.map Prod.snd).Nodup
 side:∀ q∈T,q.1∈GO l q.2
 free:¬ Cyc (adjS<|GO l) T
section
variable {l:List Cl}(hl:(ap l).2=0)
include hl
end
structure Gd8 (l:List Cl):Prop where
 right:Rt (aa l)
 ids:∀ c∈l,0<c.id∧c.id≤4000
def dZ:Enc Pr 2:=⟨fun p=>[vi p.1,vi p.2],fun _=>rfl,fun _ u hu=>by simp at hu; rcases hu with rfl | rfl <;> rfl,by decide⟩
theorem SU.indexAddrC {P:Program}{N:Nat}{f:Fr}{dst:Option Tmp}{ty:TypeId}{pos:String}{af:Array Edge}{gd:Option (Nat×Bool)}{x y:Operand}{T e:TypeId}{k n o:Nat}{i:Int}{v:Value}(b:P.underlying T=some (.array n e))(d:∀ w,(sizeOf e).run P w = .ok k w)
  (a:ev f x=some (nE v o)) (hb:based v=true) (g:ev f y=some (vi i)) (h:0≤i) (j:i<n) :
  SU P N ⟨dst,.indexAddr T x y,ty,pos,af,gd⟩ f (nE v<|o+i.toNat * k):=by
 cases v <;> simp[based] at hb
 rename_i p m c;cases p <;> simp at hb
 simp only[nE] at a ⊢;have:=iB (P:=P) (N:=N) (dst:=dst) (ty:=ty) (pos:=pos) (af:=af) (gd:=gd) b d a g h j;rwa [Nat.add_assoc] at this
theorem Tryz.sty40:STy Tryz.prog 40 76 2 16 (.agg #[vi 0,vi 0]):=⟨underlying40,⟨t76,by kernel_rfl,by kernel_rfl,by kernel_rfl,by kernel_rfl⟩,rfl,by decide⟩
theorem Tryz.build76 (a b:Int)(w:World):(Instr.build 76 #[(0,vi a),(1,vi b)]).run Tryz.prog w = .ok (.agg #[vi a,vi b]) w:=by
 have c:∀ n,(vi n).cells = #[vi n]:=fun _=>rfl;simp[Instr.build,Instr.fill,c];rfl
end Go.Proofs.YtbbppeihhkhkcaaGreatDoor
namespace Go.Sy
open Go Go.MapKept
section
variable {P:Program}{w:World}{t kt et:TypeId}{z:Value}{b:Nat}{es:Array MapEntry}{clk:Nat}{l:List (Int×Value)}
end
section
variable {P:Program}{N:Nat}{E:World}{f:Fr}{g:PH}{s:Own}{dst:Option Tmp}{ty:TypeId}{pos:String}{af:Array Edge}{gd:Option (Nat×Bool)}
variable {t kt et:TypeId}{z:Value}{b:Nat}{l:List (Int×Value)}{x y u:Operand}{k:Int}{v:Value}
end
end Go.Sy
