/- 10 -/
import Derived.Test.YtkbagdedfdfjhaaGreatDoorFi09
import Derived.Test.YtkbagdedfdfjhaaGreatDoorFi08
import Derived.Test.YtkbagdedfdfjhaaGreatDoorFi06
import Derived.Test.YtkbagdedfdfjhaaGreatDoorFi04
import Derived.RangeFuncLeaves
import Derived.RangeFuncRecord
import Derived.RangeFuncSeq
import Derived.OrdersIn
import Derived.TacticsIn
import Derived.Test.YtkbagdedfdfjhaaGreatDoorFi05
import Derived.Laws.BytesString
import Derived.Laws.Strings
import Derived.Test.YtkbagdedfdfjhaaGreatDoorFi02
import Derived.Shelf.Strings.Trim
set_option linter.unusedSimpArgs false
set_option linter.unusedVariables false
namespace Go.Proofs.YtkbagdedfdfjhaaGreatDoor
open _root_.Go.Proofs.Tryz _root_.Go.Proofs.YtkbagdedfdfjhaaGreatDoor.Tryz
open Go Go.Sy Go.Pl Go.Proofs
theorem i6 {l:List Cl}(h:Rt l)(ids:List Int):oh l fun k=>(cu l ids).contains k:=by
 intro c hc hp x hx;have hm:c.id∈cu l ids:=by simpa using hp
 obtain ⟨id,hid,hr⟩:=(ia l ids c.id).1 hm;obtain ⟨d,hd,_⟩:=(h.form c hc).found x hx;have ha:ju l c.id=some (c.sides.map ai.cell):=by unfold ju; rw[h.find hc]; rfl
 have:x.cell∈cu l ids:=(ia l ids x.cell).2 ⟨id,hid,hr.snoc ha (ze8.2 ⟨x,hx,rfl⟩) (by unfold ju; rw[hd]; simp)⟩;simpa using this
section
variable {l:List Cl}(h:Rt l){p q:Int→Bool}(hp:oh l p)(hq:oh l q)
include h hp hq
theorem Cc:An (part l p) (part l q)=part l fun k=>p k&&q k:=by
 unfold An
 conv=>lhs; unfold part
 rw[List.filter_filter];unfold part;refine List.filter_congr fun c hc=>?_;show (ox (part l p) (part l q) c&&p c.id)=(p c.id&&q c.id);cases hpc:p c.id with
 | false=>simp
 | true =>
  simp only[Bool.and_true,Bool.true_and];have hcp:c∈part l p:=zh1.2 ⟨hc,hpc⟩;have hrp:=mC h hp;rw[Bool.eq_iff_iff];show ox (part l p) (part l q) c=true↔_;unfold ox;rw[zj6];constructor
  ·intro hall;have hm:c.id∈cu (part l p) [c.id]:=(ia _ _ _).2 ⟨c.id,by simp,.refl _ (by unfold ju; rw[hrp.find hcp]; simp)⟩;have:=hall _ hm;cases hqc:q c.id with
   | true=>rfl
   | false =>
    unfold sO at this;rw[Cb hqc] at this;cases this
  ·intro hqc id hid;obtain ⟨_,hm,hr⟩:=(ia _ _ _).1 hid;simp at hm;subst hm;have key:∀ a b,Rch (ju (part l p)) a b→q a=true→q b=true:=by
    intro a b hr;induction hr with
    | refl _ _=>exact fun h=>h
    | step a b _ m hm hb _ ih =>
     intro hqa;obtain ⟨d,hd,rfl⟩:=uJ hm;obtain ⟨hd1,rfl⟩:=bF hd;obtain ⟨x,hx,rfl⟩:=ze8.1 hb;exact ih (hq d (zh1.1 hd1).1 hqa x hx)
   have hqi:=key _ _ hr hqc;obtain ⟨d,hd⟩:=yw hid;obtain ⟨hd1,hdi⟩:=bF hd;have hdl:=(zh1.1 hd1).1;unfold sO;rw[hd,oG hqi,← hdi,h.find hdl];simp
end
set_option maxRecDepth 100000
set_option maxHeartbeats 1000000
theorem subP (E:World)(g:PH)(b m:Nat)(sm:List (Int×Value))(q:Int→Bool)(tl:List Cl)(hb:g b=some (.cells #[.map (some m)] 97 (0,0)))(hm:Mp g m sm)(hs:G4 sm q):qr E (.func (.func 51) #[] #[pp b 0]) (fun c=>q c.id) tl g:=by
 intro g s c r hle hmem hc;refine cI.mk (cap:=[pp b 0]) call51 ?_;have hb':=hle _ _ hb;have hm':=hm.mono hle;refine za9 (args:=[rcv r,pp b 0]) func51 I ntmps51 (bE I) ?_;refine rZ (bW (bO I) fun b2=>?_);refine aT I (rZ (lK (qL isAgg97 I (cK hb' I)) (lU (fA ar I zT3 I) (lK (qL iT3 I (cO 0 I I)) (lK (SQ.eq (v':=vb (q c.id)) (SQ.lookup mty97 I I (cG.known hm')) (by rw[← hc.1]; exact hs.get _)) ?_)))));refine aT I (rE (dR (s':=s) uR ?_));exact za6 (.inl I) results51 I ⟨I,I,I⟩
theorem FU (E:World)(g:PH)(s:Own)(v iv:Value)(l:List Cl)(ids:List Int)(hv:am g v l)(hf:cZ l)(hi:bT g iv ids)(hl:ids.length<1099511627776) :
  Ctr Tryz.prog E 17 #[.agg #[v],iv] g s (fun r g' s'=>s=s'∧Le g g'∧∃ u,r = .agg #[u]∧nn (mns g' g) u ((ab l).filter fun c=>(cu (ab l) ids).contains c.id)):=by
 have hft:=e6 hf;obtain ⟨ip,ic,rfl⟩:=za2 hi;refine za9 (args:=[.agg #[v],.slice ip ids.length ic]) func17 I ntmps17 (bE I) ?_;refine rZ (bW (bO I) fun b2=>?_);refine bW (aL zl4) fun b4=>?_;refine tZ (rZ (lK (qV 1 bq aw I I I) (lW (cL call42 I (tq E g _ v l hv hf)) ?_)));rintro tv g1 _ ⟨rfl,hle1,htk⟩;have ht:Tab g1 tv (ab l):=htk.mono (zb7 _) fun _ _=>dB.cr (fv _ _);refine aT I (sW I (lM I (lW (cL call49 I (jU E g1 _ _ _ (ab l) ids ht hft (hi.mono hle1) hl)) ?_)));rintro _ g2 _ ⟨m,rfl,hle2,rfl⟩;refine bW (aL zeroValue97) fun b6=>?_;refine oZ (sK 0 sizeOf97 I I I I I ⟨I,trivial⟩) (zb3 fun g3 hle3 hb6=>?_);refine SL.freezeMap fun g4 hle4 hm4=>?_;have hle14:=hle2.trans (hle3.trans hle4);refine tZ (sW I (lU (SU.mkFunc I) (lW (cL call47 I (se (dB (mns g1 g)) E g4 _ _ _ (ab l) _ (fun _ _ h=>dB.cr ((fv _ _).trans hle14) h) (htk.mono hle14 fun _ _ h=>h) (eP l) hft (subP E g4 b6 m _ (fun k=>(cu (ab l) ids).contains k) _ (hle4 _ _ hb6) hm4 (rY _)))) ?_)));rintro _ g5 _ ⟨rfl,hle5,x,rs9,rfl,hx1,hx2⟩;have hx:nn (mns g5 g) x _:=⟨rs9,hx1.mono (nF (hle1.trans hle14)),hx2.mono fun _ _=>dB.mono (iM (hle14.trans hle5))⟩;obtain ⟨q,d,rfl⟩:=hx1.form;refine oZ (sK 0 aw I I I I I sB) ?_;refine tZ (rE ?_);exact ST.retCD 0 s (.inl I) results17 I bq aw I I uR ⟨I,hle1.trans (hle14.trans hle5),_,I,hx⟩
theorem DA (E:World)(g:PH)(s:Own)(v iv:Value)(l:List Cl)(ids:List Int)(hv:am g v l)(hf:cZ l)(hi:bT g iv ids)(hl:ids.length<1099511627776) :
  Ctr Tryz.prog E 17 #[.agg #[v],iv] g s (fun r g' s'=>s=s'∧Le g g'∧∃ u,r = .agg #[u]∧am g' u ((ab l).filter fun c=>(cu (ab l) ids).contains c.id)) :=
 (FU E g s v iv l ids hv hf hi hl).mono fun _ _ _ ⟨h1,h2,u,h3,h4⟩=>⟨h1,h2,u,h3,h4.cells (fv _ _)⟩
end Go.Proofs.YtkbagdedfdfjhaaGreatDoor
namespace Go.Sy
open Go
structure Md where
 ro:Option Nat
 ds:List Deferred
def wf (ro:Option Nat):Fence:={ fn:=fun _=>True,depth:=none,alive:=false,round:=ro }
def nk (a:Act):Act:={ a with defers:=[] }
theorem o7 (a:Act):(nk a).eval=a.eval:=by funext x; cases x <;> rfl
theorem EN (a:Act)(d:Option Tmp)(v:Value):nk (a.put d v)=(nk a).put d v:=by cases d <;> rfl
theorem qW (a:Act)(d:Option Tmp)(v:Value):(a.put d v).defers=a.defers:=by cases d <;> rfl
def Okd (ds:List Deferred)(N:Nat)(f:Fr)(a:Act):Prop:=a.defers=ds∧Ok N f (nk a)
section
variable {P:Program}{M:Md}{N:Nat}{E:World}{Q:Exit→Act→World→Prop}{f f':Fr}{g g':PH}{s s':Own}{ops:Array Oper}
theorem Okd.put {ds:List Deferred}{a:Act}(h:Okd ds N f a){d:Nat}(hlt:d<N)(v:Value):Okd ds N ((d,v)::f) (a.put (some d) v):=⟨h.1,by rw[EN]; exact h.2.put hlt v⟩
theorem Okd.sub {ds:List Deferred}{a:Act}(h:Okd ds N f a)(hs:Sub f' f):Okd ds N f' a:=⟨h.1,h.2.sub hs⟩
theorem Okd.ev {ds:List Deferred}{a:Act}(h:Okd ds N f a){x:Operand}{v:Value}(hx:Sy.ev f x=some v):a.eval x=v:=by rw[← o7]; exact h.2.ev hx
def XC (P:Program)(M:Md)(N:Nat)(E:World)(c:Code)(Q:Exit→Act→World→Prop)(f:Fr)(g:PH)(s:Own):Prop:=∀ a w,Okd M.ds N f a→At E g s w→c.wpIn (wf M.ro) 0 P Q a w
def XT (M:Md)(N:Nat)(E:World)(Q:Exit→Act→World→Prop)(e:Exit)(f:Fr)(g:PH)(s:Own):Prop:=∀ a w,Okd M.ds N f a→At E g s w→Q e a w
def XL (P:Program)(M:Md)(N:Nat)(E:World)(ops:Array Oper)(Q:Exit→Act→World→Prop)(l:List Oper)(f:Fr)(g:PH)(s:Own):Prop:=∀ a w,Okd M.ds N f a→At E g s w→wpListIn (wf M.ro) 0 P ops Q l a w
def XO (P:Program)(M:Md)(N:Nat)(E:World)(o:Oper)(f:Fr)(g:PH)(s:Own)(K:Value→PH→Own→Prop):Prop :=
 ∀ a w,Okd M.ds N f a→At E g s w→∀ (Q:Exit→Act→World→Prop) (next:Act→World→Prop),
  (∀ v g' s' w',K v g' s'→At E g' s' w'→next (a.put o.dst v) w')→o.wpIn (wf M.ro) 0 P a w next Q
theorem XC.to {c:Code}(h:∀ w,At E g s w→At E g' s' w)(hc:XC P M N E c Q f g' s'):XC P M N E c Q f g s:=fun a w ha hw=>hc a w ha (h w hw)
theorem XT.drop {e:Exit}(hs:s'.Sublist s)(h:XT M N E Q e f g s'):XT M N E Q e f g s:=fun a w ha hw=>h a w ha (hw.sublist hs)
theorem XL.to {l:List Oper}(h:∀ w,At E g s w→At E g' s' w)(hc:XL P M N E ops Q l f g' s'):XL P M N E ops Q l f g s:=fun a w ha hw=>hc a w ha (h w hw)
theorem XC.facts {c:Code}(h:(∃ w,At E g s w)→XC P M N E c Q f g s):XC P M N E c Q f g s:=fun a w ha hw=>h ⟨w,hw⟩ a w ha hw
theorem XL.facts {l:List Oper}(h:(∃ w,At E g s w)→XL P M N E ops Q l f g s):XL P M N E ops Q l f g s:=fun a w ha hw=>h ⟨w,hw⟩ a w ha hw
theorem XT.facts {e:Exit}(h:(∃ w,At E g s w)→XT M N E Q e f g s):XT M N E Q e f g s:=fun a w ha hw=>h ⟨w,hw⟩ a w ha hw
theorem XC.skip (h:XT M N E Q .normal f g s):XC P M N E .skip Q f g s:=fun a w ha hw=>wpIn_skip (h a w ha hw)
theorem XC.ret (h:XT M N E Q .ret f g s):XC P M N E .ret Q f g s:=fun a w ha hw=>wpIn_ret (h a w ha hw)
theorem XC.exit {id:Nat}(h:XT M N E Q (.exit id) f g s):XC P M N E (.exit id) Q f g s:=fun a w ha hw=>wpIn_exit (h a w ha hw)
theorem XC.seq {x y:Code}(h:XC P M N E x (Exit.then (y.wpIn (wf M.ro) 0 P Q) Q) f g s):XC P M N E (.seq x y) Q f g s:=fun a w ha hw=>wpIn_seq (h a w ha hw)
theorem XC.block {id:Nat}{c:Code}(h:XC P M N E c (Exit.inBlock id Q) f g s):XC P M N E (.block id c) Q f g s:=fun a w ha hw=>wpIn_block (h a w ha hw)
theorem XC.cond {c:Operand}{x y:Code}{t:Bool}(hc:ev f c=some (.bool t))(h:XC P M N E (if t then x else y) Q f g s):XC P M N E (.cond c x y) Q f g s :=
 fun a w ha hw=>wpIn_cond (ha.ev hc) (h a w ha hw)
theorem XC.condT {c:Operand}{x y:Code}(hc:ev f c=some (.bool true))(h:XC P M N E x Q f g s):XC P M N E (.cond c x y) Q f g s:=XC.cond hc h
theorem XC.condF {c:Operand}{x y:Code}(hc:ev f c=some (.bool false))(h:XC P M N E y Q f g s):XC P M N E (.cond c x y) Q f g s:=XC.cond hc h
theorem XC.ifB {c:Operand}{x y:Code}{t:Bool}(hc:ev f c=some (.bool t))(h1:t=true→XC P M N E x Q f g s)(h2:t=false→XC P M N E y Q f g s) :
  XC P M N E (.cond c x y) Q f g s:=by
 cases t
 ·exact XC.condF hc (h2 I)
 ·exact XC.condT hc (h1 I)
theorem XC.ifP {c:Operand}{x y:Code}{p:Prop}[Decidable p](hc:ev f c=some (.bool (decide p)))(h1:p→XC P M N E x Q f g s)(h2:¬ p→XC P M N E y Q f g s) :
  XC P M N E (.cond c x y) Q f g s :=
 XC.ifB hc (fun h=>h1 (zf9 h)) (fun h=>h2 (of_decide_eq_false h))
theorem XT.thenN {c:Code}(h:XC P M N E c Q f g s):XT M N E (Exit.then (c.wpIn (wf M.ro) 0 P Q) Q) .normal f g s:=h
theorem XT.thenX {K:Act→World→Prop}{id:Nat}(h:XT M N E Q (.exit id) f g s):XT M N E (Exit.then K Q) (.exit id) f g s:=h
theorem XT.blockN {id:Nat}(h:XT M N E Q .normal f g s):XT M N E (Exit.inBlock id Q) .normal f g s:=h
theorem XT.blockX {id:Nat}(h:XT M N E Q .normal f g s):XT M N E (Exit.inBlock id Q) (.exit id) f g s:=fun a w ha hw=>by simpa [Exit.inBlock] using h a w ha hw
def Fw {ι:Type}(ds:List Deferred)(N:Nat)(E:World)(F:ι→Fr)(G:ι→PH)(S:ι→Own)(J:ι→Prop)(μ:ι→Nat)(i:ι)(a:Act)(w:World):Prop :=
 ∃ j,Okd ds N (F j) a∧At E (G j) (S j) w∧J j∧μ j<μ i
theorem XT.again {ι:Type}{F:ι→Fr}{G:ι→PH}{S:ι→Own}{J:ι→Prop}{μ:ι→Nat}{i:ι}(j:ι)(hf:Sub (F j) f)(hg:G j=g)(hs:S j=s)(hJ:J j)(hμ:μ j<μ i) :
  XT M N E (Exit.then (Fw M.ds N E F G S J μ i) Q) .normal f g s:=fun _ _ ha hw=>⟨j,ha.sub hf,by rw[hg,hs]; exact hw,hJ,hμ⟩
theorem XC.loop {ι:Type}{c:Code}(F:ι→Fr)(G:ι→PH)(S:ι→Own)(J:ι→Prop)(μ:ι→Nat)(i:ι)(hf:Sub (F i) f)(hg:G i=g)(hs:S i=s)(h0:J i)
  (round:∀ i,J i→XC P M N E c (Exit.then (Fw M.ds N E F G S J μ i) Q) (F i) (G i) (S i)):XC P M N E (.loop c) Q f g s:=by
 intro a w ha hw;have key:∀ n,∀ (i:ι) (a:Act) (w:World),μ i=n→Okd M.ds N (F i) a→At E (G i) (S i) w→J i→∀ (b:Frame) (k:List Item) (cs:List Frame),b.roundOf=(wf M.ro).round→(wf M.ro).fn b.fn→(wf M.ro).room (cs.length+1+0) →
   ∃ e a' w',Q e a' w'∧ArrivesIn (Machine.fenced P (wf M.ro)) P (lone (b.atR a (.code c :: .inLoop c::k)) cs w) b k cs e a' w':=by
  intro n;induction n using Nat.strongRecOn with
  | _ n ih =>
   intro i a w hn ha hI hJ b k cs hro hb hr;obtain ⟨e,a₁,w₁,hq,harr⟩:=round i hJ a w ha hI b (.inLoop c::k) cs hro hb hr;cases e with
   | normal =>
    obtain ⟨j,hok,hI₁,hJ₁,hlt⟩:=hq;obtain ⟨e₂,a₂,w₂,hq₂,harr₂⟩:=ih (μ j) (hn ▸ hlt) j a₁ w₁ rfl hok hI₁ hJ₁ b k cs hro hb hr;exact⟨e₂,a₂,w₂,hq₂,.of_steps (StepsIn.trans harr (.one (fenced_calm hb hr I) stepR_inLoop)) harr₂⟩
   | exit id=>exact⟨_,a₁,w₁,hq,.pass (x:=.inLoop c) rfl (fun _ _=>.inl (by simp)) harr⟩
   | goto l=>exact⟨_,a₁,w₁,hq,.pass (x:=.inLoop c) rfl (fun _ _=>.inl (by simp)) harr⟩
   | ret=>exact⟨_,a₁,w₁,hq,.pass (x:=.inLoop c) rfl (fun _ _=>.inl (by simp)) harr⟩
   | panic ch=>exact⟨_,a₁,w₁,hq,.pass (x:=.inLoop c) rfl (fun _ _=>.inl (by simp)) harr⟩
   | outgrown=>exact⟨_,a₁,w₁,hq,.pass (x:=.inLoop c) rfl (fun _ _=>.inl (by simp)) harr⟩
 intro b k cs hro hb hr;obtain ⟨e,a',w',hq,harr⟩:=key _ i a w rfl (ha.sub hf) (by rw[hg,hs]; exact hw) h0 b k cs hro hb hr;exact⟨e,a',w',hq,.of_steps (.one (fenced_calm hb hr I) stepR_loop) harr⟩
theorem XC.region {id:Nat}(h:XL P M N E ops Q ops.toList f g s):XC P M N E (.region id ops false) Q f g s:=fun a w ha hw=>wpIn_region_list (h a w ha hw)
theorem XL.nil (h:XT M N E Q .normal f g s):XL P M N E ops Q [] f g s:=fun a w ha hw=>h a w ha hw
theorem SO.xo {o:Oper}{K:Value→PH→Own→Prop}(hno:∀ c,o.op ≠ .defer c)(h:SO P N E o f g s K):XO P M N E o f g s K:=by
 intro a w ha hw Q next hn;refine⟨fun _ _=>trivial,?_⟩;rw[Oper.semAt_eq _ _ _ hno];have h1:=h (nk a) w ha.2 hw (fun _ _ _=>False) (fun a' w'=>a'.defers=[]∧∃ v g' s',a'=(nk a).put o.dst v∧K v g' s'∧At E g' s' w') (fun v g' s' w' hK hw'=>⟨qW _ _ _,v,g',s',rfl,hK,hw'⟩);unfold Oper.wp at h1;rw[o7] at h1;have key:∀ v w',(((nk a).put o.dst v).defers=[]∧∃ v' g' s',(nk a).put o.dst v=(nk a).put o.dst v'∧K v' g' s'∧At E g' s' w')→next (a.put o.dst v) w':=by
  rintro v w' ⟨_,v',g',s',he,hK,hw'⟩;have:a.put o.dst v=a.put o.dst v':=by
   cases hd:o.dst with
   | none=>rfl
   | some d =>
    rw[hd] at he;have h2:=zd8 Act.tmps he;cases a;simp only[Act.put,nk] at h2 ⊢;rw[h2]
  rw[this];exact hn v' g' s' w' hK hw'
 generalize (execOp a.eval o).run P w=r at h1;cases r with
 | ok n w' =>
  cases n <;> simp only[Oper.upon] at h1 <;> first | exact h1.elim | skip
  ·exact key _ _ h1
  ·exact key _ _ h1
  ·rename_i f' args;exact⟨fun h=>(by cases h),(CallsIn.more (n:=0) ((callsIn_wide (n:=0)).2 (Calls.mono h1 (fun e w'' he=>by cases e with | returned v=>exact key _ _ he | panicked c=>exact he.elim | outgrown=>obtain ⟨_,_,h2⟩:=he; exact h2.elim))) (zf3 _))⟩
  ·exact absurd h1.1 (by rw[qW]; simp)
  ·exact⟨fun h=>(by cases h),fun c cs _=>let ⟨v,w'',r,st⟩:=h1 c cs; ⟨v,w'',key _ _ r,stepsIn_wide.2 st⟩⟩
 | halt x w'=>cases x <;> simp only[Oper.upon] at h1 <;> exact h1.elim
theorem XL.step {o:Oper}{l:List Oper}{K:Value→PH→Own→Prop}(hg:Gd N ops f o true)(ho:XO P M N E o f g s K)
  (h:∀ v g' s' a,K v g' s'→Okd M.ds N f a→∃ f',Okd M.ds N f' (a.put o.dst v)∧XL P M N E ops Q l f' g' s'):XL P M N E ops Q (o::l) f g s:=by
 intro a w ha hw;unfold wpListIn;have hwt:Region.wanted o (yielded ops a.tmps)=true:=hg (nk a) ha.2;rw[zf7 hwt];refine ho a w ha hw Q _ fun v g' s' w' hK hw'=>?_;obtain ⟨f',hf',hn⟩:=h v g' s' a hK ha;exact hn _ _ hf' hw'
theorem XL.x {d:Nat}{op:Op}{ty:TypeId}{pos:String}{af:Array Edge}{l:List Oper}{K:Value→PH→Own→Prop}(ho:XO P M N E ⟨some d,op,ty,pos,af,none⟩ f g s K)(hd:d<N)
  (h:∀ v g' s',K v g' s'→XL P M N E ops Q l ((d,v)::f) g' s'):XL P M N E ops Q (⟨some d,op,ty,pos,af,none⟩::l) f g s :=
 XL.step (Gd.none rfl) ho fun v g' s' _ hK ha=>⟨_,ha.put hd v,h v g' s' hK⟩
theorem XL.go {d:Nat}{op:Op}{ty:TypeId}{pos:String}{af:Array Edge}{gd:Option (Nat×Bool)}{l:List Oper}{K:Value→PH→Own→Prop}(hg:Gd N ops f ⟨some d,op,ty,pos,af,gd⟩ true)(ho:SO P N E ⟨some d,op,ty,pos,af,gd⟩ f g s K)(hd:d<N)
  (h:∀ v g' s',K v g' s'→XL P M N E ops Q l ((d,v)::f) g' s') (hno:∀ c,op ≠ .defer c:=by intro _ h; cases h):XL P M N E ops Q (⟨some d,op,ty,pos,af,gd⟩::l) f g s :=
 XL.step hg (ho.xo hno) fun v g' s' _ hK ha=>⟨_,ha.put hd v,h v g' s' hK⟩
theorem XL.o {d:Nat}{op:Op}{ty:TypeId}{pos:String}{af:Array Edge}{l:List Oper}{K:Value→PH→Own→Prop}(ho:SO P N E ⟨some d,op,ty,pos,af,none⟩ f g s K)(hd:d<N)
  (h:∀ v g' s',K v g' s'→XL P M N E ops Q l ((d,v)::f) g' s') (hno:∀ c,op ≠ .defer c:=by intro _ h; cases h):XL P M N E ops Q (⟨some d,op,ty,pos,af,none⟩::l) f g s :=
 XL.go (Gd.none rfl) ho hd h hno
theorem XL.on {op:Op}{ty:TypeId}{pos:String}{af:Array Edge}{l:List Oper}{K:Value→PH→Own→Prop}(ho:SO P N E ⟨none,op,ty,pos,af,none⟩ f g s K)
  (h:∀ v g' s',K v g' s'→XL P M N E ops Q l f g' s') (hno:∀ c,op ≠ .defer c:=by intro _ h; cases h):XL P M N E ops Q (⟨none,op,ty,pos,af,none⟩::l) f g s :=
 XL.step (Gd.none rfl) (ho.xo hno) fun v g' s' _ hK ha=>⟨f,ha,h v g' s' hK⟩
theorem XL.gq {d:Nat}{op:Op}{ty:TypeId}{pos:String}{af:Array Edge}{gd:Option (Nat×Bool)}{l:List Oper}{v:Value}(hg:Gd N ops f ⟨some d,op,ty,pos,af,gd⟩ true)(hq:SQ P N E ⟨some d,op,ty,pos,af,gd⟩ f g s v)(hd:d<N)
  (h:XL P M N E ops Q l ((d,v)::f) g s) (hno:∀ c,op ≠ .defer c:=by intro _ h; cases h):XL P M N E ops Q (⟨some d,op,ty,pos,af,gd⟩::l) f g s :=
 XL.go hg hq.so hd (fun v' g' s' ⟨e1,e2,e3⟩=>by subst e1; subst e2; subst e3; exact h) hno
theorem XL.q {d:Nat}{op:Op}{ty:TypeId}{pos:String}{af:Array Edge}{l:List Oper}{v:Value}(hq:SQ P N E ⟨some d,op,ty,pos,af,none⟩ f g s v)(hd:d<N)
  (h:XL P M N E ops Q l ((d,v)::f) g s) (hno:∀ c,op ≠ .defer c:=by intro _ h; cases h):XL P M N E ops Q (⟨some d,op,ty,pos,af,none⟩::l) f g s:=XL.gq (Gd.none rfl) hq hd h hno
theorem XL.gu {d:Nat}{op:Op}{ty:TypeId}{pos:String}{af:Array Edge}{gd:Option (Nat×Bool)}{l:List Oper}{v:Value}(hg:Gd N ops f ⟨some d,op,ty,pos,af,gd⟩ true)(hq:SU P N ⟨some d,op,ty,pos,af,gd⟩ f v)(hd:d<N)
  (h:XL P M N E ops Q l ((d,v)::f) g s) (hno:∀ c,op ≠ .defer c:=by intro _ h; cases h):XL P M N E ops Q (⟨some d,op,ty,pos,af,gd⟩::l) f g s:=XL.gq hg hq.sq hd h hno
theorem XL.u {d:Nat}{op:Op}{ty:TypeId}{pos:String}{af:Array Edge}{l:List Oper}{v:Value}(hq:SU P N ⟨some d,op,ty,pos,af,none⟩ f v)(hd:d<N)
  (h:XL P M N E ops Q l ((d,v)::f) g s) (hno:∀ c,op ≠ .defer c:=by intro _ h; cases h):XL P M N E ops Q (⟨some d,op,ty,pos,af,none⟩::l) f g s:=XL.q hq.sq hd h hno
theorem XL.off {d:Nat}{op:Op}{ty:TypeId}{pos:String}{af:Array Edge}{gd:Option (Nat×Bool)}{l:List Oper}(hg:Gd N ops f ⟨some d,op,ty,pos,af,gd⟩ false)(hd:d<N)
  (h:XL P M N E ops Q l ((d,undef)::f) g s):XL P M N E ops Q (⟨some d,op,ty,pos,af,gd⟩::l) f g s:=by
 intro a w ha hw;unfold wpListIn;have hwt:Region.wanted (⟨some d,op,ty,pos,af,gd⟩:Oper) (yielded ops a.tmps)=false:=hg (nk a) ha.2;rw[zf6 (by rw[hwt]; simp)];exact⟨fun _ _=>trivial,h _ _ (ha.put hd undef) hw⟩
theorem At.obj {w:World}{b i:Nat}{o o':Obj}(h:At E g s w)(hi:s[i]?=some (pt b o)):At E g (s.set i (pt b o')) (w.putObj b o'):=by
 have h2:=h.fresh _ (zf8 hi) b rfl;refine h.turn hi I ⟨I,lR _⟩ I (by simp[World.putObj]) (fun k _ hk=>World.putObj_heap_other (fun e=>hk (by simp[pt,e]))) ?_ (fun b' hb'=>?_)
 ·simp only[pt,Option.bind_some];exact World.putObj_heap_same h2.2
 ·simp only[pt,zg4] at hb';subst hb';exact⟨by simpa [World.putObj] using h2.2,.inl I⟩
theorem At.here {w:World}{b i:Nat}{o:Obj}(h:At E g s w)(hi:s[i]?=some (pt b o)):w.heap[b]?=some o:=by
 have:=h.own _ (zf8 hi);simpa [pt] using this
end
def Fv (P:Program)(E:World)(l:Nat)(args:Array Value)(g:PH)(s:Own)(R:Value→PH→Own→Prop):Prop :=
 ∀ w,At E g s w→YieldAt Fence.wide 0 P l args w fun e w'=>∃ v g' s',e = .returned v∧At E g' s' w'∧R v g' s'
def GX (P:Program)(E:World)(gf:FuncId)(lb:List Value){α:Type}(encs:α→List Value)(xs:List α)(g0:PH):Prop :=
 ∀ (l:Nat) (ι:Type) (G:ι→PH) (S:ι→Own) (J:List α→ι→Prop) (i0:ι),J [] i0→(∀ pre i,J pre i→Le g0 (G i)) →
  (∀ pre x suf i sx,xs=pre++x::suf→J pre i→Fv P E l (encs x).toArray (G i) (S i++sx) (fun v g' s'=>v = .bool true∧∃ j,J (pre++[x]) j∧g'=G j∧s'=S j++sx)) →
  ∀ sx,Ctr P E gf (.func (.yield l) #[] #[]::lb).toArray (G i0) (S i0++sx) (fun _ g' s'=>∃ j,J xs j∧g'=G j∧s'=S j++sx)
section
variable {P:Program}{M:Md}{N:Nat}{E:World}{Q:Exit→Act→World→Prop}{f:Fr}{g:PH}{s:Own}{dst:Option Tmp}{ty:TypeId}{pos:String}{af:Array Edge}{gd:Option (Nat×Bool)}
theorem XO.yield {x:Operand}{l:List Operand}{tys:Array TypeId}{vs:List Value}{k:Nat}{R:Value→PH→Own→Prop}(hx:ev f x=some (.func (.yield k) #[] #[]))(hl:evs f l=some vs)(hY:Fv P E k vs.toArray g s R) :
  XO P M N E ⟨dst,.call ⟨.value x,l.toArray,tys⟩,ty,pos,af,gd⟩ f g s R:=by
 intro a w ha hw Q next hn;refine⟨fun _ _=>trivial,?_⟩;rw[Oper.semAt_eq _ _ _ (fun _ h=>by cases h)];obtain ⟨fn,tmps,assign,body,hy,hR⟩:=hY w hw;have h1:a.eval x = .func (.yield k) #[] #[]:=ha.ev hx;have h2:l.map a.eval=vs:=by have:=ha.2.evs hl; rwa [o7] at this
 have h3:(execOp a.eval ⟨dst,.call ⟨.value x,l.toArray,tys⟩,ty,pos,af,gd⟩).run P w = .ok (.round k fn tmps assign body) w:=by
  simp only[execOp,resolve,h1,List.map_toArray,h2];simp[Deferred.ofValue,Sem.run_bind,invoke,hy]
 rw[h3];refine⟨fun h=>(by cases h),RoundIn.mono hR fun e w' he=>?_⟩;obtain ⟨v,g',s',rfl,hat,hRR⟩:=he;exact hn v g' s' w' hRR hat
theorem Ctr.ofX {n:FuncId}{fn:Func}{c:Code}{args:List Value}{R:Value→PH→Own→Prop}
  (hf:P.funcs[n]?=some fn) (hb:fn.body=some c) (hN:fn.ntmps=N) (hle:args.length≤N)
  (h:XC P ⟨none,[]⟩ N E c (bodyPostM (wf none) 0 P fn (qA E R)) (l6 0 args) g s):Ctr P E n args.toArray g s R:=by
 intro w hw;refine (callsIn_wide (n:=0)).1 (callsIn_of_wp_marks (F:=wf none) hf hb trivial (h _ w ⟨I,⟨I,?_,fun t v hv=>?_⟩⟩ hw) I)
 ·simp[nk,hN]; omega
 ·obtain ⟨_,h2⟩:=jS args 0 t v hv;have hlt:t<args.length:=(zf2.1 (by simpa using h2)).1;simp only[Nat.sub_zero] at h2;obtain ⟨_,h3⟩:=zf2.1 h2;simp[nk,Array.getElem?_append,hlt,h3]
theorem XT.leave0 {fn:Func}{R:Value→PH→Own→Prop}{e:Exit}(he:e = .ret∨e = .normal)(h:ST N E (bodyPost P fn (qA E R)) e f g s):XT ⟨none,[]⟩ N E (bodyPostM (wf none) 0 P fn (qA E R)) e f g s:=by
 intro a w ha hw;have h1:=h (nk a) w ha.2 hw
 rcases he with rfl | rfl
 all_goals
  obtain ⟨_,v,h2,h3⟩:=h1;show LeavesInM _ _ _ _ _ _ a.defers _ _;rw[ha.1];exact⟨v,h2,h3⟩
theorem XT.leave1 {fn:Func}{R:Value→PH→Own→Prop}{e:Exit}{D:Nat}(he:e = .ret∨e = .normal)(h:ST N E (bodyPost P fn (qA E R)) e f g s) :
  XT ⟨none,[⟨.collected D,#[]⟩]⟩ N E (bodyPostM (wf none) 0 P fn (qA E R)) e f g (pt D (.deferred (some []))::s):=by
 intro a w ha hw;have hD:w.heap[D]?=some (.deferred (some [])):=At.here (i:=0) hw rfl;have hw2:=(At.obj (i:=0) (o':=.deferred none) hw rfl).sublist (zi7 _ _);have h1:=h (nk a) _ ha.2 hw2
 rcases he with rfl | rfl
 all_goals
  obtain ⟨_,v,h2,h3⟩:=h1;show LeavesInM _ _ _ _ _ _ a.defers _ _;rw[ha.1];exact⟨by simp,.inl ⟨D,_,I,run_takeDeferred hD,v,h2,h3⟩⟩
theorem Gf {a:Act}{t t':Nat}{u u':Value}(h:Ok N f (nk a))(ht:t<N)(ht':t'<N):Ok N ((t',u')::(t,u)::f) { tmps:=((#[t,t']:Array Tmp).zip [u,u'].toArray).foldl (fun t (p,v)=>t.setIfInBounds p v) a.tmps,defers:=[] }:=by
 have:=(h.put ht u).put ht' u';simpa [Act.put,nk] using this
def yU {α ι:Type}(E:World)(G:ι→PH)(S:ι→Own)(J:List α→ι→Prop)(pre:List α)(x:α)(sx:Own):Exit→Act→World→Prop:=fun e _ w'=>e = .normal∧∃ j,At E (G j) (S j++sx) w'∧J (pre++[x]) j
def uK {N:Nat}(E:World)(g:PH)(s:Own)(fb:Fr):Exit→Act→World→Prop:=fun e a' w'=>e = .normal∧Okd [] N fb a'∧At E g s w'
theorem XT.roundEnd {α ι:Type}{G:ι→PH}{S:ι→Own}{J:List α→ι→Prop}{pre:List α}{x:α}{sx:Own}(j:ι)(hg:G j=g)(hs:S j++sx=s)(hj:J (pre++[x]) j):XT M N E (yU E G S J pre x sx) .normal f g s:=fun _ _ _ hw=>⟨rfl,j,by rw[hg,hs]; exact hw,hj⟩
theorem XT.assignEnd {fb:Fr}{ro:Option Nat}(hf:Sub fb f):XT ⟨ro,[]⟩ N E (uK (N:=N) E g s fb) .normal f g s:=fun _ _ ha hw=>⟨rfl,ha.sub hf,hw⟩
theorem XC.rangeFunc {α ι:Type}{gop:Operand}{ps:Array Tmp}{assign body:Code}{gf:FuncId}{lb:List Value}{encs:α→List Value}{xs:List α}{g0:PH}(G:ι→PH)(S:ι→Own)(J:List α→ι→Prop)(i0:ι)(sx0:Own)(fa:α→Fr)(fb:List α→α→ι→Fr)
  (hro:M.ro=none) (hg:ev f gop=some (.func (.func gf) #[] lb.toArray)) (eg:∀ args w,(callFunc gf args).run P w = .ok (.enter gf args) w) (hps:∀ x,(encs x).length=ps.size)
  (hG:G i0=g) (hS:S i0++sx0=s) (hseq:GX P E gf lb encs xs g0) (hmono:∀ pre i,J pre i→Le g0 (G i)) (h0:J [] i0)
  (hfa:∀ x a,Ok N f (nk a)→Ok N (fa x) { tmps:=(ps.zip (encs x).toArray).foldl (fun t (p,v)=>t.setIfInBounds p v) a.tmps,defers:=[] })
  (hassign:∀ l pre x i sx,J pre i→XC P ⟨some l,[]⟩ N E assign (uK (N:=N) E (G i) (S i++sx) (fb pre x i)) (fa x) (G i) (S i++sx))
  (hbody:∀ l pre x suf i sx,xs=pre++x::suf→J pre i→XC P ⟨some l,[]⟩ N E body (yU E G S J pre x sx) (fb pre x i) (G i) (S i++sx))
  (hdone:∀ D j,J xs j→XT ⟨none,⟨.collected D,#[]⟩::M.ds⟩ N E Q .normal f (G j) (pt D (.deferred (some []))::(S j++sx0))):XC P M N E (.rangeFunc gop ps assign body) Q f g s:=by
 subst hG hS;intro a w ha hw;rw[hro];refine wpIn_rangeFunc ?_;intro fn _;obtain ⟨rec,hrec⟩:∃ rec:LoopState→Option Code→Loop,rec=fun st pe=>{ state:=st,pending:=pe,fn,tmps:=a.tmps,params:=ps,assign,body,defers:=w.heap.size }:=⟨_,rfl⟩;obtain ⟨L,hL⟩:∃ L,L=w.heap.size+1:=⟨_,rfl⟩;obtain ⟨D,hD⟩:∃ D,D=w.heap.size:=⟨_,rfl⟩;obtain ⟨W1,hW1⟩:∃ W1,(w.alloc (.deferred (some []))).alloc (.loop (rec .ready none))=W1:=⟨_,rfl⟩;have hA:At E (G i0) (pt L (.loop (rec .ready none))::pt D (.deferred (some []))::(S i0++sx0)) W1:=by
  rw[← hW1,hL,hD];have h1:At E (G i0) (pt w.heap.size (.deferred (some []))::(S i0++sx0)) (w.alloc (.deferred (some []))):=hw.alloc (e:=pt w.heap.size (.deferred (some []))) rfl rfl;have h2:=h1.alloc (e:=pt (w.alloc (.deferred (some []))).heap.size (.loop (rec .ready none))) rfl rfl;rw[World.size_alloc] at h2;exact h2
 obtain ⟨S2,hS2⟩:∃ S2:ι→Own,S2=fun i=>S i++(pt L (.loop (rec .ready none))::pt D (.deferred (some []))::sx0):=⟨_,rfl⟩;have hA2:At E (G i0) (S2 i0++[]) W1:=by
  rw[hS2,zc3];dsimp only;refine hA.perm ?_;have h1:(pt L (.loop (rec .ready none))::pt D (.deferred (some []))::(S i0++sx0))=[pt L (.loop (rec .ready none)),pt D (.deferred (some []))]++(S i0++sx0):=rfl;have h2:S i0++(pt L (.loop (rec .ready none))::pt D (.deferred (some []))::sx0)=S i0++([pt L (.loop (rec .ready none)),pt D (.deferred (some []))]++sx0):=rfl;rw[h1,h2,← zg5,← zg5];exact List.perm_append_comm.append_right _
 refine⟨L,[{ target:=.collected D,args:=#[] }],W1,{ target:=.fn (.func gf) lb.toArray,args:=#[.func (.yield L) #[] #[]] },W1,gf,(.func (.yield L) #[] #[]::lb).toArray,W1,?_,?_,fun _ _=>trivial,?_,fun h=>(by cases h),?_⟩
 ·rw[← hW1,hrec,hL,hD]; exact run_enterLoop_outer _ _ _ _ _
 ·have h1:a.eval gop = .func (.func gf) #[] lb.toArray:=ha.ev hg;simp only[resolve,h1];simp[go_sem]
 ·have:(#[.func (.yield L) #[] #[]]++lb.toArray:Array Value)=(.func (.yield L) #[] #[]::lb).toArray:=by simp
  simp[invoke,go_sem,eg]
 ·refine (callsIn_wide (n:=0 - 1)).2 ((hseq L ι G S2 J i0 h0 hmono ?_ [] W1 hA2).mono ?_)
  ·intro pre x suf i sx hxs hJ W hW;rw[hS2] at hW;simp only[zg5,List.cons_append] at hW;have hlen:(S i).length=(S i).length:=rfl;have gl:∀ (i:ι) (u u':Ent) (r:Own),(S i++u::u'::r)[(S i).length]?=some u:=fun i u u' r=>by simp
   have hl:=hW.here (gl i _ _ _);have hy:=run_yield (P:=P) (args:=(encs x).toArray) hl (by rw[hrec]; simpa using hps x);rw[hrec] at hy;refine⟨fn,_,assign,body,hy,roundIn_of_wpIn trivial ?_⟩;refine Code.wpIn_mono (fun e a1 w1 h1=>?_) (hassign L pre x i _ hJ { tmps:=(ps.zip (encs x).toArray).foldl (fun t (p,v)=>t.setIfInBounds p v) a.tmps,defers:=[] } W ⟨I,hfa x a ha.2⟩ hW);obtain ⟨rfl,ha1,hw1⟩:=h1;have hl1:=hw1.here (gl i _ _ _);refine⟨_,run_beginRound hl1 (by rw[hrec]),?_⟩;have hset:∀ (i:ι) (u u' v:Ent) (r:Own),(S i++u::u'::r).set (S i).length v=S i++v::u'::r:=fun i u u' v r=>by simp
   have hw2:=hw1.obj (o':=.loop { rec .ready none with state:=.busy }) (gl i _ _ _);rw[hset] at hw2;refine Code.wpIn_mono (fun e a3 w3 h3=>?_) (hbody L pre x suf i _ hxs hJ a1 _ ha1 hw2);obtain ⟨rfl,j,hw3,hJ3⟩:=h3;have hl3:=hw3.here (gl j _ _ _);have he:=run_endRound (P:=P) none hl3;have hw4:=hw3.obj (o':=.loop { (rec .ready none) with state:=.ready,pending:=none }) (gl j _ _ _);rw[hset] at hw4;refine⟨_,_,he,.bool true,G j,S2 j++sx,I,?_,I,j,hJ3,I,I⟩;rw[hS2];simp only[zg5,List.cons_append];rw[hrec] at hw4 ⊢;exact hw4
  ·rintro e W2 ⟨v,g',s',rfl,hat,j,hJ,rfl,rfl⟩;rw[hS2,zc3] at hat;have gl:∀ (i:ι) (u u':Ent) (r:Own),(S i++u::u'::r)[(S i).length]?=some u:=fun i u u' r=>by simp
   have hl:=hat.here (gl j _ _ _);have he:=run_endLoop (P:=P) hl (by rw[hrec]; simp);have h2:=hat.obj (o':=.loop { (rec .ready none) with state:=.exhausted }) (gl j _ _ _);have hset:∀ (i:ι) (u u' v:Ent) (r:Own),(S i++u::u'::r).set (S i).length v=S i++v::u'::r:=fun i u u' v r=>by simp
   rw[hset] at h2;have hpn:(rec .ready none).pending=none:=by rw[hrec]
   refine⟨none,_,he.trans (zd8 (fun p=>Result.ok p _) hpn),?_⟩;refine hdone D j hJ _ _ ⟨by rw[← ha.1]; rfl,ha.2⟩ ?_;have h3:=(h2.sublist (s':=S j++pt D (.deferred (some []))::sx0) (by exact (zb9 _).append (zi7 _ _))).perm List.perm_middle;exact h3
end
end Go.Sy
namespace Go.Sy
open Go
section
variable {P:Program}{M:Md}{N:Nat}{E:World}{Q:Exit→Act→World→Prop}{f:Fr}{g:PH}{s:Own}{dst:Option Tmp}{ty:TypeId}{pos:String}{af:Array Edge}{gd:Option (Nat×Bool)}
end
end Go.Sy
namespace Go.Sy
open Go
section
variable {P:Program}{M:Md}{N:Nat}{E:World}{Q:Exit→Act→World→Prop}{f:Fr}{g:PH}{s:Own}{dst:Option Tmp}{ty:TypeId}{pos:String}{af:Array Edge}{gd:Option (Nat×Bool)}
end
end Go.Sy
namespace Go.Proofs.YtkbagdedfdfjhaaGreatDoor
open _root_.Go.Proofs.Tryz _root_.Go.Proofs.YtkbagdedfdfjhaaGreatDoor.Tryz
open Go Go.Sy Go.Pl Go.Proofs
set_option maxRecDepth 100000
set_option maxHeartbeats 1000000
theorem CN {α β:Type}{l:List α}{k:Nat}(h:k<l.length)(p:α→Bool)(f:α→β):((l.take (k+1)).filter p).map f=((l.take k).filter p).map f++(if p l[k] then [f l[k]] else []):=by
 rw[tS h,zh3,zg2];congr 1;simp only[zi4,List.filter_nil];split <;> rfl
theorem Gx {α β:Type}(l:List α)(k:Nat)(p:α→Bool)(f:α→β):(((l.take k).filter p).map f).length≤k:=by
 rw[ze3];refine zk6 (zc2 _ _) ?_;rw[ze1]; omega
def cB (l:List Cl)(d:Int):List Int:=((ab l).filter fun c=>decide (c.dim=d)).map Cl.id
def nW:List Cl→Int→Int
 | [],m=>m
 | c::r,m=>nW r (max m c.dim)
def xq (l:List Cl):Int:=nW (ab l) (-1)
theorem pI (c:Cl):∀ (l:List Cl) (m:Int),nW (l++[c]) m=max (nW l m) c.dim
 | [],_=>rfl
 | _::r,_=>pI c r _
theorem SU.maxI {P:Program}{N:Nat}{f:Fr}{dst:Option Tmp}{ty:TypeId}{pos:String}{af:Array Edge}{gd:Option (Nat×Bool)}{x y:Operand}{T U:TypeId}{m n:Int}(hx:ev f x=some (vi m))(hy:ev f y=some (vi n)) :
  SU P N ⟨dst,.call ⟨.builtin .max,#[x,y],#[T,U]⟩,ty,pos,af,gd⟩ f (vi (max m n)):=fun a w ha=>by
 have h:=run_max_int2 (P:=P) (w:=w) #[T,U] ty .i64 .i64 m n;have h2:(if m<n then n else m)=max m n:=by split <;> omega
 rw[h2] at h;simp[execOp,resolve,invoke,builtin,ha.ev hx,ha.ev hy,h]
end Go.Proofs.YtkbagdedfdfjhaaGreatDoor
namespace Go.Sy
open Go
section
variable {α:Type}{k:Nat}{P:Program}{N:Nat}{E:World}{f:Fr}{g:PH}{s:Own}{dst:Option Tmp}{ty:TypeId}{pos:String}{af:Array Edge}{gd:Option (Nat×Bool)}
theorem SO.makeC {x y:Operand}{t T:TypeId}{bytes n:Nat}{z:Value}(e:Enc α k)(hT:STy P t T k bytes z)(hx:ev f x=some (vi 0))(hy:ev f y=some (vi n))(hb:n * bytes≤140737488355328)(hlen:n≤4611686018427387904) :
  SO P N E ⟨dst,.makeSlice t x y,ty,pos,af,gd⟩ f g s fun v' g' s'=>g=g'∧s'=rowA e T v' []::s :=
 SO.of_run fun ac w ha hw=>by
  obtain ⟨ti,ht1,ht2,ht3,ht4⟩:=hT.info;have hbi:(ti.bytes:Int) * ((n:Nat):Int)≤281474976710656:=by
   rw[ht4,← Int.natCast_mul,Nat.mul_comm]; omega
  have h5:=run_make (P:=P) w t T ti z hT.und ht1 ht2 .i64 .i64 0 n oM oM hbi oM;simp only[Int.toNat_natCast] at h5;rw[ht3] at h5;have hrun:(execOp ac.eval ⟨dst,.makeSlice t x y,ty,pos,af,gd⟩).run P w = .ok (.value (.slice (some ⟨w.heap.size,0,none⟩) 0 n)) (w.alloc (.cells (madeCells z.cells (n * k)) T)):=by
   simp[execOp,ha.ev hx,ha.ev hy,h5]
  have hnew:(w.alloc (.cells (madeCells z.cells (n * k)) T)).heap[w.heap.size]?=some (.cells (madeCells z.cells (n * k)) T (0,0)):=heap_alloc_new w _;refine⟨_,_,g,_,hrun,?_,I,I⟩;cases n with
  | zero =>
   have h6:=hw.emptyRow T k (some ⟨w.heap.size,0,none⟩);have h7:=h6.alloc (e:=pt w.heap.size (.cells (madeCells z.cells (0 * k)) T (0,0))) (o:=.cells (madeCells z.cells (0 * k)) T (0,0)) rfl rfl;exact h7.sublist (zi7 _ _)
  | succ n =>
   have hsz:(madeCells z.cells ((n+1) * k)).size=(n+1) * k:=by simp[madeCells]
   exact hw.alloc (e:=rowA e T (.slice (some ⟨w.heap.size,0,none⟩) 0 (n+1)) []) (o:=.cells (madeCells z.cells ((n+1) * k)) T (0,0)) I ⟨by simp,.inr ⟨_,n,_,I,I,by simp,by unfold maxLen; omega,hsz,by simp⟩⟩
def yY:Enc Int 1:=⟨fun n=>[.int .u8 n],fun _=>rfl,fun _ u hu=>by simp at hu; subst hu; rfl,by decide⟩
def ij:Enc Int 1:=⟨fun n=>[.int .u64 n],fun _=>rfl,fun _ u hu=>by simp at hu; subst hu; rfl,by decide⟩
def byt (l:List Int):List UInt8:=l.map fun n=>UInt8.ofNat n.toNat
def txt (l:List UInt8):Value:=.string ⟨l.toArray⟩
theorem CF (l:List Int):∀ s:ByteArray,l.foldl (fun r n=>r.push (UInt8.ofNat n.toNat)) s=⟨s.data++(byt l).toArray⟩:=by
 induction l with
 | nil=>intro s; simp[byt]
 | cons a t ih =>
  intro s;simp only[zi5];rw[ih];simp[byt,ByteArray.push]
theorem zT (l:List Int):l.flatMap yY.enc=l.map (Value.int .u8):=by
 induction l with
 | nil=>rfl
 | cons a t ih=>simp only[zh2,zg1,ih]; rfl
theorem SQ.bytesText {x:Operand}{S D e:TypeId}{p:Option Addr}{c:Nat}{l:List Int}(hs:P.underlying S=some (.slice e))(he:P.underlying e=some (.int .u8))(hd:P.underlying D=some .string)
  (hx:ev f x=some (.slice p l.length c)) (hr:Rd g s (.slice p l.length c) (l.flatMap yY.enc)) :
  SQ P N E ⟨dst,.convert S D x,ty,pos,af,gd⟩ f g s (txt (byt l)):=fun a w ha hw=>by
 have h1:(convert S D (.slice p l.length c)).run P w = .ok (txt (byt l)) w:=by
  rw[run_convert_bytes_string w S D e p l.length c hs he hd];rw[zT] at hr;cases l with
  | nil =>
   cases p with
   | none=>simp[Conv.bytesToString,txt,byt]; rfl
   | some a =>
    have h2:=run_bytesToString (P:=P) w a 0 c [] (by simp[loadCells]; exact cz (P:=P) (w:=w) (b:=a.block) (o:=a.off) 0 0 [] #[] I (fun j y hy=>by simp at hy));rw[zc1,h2];rfl
  | cons n t =>
   obtain ⟨q,n',c',he1,hsp,hc0⟩:=hr E w hw 0 (.int .u8 n) rfl;injection he1 with he1 he2 he3
   subst he1;obtain ⟨qb,qo,qs⟩:=q;dsimp only at hsp;subst hsp;have h2:=run_bytesToString (P:=P) w ⟨qb,qo,none⟩ (n::t).length c (n::t) (by
    have:=cz (P:=P) (w:=w) (b:=qb) (o:=qo) (n::t).length 0 ((n::t).map (Value.int .u8)) #[] (by simp) (fun j y hy=>by
     obtain ⟨q',n2,c2,he4,_,hc1⟩:=hr E w hw j y hy;injection he4 with he4
     injection he4 with he4
     subst he4;simpa using hc1)
    simpa [loadCells] using this)
   rw[h2,CF];simp[txt]
 simp[execOp,ha.ev hx,h1]
theorem xy (l:List UInt8):(⟨l.toArray⟩:ByteArray).toList=l:=by rw[ByteArray.toList_eq]
theorem SU.neqT {x y:Operand}{T U:TypeId}{l m:List UInt8}(hx:ev f x=some (txt l))(hy:ev f y=some (txt m)) :
  SU P N ⟨dst,.binOp .neq T x y U,ty,pos,af,gd⟩ f (.bool (decide (l≠m))):=fun ac w ha=>by
 have hg:(eqGuard .neq T x y (txt l) (txt m)).run P w = .ok () w:=by simp[eqGuard,txt]
 have hb:(binOp .neq T (txt l) (txt m)).run P w = .ok (.bool (decide (l≠m))) w:=by
  unfold txt;rw[binOp_string_neq,xy,xy];by_cases h:l=m <;> simp[h,bne] <;> rfl
 simp only[execOp,ha.ev hx,ha.ev hy,Sem.run_bind,hg,zc7,hb];rfl
end
end Go.Sy
namespace Go.Sy
open Go
section
variable {P:Program}{N:Nat}{f:Fr}{dst:Option Tmp}{ty:TypeId}{pos:String}{af:Array Edge}{gd:Option (Nat×Bool)}
theorem SU.or {x y:Operand}{T U:TypeId}{k:IntKind}{m n:Int}(hx:ev f x=some (.int k m))(hy:ev f y=some (.int k n)) :
  SU P N ⟨dst,.binOp .or T x y U,ty,pos,af,gd⟩ f (.int k (k.wrap (BitVec.ofInt k.bits m ||| BitVec.ofInt k.bits n).toNat)):=fun a w ha=>by
 simp only[execOp,ha.ev hx,ha.ev hy,eqGuard,binOp,ne_eq,not_true_eq_false,if_false,Op.intBits]; rfl
theorem SU.txtAt {x y:Operand}{T:TypeId}{l:List UInt8}{i:Int}{b:UInt8}(hT:P.underlying T=some .string)(hx:ev f x=some (txt l))(hy:ev f y=some (vi i))(h0:0≤i)(hb:l[i.toNat]?=some b) :
  SU P N ⟨dst,.index T x y,ty,pos,af,gd⟩ f (.int .u8 b.toNat):=fun a w ha=>by
 have h1:(⟨l.toArray⟩:ByteArray)[i.toNat]?=some b:=by
  obtain ⟨hlt,he⟩:=zf2.1 hb;rw[getElem?_pos _ _ (by simpa [ByteArray.size] using hlt)];exact zd8 some he
 simp only[execOp,ha.ev hx,ha.ev hy,Instr.index,Sem.run_bind,asIntOf,Sem.run_pure,zc7,run_underlying hT,txt,zf7 h0,h1]
theorem SU.lenTxt {x:Operand}{T:TypeId}{l:List UInt8}(hT:P.underlying T=some .string)(hx:ev f x=some (txt l)) :
  SU P N ⟨dst,.call ⟨.builtin .len,#[x],#[T]⟩,ty,pos,af,gd⟩ f (vi l.length):=fun a w ha=>by
 have hs:(⟨l.toArray⟩:ByteArray).size=l.length:=List.size_toArray;have h1:=ha.ev hx;unfold txt at h1;simp[execOp,resolve,invoke,builtin,h1,Builtin.len_,run_underlying hT,goInt,hs]
end
end Go.Sy
namespace Go.Proofs.YtkbagdedfdfjhaaGreatDoor
open _root_.Go.Proofs.Tryz _root_.Go.Proofs.YtkbagdedfdfjhaaGreatDoor.Tryz
open Go Go.Sy Go.Pl Go.Proofs Go.Shelf
set_option maxRecDepth 100000
set_option maxHeartbeats 1000000
theorem FJ {f:Fr}{t:Nat}{a b:Int}(h:bk f t=some (vi a))(e:a=b):bk f t=some (vi b):=e ▸ h
theorem Tryz.sty162:STy Tryz.prog 162 160 1 8 (.int .u64 0):=⟨underlying162,⟨t160,by kernel_rfl,by kernel_rfl,by kernel_rfl,by kernel_rfl⟩,rfl,by decide⟩
theorem Tryz.sty210:STy Tryz.prog 210 5 1 1 (.int .u8 0):=⟨underlying210,⟨t5,by kernel_rfl,by kernel_rfl,by kernel_rfl,by kernel_rfl⟩,rfl,by decide⟩
def dY (l:List Int):List Int:=(l.reverse.dropWhile (· == 0)).reverse
theorem y9 {m:List Int}(h:0<m.length)(h0:m.getD (m.length - 1) 1=0):dY (m.take (m.length - 1))=dY m:=by
 rcases List.eq_nil_or_concat m with rfl | ⟨a,x,rfl⟩
 ·simp at h
 ·have hx:x=0:=by simpa [zg7] using h0
  subst hx;simp[dY]
theorem y8 {m:List Int}(h:(decide ((m.length:Int)>0)&&decide (m.getD (m.length - 1) 1=0))=false):dY m=m:=by
 rcases List.eq_nil_or_concat m with rfl | ⟨a,x,rfl⟩
 ·rfl
 ·have hx:x≠0:=by simpa [zg7] using h
  simp[dY,hx]
theorem lE (E:World)(g:PH)(s:Own)(v:Value)(l:List Int)(hv:SlA ij g v l)(hl:l.length<1099511627776) :
  Ctr Tryz.prog E 161 #[v] g s (fun r g' s'=>g=g'∧s=s'∧SlA ij g r (dY l)):=by
 refine za9 (args:=[v]) func161 I ntmps161 (bE I) ?_;refine rZ (aT I (sQ (bK ?_)));refine oP (ι:=Value×List Int) (fun i=>[(0,i.1)]) (fun _=>g) (fun _=>s) (fun i=>SlA ij g i.1 i.2∧dY i.2=dY l∧i.2.length≤l.length) (fun i=>i.2.length) (v,l) ⟨I,trivial⟩ I I ⟨hv,I,lR _⟩ ?_;rintro ⟨v1,m⟩ ⟨hm,htr,hle⟩;dsimp only at hm htr hle ⊢;obtain ⟨p,c,rfl⟩:=za2 hm;have hcap:=(SlA.cap hm).2;have f1:(m.length:Int)>0→(decide ((m.length:Int)>0)&&decide (m.getD (m.length - 1) 1=0))=decide (m.getD (m.length - 1) 1=0):=fun h=>by rw[zf5 h,Bool.true_and]
 have f2:¬ (m.length:Int)>0→(decide ((m.length:Int)>0)&&decide (m.getD (m.length - 1) 1=0))=false:=fun h=>by simp only[h,decide_false,Bool.false_and]
 have hgl:(m.length:Int)>0→m[((m.length:Int) - 1).toNat]?=some (m.getD (m.length - 1) 1):=fun h=>by
  have h1:((m.length:Int) - 1).toNat=m.length - 1:=oM;have h2:m.length - 1<m.length:=oM;rw[h1,zg7,gE h2]; rfl
 have hbs:(m.length:Int)>0→based (.slice p m.length c)=true:=fun h=>za4 hm oM;refine sQ ?_;refine SC.cutB 14 ((decide ((m.length:Int)>0)&&decide (m.getD (m.length - 1) 1=0))) ?_ ?_
 ·refine rG (lM I (lU (eN bw I) (lU (gR I I) (lM I ?_))));refine sP ?_ ?_
  ·intro h6;refine yC I (yC I (lY I I I (eN bw I) (lY I I I (sU I I oM) (lY I I I (iA bw ee I I (hbs h6) oM sL) (SL.gq (gT I I I dC) (eB isAgg160 I (za5 hm) (hgl h6) I) dC (lY I I I (eQ I I) (yP I (nL ?_))))))));exact za8 (by (rw[f1 h6]; rfl)) mI
  ·intro h6;refine yA I (yA I (yA I (yA I (yA I (yA I (yA I (yF I (nL ?_))))))));exact za8 (by (rw[f2 h6]; rfl)) mI
 refine iQ I (fun hc=>?_) (fun hc=>?_)
 ·rw[zi9,zj3,zj3] at hc;obtain ⟨hpos,hlast⟩:=hc;have h1:((m.length:Int) - 1).toNat=m.length - 1:=oM;refine kP (tN (bK (rG (lM I (lM I (lU (eN bw I) (lU (sU I I oM) (lU (SU.sliceH bw ee I I oM oM) (lA I (nL (bN ?_)))))))))));refine gA (sliced p 0 ((m.length:Int) - 1).toNat c 1,m.take (m.length - 1)) ⟨I,trivial⟩ I I ⟨?_,?_,?_⟩ (by dsimp only; rw[ze1]; omega)
  ·have:=SlA.cut hm (l:=0) (m:=m.length - 1) (zf3 _) oM;dsimp only;rw[h1];simpa using this
  ·dsimp only; rw[y9 oM hlast]; exact htr
  ·dsimp only; rw[ze1]; omega
 ·refine xI (tX (tX (bX (tN (sW I (aT I (rE ?_)))))));exact za6 (.inl I) results161 I ⟨I,I,by rw[← htr,y8 hc]; exact hm⟩
theorem tj (E:World)(g:PH)(s:Own)(v:Value)(hv:v.cells = #[v]) :
  Ctr Tryz.prog E 162 #[v] g s (fun r g' s'=>s=s'∧Le g g'∧∃ b,r = .func (.func 206) #[] #[pp b 0]∧g' b=some (.cells #[v] 162 (0,0))):=by
 refine za9 (args:=[v]) func162 I ntmps162 (bE I) ?_;refine rZ (bW (bO I) fun b1=>?_);refine aT I (rZ (lU (SU.mkFunc I) (aT I (rE ?_))));rw[hv];refine ST.freeze fun g1 hle hb=>?_;exact za6 (.inl I) results162 I ⟨I,hle,_,I,hb⟩
def tx (l:List Int):List (Nat×Int):=(l.zipIdx.map fun p=>(p.2,p.1)).reverse
theorem pA (l:List Int):(tx l).length=l.length:=by simp[tx]
theorem DU {l:List Int}{k:Nat}(h:k<l.length):(tx l)[l.length - 1 - k]?=some (k,l[k]):=by
 unfold tx;rw[List.getElem?_reverse (by simp; omega)];simp only[ze3,List.length_zipIdx];rw[show l.length - 1 - (l.length - 1 - k)=k by omega];simp[h]
theorem qG (E:World)(g0:PH)(b:Nat)(v:Value)(l:List Int)(hb:g0 b=some (.cells #[v] 162 (0,0)))(hv:SlA ij g0 v l)(hl:l.length<1099511627776) :
  GX Tryz.prog E 206 [pp b 0] (fun x:Nat×Int=>[vi x.1,.int .u64 x.2]) (tx l) g0:=by
 intro k ι G S J i0 h0 hmono hY sx;obtain ⟨p,c,rfl⟩:=za2 hv;refine Ctr.ofX (args:=[.func (.yield k) #[] #[],pp b 0]) func206 I ntmps206 (bE I) ?_;refine XC.seq ?_;refine XC.region ?_;refine XL.q (qL (v:=.slice p l.length c) isAgg162 I (cK (hmono _ _ h0 _ _ hb) I)) dC ?_;refine XL.u (eN bw I) dC ?_;refine XL.u (sU I I oM) dC ?_;refine XL.u (aS I) dC ?_;refine XL.nil ?_;refine XT.thenN ?_;refine XC.block ?_;refine XC.loop (ι:=ι×Nat) (fun i=>[(0,.func (.yield k) #[] #[]),(1,pp b 0),(3,vi ((i.2:Int) - 1))]) (fun i=>G i.1) (fun i=>S i.1++sx) (fun i=>i.2≤l.length∧J ((tx l).take (l.length - i.2)) i.1) (fun i=>i.2) (i0,l.length)
  sB rfl rfl ⟨lR _,by simpa using h0⟩ ?_
 rintro ⟨j,n⟩ ⟨hn,hJ⟩;dsimp only at hn hJ ⊢;have hle:=hmono _ _ hJ;refine XC.seq ?_;refine XC.seq ?_;refine XC.region ?_;refine XL.u (mV I) dC ?_;refine XL.u (gQ I I) dC ?_;refine XL.nil ?_;refine XT.thenN ?_;refine XC.ifP I (fun hge=>?_) (fun hge=>?_)
 ·have hn1:n - 1<l.length:=oM;have hv':=za3 hv hle;have hb1:=za4 hv' oM;have hgx:l[((n:Int) - 1).toNat]?=some l[n - 1]:=by rw[show ((n:Int) - 1).toNat=n - 1 by omega]; exact gE hn1
  have hrg:=DU hn1;rw[show l.length - 1 - (n - 1)=l.length - n by omega] at hrg;have hsp:tx l=(tx l).take (l.length - n)++(n - 1,l[n - 1])::(tx l).drop (l.length - n+1):=by
   obtain ⟨h1,h2⟩:=zf2.1 hrg;rw[← h2,List.getElem_cons_drop,zi8]
  have hy:=hY _ _ _ j sx hsp hJ;have htk:(tx l).take (l.length - (n - 1))=(tx l).take (l.length - n)++[(n - 1,l[n - 1])]:=by
   obtain ⟨h1,h2⟩:=zf2.1 hrg;rw[show l.length - (n - 1)=l.length - n+1 by omega,tS h1,h2]
  generalize l[n - 1]=x at *;have hvn:vi ((n - 1:Nat):Int)=vi ((n:Int) - 1):=zd8 vi oM;dsimp only at hy;rw[hvn] at hy;refine XC.skip ?_;refine XT.thenN ?_;refine XC.seq ?_;refine XC.block ?_;refine XC.seq ?_;refine XC.region ?_;refine XL.u (mV I) dC ?_;refine XL.u (mV I) dC ?_;refine XL.q (qL (v:=.slice p l.length c) isAgg162 I (cK (hle _ _ hb) I)) dC ?_;refine XL.u (mV I) dC ?_;refine XL.u (iA bw ee I I hb1 oM sL) dC ?_;refine XL.q (eB isAgg160 I (za5 hv') hgx I) dC ?_;refine XL.x (XO.yield I I hy) dC ?_;rintro _ _ _ ⟨rfl,j',hJ',rfl,rfl⟩;refine XL.u (SU.not I) dC ?_;refine XL.nil ?_;refine XT.thenN ?_;refine XC.condF I ?_;refine XC.skip ?_;refine XT.blockN ?_;refine XT.thenN ?_;refine XC.region ?_;refine XL.u (mV I) dC ?_;refine XL.u (sU I I oM) dC ?_;refine XL.u (aS I) dC ?_;refine XL.nil ?_;exact XT.again (j',n - 1) ⟨I,I,FJ I oM,trivial⟩ I I ⟨by dsimp only; omega,by dsimp only; rw[htk]; exact hJ'⟩ (by dsimp only; omega)
 ·have hn0:n=0:=oM;subst hn0;refine XC.exit ?_;refine XT.thenX ?_;refine XT.thenX ?_;refine XT.blockX ?_;exact XT.leave0 (.inr I) (ST.ret0 (.inr I) results206 ⟨j,by have:=hJ; rwa [tL (by rw[pA]; omega)] at this,I,I⟩)
def wJ:Ren :=
 {
  f:=fun x =>
   match x with
   | 161=>163
   | 231=>207
   | 227=>208
   | 233=>209
   | 235=>210
   | 228=>229
   | 197=>230
   | 151=>231
   | 260=>240
   | 152=>241
   | 137=>242
   | 119=>243
   | 224=>244
   | 225=>245
   | 217=>246
   | 266=>247
   | n=>n,
  t:=fun x =>
   match x with
   | 9=>9
   | 4=>4
   | 3=>3
   | 5=>5
   | 117=>249
   | 116=>248
   | 0=>0
   | 124=>252
   | 105=>270
   | 21=>21
   | 119=>280
   | 46=>133
   | 139=>283
   | 138=>282
   | n=>n,
  g:=fun x =>
   match x with
   | 3=>0
   | 4=>1
   | n=>n }
theorem Tryz.lays161:Lays.n161 Tryz.prog wJ :=
  {
  mixed:=Eq.refl true,f119:=zb6 func243 (zd8 some kR),
  f137:=zb6 func242 (zd8 some kR),
  f151:=zb6 func231 (zd8 some kR),
  f152:=zb6 func241 (zd8 some kR),
  f161:=zb6 func163 (zd8 some kR),
  f197:=zb6 func230 (zd8 some kR),
  f217:=zb6 func246 (zd8 some kR),
  f224:=zb6 func244 (zd8 some kR),
  f225:=zb6 func245 (zd8 some kR),
  f227:=zb6 func208 (zd8 some kR),
  f228:=zb6 func229 (zd8 some kR),
  f231:=zb6 func207 (zd8 some kR),
  f233:=zb6 func209 (zd8 some kR),
  f235:=zb6 func210 (zd8 some kR),
  f260:=zb6 func240 (zd8 some kR),
  f266:=zb6 func247 (zd8 some kR),t0:=underlying0,
  a0:=isAgg0,z0:=sizeOf0,v0:=zeroValue0,t3:=uT3,a3:=iT3,
  z3:=zT3,v3:=zl6,t4:=uT4,a4:=isAgg4,z4:=zT4,
  v4:=zeroValue4,t5:=uT5,a5:=isAgg5,z5:=sizeOf5,v5:=zeroValue5,
  t9:=uT9,a9:=isAgg9,z9:=sizeOf9,v9:=zeroValue9,t21:=underlying21,
  a21:=isAgg21,z21:=sizeOf21,v21:=zeroValue21,t46:=iU,a46:=isAgg133,
  z46:=sizeOf133,v46:=zeroValue133,t105:=underlying270,a105:=isAgg270,
  z105:=sizeOf270,v105:=zeroValue270,t116:=underlying248,a116:=isAgg248,
  z116:=sizeOf248,t117:=underlying249,a117:=isAgg249,z117:=sizeOf249,
  v117:=zeroValue249,t119:=underlying280,a119:=isAgg280,z119:=sizeOf280,
  t124:=underlying252,a124:=isAgg252,z124:=sizeOf252,v124:=zeroValue252,
  t138:=underlying282,a138:=isAgg282,z138:=sizeOf282,v138:=zeroValue282,
  t139:=underlying283,a139:=isAgg283,z139:=sizeOf283,v139:=zeroValue283,
  g3:=kR,g4:=kR }
def m7 (l:List UInt8):List UInt8:=l.dropWhile (· == 0)
theorem s3 (E:World)(g:PH)(s:Own)(l:List UInt8) :
  Ctr Tryz.prog E 163 #[txt l,txt [0]] g s (fun r g' s'=>r=txt (m7 l)∧g=g'∧s=s'):=by
 intro w hw;refine (Any.strings_TrimLeft_one lays161 ⟨l.toArray⟩ 0 dC w).mono ?_;rintro e w' ⟨rfl,rfl⟩;exact⟨_,g,s,I,hw,I,I,I⟩
def by4 (x:Int):List Int:=[IntKind.u8.wrap (x.fdiv (2 ^ min (24:Int).toNat IntKind.u64.bits)),IntKind.u8.wrap (x.fdiv (2 ^ min (16:Int).toNat IntKind.u64.bits)),IntKind.u8.wrap (x.fdiv (2 ^ min (8:Int).toNat IntKind.u64.bits)),IntKind.u8.wrap x]
def byP (x:Nat×Int):List Int:=by4 x.2
theorem z7 (l:List (Nat×Int)):(l.flatMap byP).length=4 * l.length:=by
 induction l with
 | nil=>rfl
 | cons a t ih=>simp only[zh2,ze2,ih,ze5,byP,by4,zc1]; omega
theorem Dt (l:List Int):(dY l).length≤l.length:=by
 unfold dY;rw[List.length_reverse];have:=(List.dropWhile_sublist (l:=l.reverse) (· == 0)).length_le;simpa using this
def iy (l:List Int):List UInt8:=m7 (byt ((tx (dY l)).flatMap byP))
def vU (neg:Bool)(bs:List UInt8):Value:=.agg #[vb (neg&&decide (bs≠[])),txt bs]
theorem Tryz.build121 (a:Bool)(l:List UInt8)(w:World):(Instr.build 121 #[(0,vb a),(1,txt l)]).run Tryz.prog w = .ok (.agg #[vb a,txt l]) w:=by
 have h1:(vb a).cells = #[vb a]:=rfl;have h2:(txt l).cells = #[txt l]:=rfl;simp[Instr.build,Instr.fill,h1,h2];rfl
theorem fl (E:World)(g:PH)(s:Own)(v:Value)(l:List Int)(neg:Bool)(hv:SlA ij g v l)(hl:l.length<1099511627776) :
  Ctr Tryz.prog E 118 #[v,vb neg] g s (fun r g' s'=>r=vU neg (iy l)∧s=s'∧Le g g'):=by
 have htl:=Dt l;refine Ctr.ofX (args:=[v,vb neg]) func118 I ntmps118 (bE I) ?_;refine XC.seq ?_;refine XC.region ?_;refine XL.o (aL zl3) dC ?_;rintro _ _ _ ⟨b4,rfl,rfl,rfl⟩;refine XL.nil ?_;refine XT.thenN ?_;refine XC.seq ?_;refine XC.region ?_;refine XL.u (mV I) dC ?_;refine XL.o (cL call161 I (lE E g _ v l hv hl)) dC ?_;rintro v10 _ _ ⟨rfl,rfl,hm⟩;obtain ⟨q,d,rfl⟩:=za2 hm;refine XL.u (aS I) dC ?_;refine XL.nil ?_;refine XT.thenN ?_;refine XC.seq ?_;refine XC.region ?_;refine XL.u (mV I) dC ?_;refine XL.u (eN bw I) dC ?_;refine XL.u (SU.eq (v':=vi ((4 * (dY l).length:Nat))) (SU.mul I I oM) (zd8 vi oM)) dC ?_;refine XL.o (SO.makeC yY sty210 I I oM oM) dC ?_;rintro v14 _ _ ⟨rfl,rfl⟩;refine XL.facts fun ⟨w0,hw0⟩=>?_;obtain ⟨p14,c14,rfl⟩:=ah (i:=0) hw0 rfl;clear hw0 w0;refine XL.o (aL zeroValue210) dC ?_;rintro _ _ _ ⟨b5,rfl,rfl,rfl⟩;refine XL.on (sK 0 sizeOf210 I I I I I sB) ?_;rintro _ _ _ ⟨rfl,rfl⟩;refine XL.nil ?_;refine XT.thenN ?_;refine XC.seq ?_;refine XC.seq ?_;refine XC.region ?_;refine XL.u (mV I) dC ?_;refine XL.o (cL call162 I (tj E _ _ _ I)) dC ?_;rintro _ g1 _ ⟨rfl,hle,bb,rfl,hbb⟩;refine XL.nil ?_;refine XT.thenN ?_;refine XC.block ?_;refine XC.to (g':=g1) (s':=rowA yY 5 (.slice p14 0 c14) []::pt b5 (.cells #[.slice p14 0 c14] 210 (0,0))::pt b4 (.cells #[vb false,txt []] 121 (0,0))::s) (fun w hw=>hw.perm (zj7 _ _ _)) ?_;refine XC.rangeFunc (α:=Nat×Int) (ι:=Value×List Int) (encs:=fun x=>[vi x.1,.int .u64 x.2]) (xs:=tx (dY l)) (g0:=g1) (fun _=>g1) (fun i=>rowA yY 5 i.1 i.2::pt b5 (.cells #[i.1] 210 (0,0))::pt b4 (.cells #[vb false,txt []] 121 (0,0))::[]) (fun pre i=>i.2=pre.flatMap byP) (.slice p14 0 c14,[]) s
  (fun x=>[(18,.int .u64 x.2),(17,vi x.1),(5,pp b5 0)]) (fun _ x _=>[(7,.int .u64 x.2),(5,pp b5 0)]) rfl rfl call206 (fun _=>rfl) rfl rfl (qG E g1 bb _ _ hbb (za3 hm hle) oM) (fun _ _ _=>zb7 _) rfl
  (fun x a h=>Gf (h.sub (g:=[(5,pp b5 0)]) ⟨rfl,trivial⟩) dC dC) ?_ ?_ ?_
 ·intro k pre x i sx hJ;refine XC.region ?_;refine XL.u (aS I) dC ?_;refine XL.nil ?_;exact XT.assignEnd sB
 ·rintro k pre ⟨xi,x⟩ suf ⟨bv,bs⟩ sx hxs hJ;dsimp only at hJ ⊢;have hpl:pre.length<(dY l).length:=by
   have:=zd8 List.length hxs;rw[pA,ze2,ze5] at this;omega
  have hbl:bs.length=4 * pre.length:=by rw[hJ,z7]
  refine XC.facts fun ⟨w0,hw0⟩=>?_;obtain ⟨q2,d2,rfl⟩:=ah (i:=0) hw0 rfl;clear hw0 w0;refine XC.block ?_;refine XC.region ?_;refine XL.q (qL (v:=.slice q2 bs.length d2) isAgg210 I (cO 1 I I)) dC ?_;refine XL.u (mV I) dC ?_;refine XL.u (SU.shr I I dC) dC ?_;refine XL.u (zd5 ol uT5 I) dC ?_;refine XL.u (mV I) dC ?_;refine XL.u (SU.shr I I dC) dC ?_;refine XL.u (zd5 ol uT5 I) dC ?_;refine XL.u (mV I) dC ?_;refine XL.u (SU.shr I I dC) dC ?_;refine XL.u (zd5 ol uT5 I) dC ?_;refine XL.u (mV I) dC ?_;refine XL.u (zd5 ol uT5 I) dC ?_;refine XL.o (bS sty210 I I I (ae sB) dC) dC ?_;rintro _ _ _ ⟨b31,rfl,rfl,rfl⟩;refine XL.to (fun w hw=>At.litRow (e:=yY) (l:=by4 x) (n:=3) hw I I dC) ?_;refine XL.o (SO.appendE (m:=4) 1 (bs++by4 x).length ((bs++by4 x).flatMap yY.enc) sty210 I I I I I (zb5 0 I) (yY.length (by4 x)) (yY.ones _) (by simp[by4]) (by simp) (by simp[by4]; omega) (by simp[by4]; omega)) dC ?_;rintro v32 _ _ ⟨rfl,rfl⟩;refine XL.facts fun ⟨w0,hw0⟩=>?_;obtain ⟨q3,d3,rfl⟩:=ah (e:=yY) (l:=bs++by4 x) (i:=1) hw0 rfl;clear hw0 w0;refine XL.on (sK 2 sizeOf210 I I I I I sB) ?_;rintro _ _ _ ⟨rfl,rfl⟩;refine XL.nil ?_;refine XT.blockN ?_;refine XT.drop (zi7 _ _) ?_;exact XT.roundEnd (.slice q3 (bs++by4 x).length d3,bs++by4 x) I I (by dsimp only; rw[List.flatMap_append,hJ]; simp[byP])
 ·rintro D ⟨bv,bs⟩ hJ;dsimp only at hJ ⊢;refine XT.facts fun ⟨w0,hw0⟩=>?_;obtain ⟨q2,d2,rfl⟩:=ah (i:=1) hw0 rfl;clear hw0 w0;refine XT.blockN ?_;refine XT.thenN ?_;refine XC.seq ?_;refine XC.region ?_;refine XL.q (qL (v:=.slice q2 bs.length d2) isAgg210 I (cO 2 I I)) dC ?_;refine XL.q (SQ.bytesText underlying210 uT5 uT9 I (zb5 1 I)) dC ?_;refine XL.o (cL call163 I (s3 E g1 _ (byt bs))) dC ?_;rintro _ _ _ ⟨rfl,rfl,rfl⟩;refine XL.u (aS I) dC ?_;refine XL.nil ?_;refine XT.thenN ?_;have hbs:m7 (byt bs)=iy l:=by unfold iy; rw[hJ]
  rw[hbs];generalize iy l=T at *;cases neg
  ·refine XC.seq ?_;refine XC.region ?_;refine XL.u (mV I) dC ?_;refine XL.u (mV I) dC ?_;refine XL.off (gZ I I I dC) dC ?_;refine XL.off (gZ I I I dC) dC ?_;refine XL.u (wF I I) dC ?_;refine XL.u (mV I) dC ?_;refine XL.u (za1 I (build121 _ _)) dC ?_;refine XL.on (sK 3 dX I I I I I sB) ?_;rintro _ _ _ ⟨rfl,rfl⟩;refine XL.nil ?_;refine XT.thenN ?_;refine XC.ret ?_;exact XT.leave1 (.inl I) (ST.retCD 2 s (.inl I) results118 I isAgg121 dX I I (.cons _ (.cons _ (.cons _ (.refl _)))) ⟨I,I,hle⟩)
  ·refine XC.seq ?_;refine XC.region ?_;refine XL.u (mV I) dC ?_;refine XL.u (mV I) dC ?_;refine XL.gu (gT I I I dC) (mV I) dC ?_;refine XL.gu (gT I I I dC) (SU.neqT I I) dC ?_;refine XL.u (wT I I) dC ?_;refine XL.u (mV I) dC ?_;refine XL.u (za1 I (build121 _ _)) dC ?_;refine XL.on (sK 3 dX I I I I I sB) ?_;rintro _ _ _ ⟨rfl,rfl⟩;refine XL.nil ?_;refine XT.thenN ?_;refine XC.ret ?_;exact XT.leave1 (.inl I) (ST.retCD 2 s (.inl I) results118 I isAgg121 dX I I (.cons _ (.cons _ (.cons _ (.refl _)))) ⟨I,I,hle⟩)
open Go Go.Sy Go.Pl Go.Proofs
theorem SU.negK {P:Program}{N:Nat}{f:Fr}{dst:Option Tmp}{ty:TypeId}{pos:String}{af:Array Edge}{gd:Option (Nat×Bool)}{x:Operand}{T:TypeId}{k:IntKind}{n:Int}(hx:ev f x=some (.int k n)):SU P N ⟨dst,.unOp .neg T x,ty,pos,af,gd⟩ f (.int k (k.wrap (0 - n))):=fun a w ha=>by
 simp only[execOp,ha.ev hx]; rfl
theorem xj (n:Int):IntKind.u64.wrap n=n % 18446744073709551616:=by simp[IntKind.wrap,IntKind.bits,IntKind.signed]
theorem tr (m:Nat)(h:m<18446744073709551616):IntKind.u64.wrap (BitVec.ofInt IntKind.u64.bits (m:Int) &&& BitVec.ofInt IntKind.u64.bits 4294967295).toNat=((m % 4294967296:Nat):Int):=by
 have h1:(BitVec.ofInt IntKind.u64.bits (m:Int) &&& BitVec.ofInt IntKind.u64.bits 4294967295).toNat=m % 4294967296:=by
  have hb:IntKind.u64.bits=64:=rfl;rw[hb,BitVec.toNat_and];have e1:(BitVec.ofInt 64 (m:Int)).toNat=m:=by
   rw[BitVec.toNat_ofInt];omega
  have e2:(BitVec.ofInt 64 4294967295).toNat=2 ^ 32 - 1:=by decide
  rw[e1,e2,Nat.and_two_pow_sub_one_eq_mod]
 rw[h1];exact IntWalk.u64_in _ oM
theorem HB (m:Nat):((m:Nat):Int).fdiv (2 ^ min (32:Int).toNat IntKind.u64.bits)=((m / 4294967296:Nat):Int):=by
 have h1:((2:Int) ^ min (32:Int).toNat IntKind.u64.bits)=4294967296:=by decide
 rw[h1,Int.fdiv_eq_ediv_of_nonneg _ dC];omega
def uL (n:Int):List Int:=[((n.natAbs % 4294967296:Nat):Int),((n.natAbs / 4294967296:Nat):Int)]
theorem Et (E:World)(g:PH)(s:Own)(n:Int)(h0 : -9223372036854775808≤n)(h1:n<9223372036854775808) :
  Ctr Tryz.prog E 70 #[vi n] g s (fun r g' s'=>r=vU (decide (n<0)) (iy (uL n))∧s=s'∧Le g g'):=by
 refine za9 (args:=[vi n]) func70 I ntmps70 (bE I) ?_;refine rZ (bW (aL zl3) fun b2=>?_);refine tZ (sW I (lU (zd5 uT3 ol I) (aT I ?_)));refine SC.cut (ι:=Unit) (fun _=>[(0,vi n),(2,pp b2 0),(3,.int .u64 (n.natAbs:Int))]) (fun _=>g) (fun _=>pt b2 (.cells #[vb false,txt []] 121 (0,0))::s) (fun _=>True) ?_ ?_
 ·refine sW I (yL I (tZ ?_));refine iP I (fun hn=>?_) (fun hn=>?_)
  ·have hw:IntKind.u64.wrap (0 - IntKind.u64.wrap n)=(n.natAbs:Int):=by
    rw[xj,xj]; omega
   refine rG (lM I (lU (SU.negK I) (lA I (nL ?_))));exact za7 () ⟨I,I,by rw[← hw]; rfl,trivial⟩ rfl rfl trivial
  ·have hw:IntKind.u64.wrap n=(n.natAbs:Int):=by
    rw[xj]; omega
   refine kP ?_;exact za7 () ⟨I,I,by rw[← hw]; rfl,trivial⟩ rfl rfl trivial
 rintro _ -;try dsimp only
 refine sW I (lU (SU.eq (v':=.int .u64 ((n.natAbs % 4294967296:Nat):Int)) (SU.and I I) (zd8 _ (tr _ oM))) (lM I (lU (SU.eq (v':=.int .u64 ((n.natAbs / 4294967296:Nat):Int)) (SU.shr I I dC) (zd8 _ (HB _))) (lW (bS sty162 I I I (ae sB) dC) ?_))));rintro _ _ _ ⟨b14,rfl,rfl,rfl⟩;refine zb3 fun g1 hle1 hb=>?_;refine lM I (yL I (lW (cL call118 I (fl E g1 _ _ (uL n) _ (SlA.lit hb I I) (by simp[uL]))) ?_));rintro _ g2 _ ⟨rfl,rfl,hle2⟩;refine oZ (sK 0 dX I I I I I sB) ?_;refine tZ (rE ?_);exact ST.retCD 0 s (.inl I) results70 I isAgg121 dX I I uR ⟨I,I,hle1.trans hle2⟩
theorem pG {a b:Nat}(h:a % 256=b % 256):UInt8.ofNat a=UInt8.ofNat b:=by
 apply UInt8.toNat.inj;simpa using h
theorem u8w (k:Nat):IntKind.u8.wrap (k:Int)=((k % 256:Nat):Int):=by simp[IntKind.wrap,IntKind.bits,IntKind.signed]
theorem D4 (k:Nat):UInt8.ofNat (IntKind.u8.wrap (k:Int)).toNat=UInt8.ofNat k:=by
 rw[u8w,Int.toNat_natCast]; exact pG oM
theorem nM (k e:Nat):(k:Int).fdiv ((e:Nat):Int)=((k / e:Nat):Int):=by
 rw[Int.fdiv_eq_ediv_of_nonneg _ oM]; simp
theorem Bw (k:Nat):byt (by4 (k:Int))=[UInt8.ofNat (k / 16777216),UInt8.ofNat (k / 65536),UInt8.ofNat (k / 256),UInt8.ofNat k]:=by
 have h1:((2:Int) ^ min (24:Int).toNat IntKind.u64.bits)=((16777216:Nat):Int):=by decide
 have h2:((2:Int) ^ min (16:Int).toNat IntKind.u64.bits)=((65536:Nat):Int):=by decide
 have h3:((2:Int) ^ min (8:Int).toNat IntKind.u64.bits)=((256:Nat):Int):=by decide
 unfold by4;rw[h1,h2,h3,nM,nM,nM];simp only[byt,zg1,List.map_nil,D4]
def beK:Nat→Nat→List UInt8
 | 0,_=>[]
 | k+1,m=>beK k (m / 65536)++[UInt8.ofNat (m / 256),UInt8.ofNat m]
def j5 (m:Nat):List UInt8:=m7 (beK 4 m)
theorem yQ:∀ k,m7 (beK k 0)=[]
 | 0=>rfl
 | k+1=>by
  have ih:=yQ k;unfold m7 at *;rw[beK,List.dropWhile_append,ih];rfl
theorem G6 {a:Int}(h:a≠0):dY [a,0]=[a]:=by simp[dY,h]
theorem G5 {a b:Int}(h:b≠0):dY [a,b]=[a,b]:=by simp[dY,h]
theorem ph (n:Int)(h:n.natAbs<18446744073709551616):iy (uL n)=j5 n.natAbs:=by
 obtain ⟨m,hm⟩:∃ m,m=n.natAbs:=⟨_,rfl⟩;unfold uL;rw[← hm] at h ⊢;have hlo:=Bw (m % 4294967296);have hhi:=Bw (m / 4294967296);have hbe:beK 4 m=[UInt8.ofNat (m / 4294967296 / 16777216),UInt8.ofNat (m / 4294967296 / 65536),UInt8.ofNat (m / 4294967296 / 256),UInt8.ofNat (m / 4294967296),UInt8.ofNat (m % 4294967296 / 16777216),UInt8.ofNat (m % 4294967296 / 65536),UInt8.ofNat (m % 4294967296 / 256),UInt8.ofNat (m % 4294967296)]:=by
  simp only[beK,List.nil_append,List.cons_append];refine congr (zd8 List.cons ?_) (congr (zd8 List.cons ?_) (congr (zd8 List.cons ?_) (congr (zd8 List.cons ?_) (congr (zd8 List.cons ?_) (congr (zd8 List.cons ?_) (congr (zd8 List.cons ?_) (congr (zd8 List.cons ?_) I)))))))
  all_goals exact pG oM
 unfold j5 iy;rw[hbe];by_cases h1:m / 4294967296=0
 ·by_cases h2:m % 4294967296=0
  ·rw[h1,h2]; rfl
  ·have ht:dY [((m % 4294967296:Nat):Int),((m / 4294967296:Nat):Int)]=[((m % 4294967296:Nat):Int)]:=by
    rw[h1];exact G6 oM
   rw[ht];show m7 (byt (by4 _++[]))=_;rw[zc3,hlo,h1];rfl
 ·have ht:dY [((m % 4294967296:Nat):Int),((m / 4294967296:Nat):Int)]=[((m % 4294967296:Nat):Int),((m / 4294967296:Nat):Int)]:=by
   exact G5 oM
  rw[ht];show m7 (byt (by4 _++(by4 _++[])))=_;rw[zc3];have:byt (by4 ((m / 4294967296:Nat):Int)++by4 ((m % 4294967296:Nat):Int))=byt (by4 ((m / 4294967296:Nat):Int))++byt (by4 ((m % 4294967296:Nat):Int)):=by simp[byt]
  rw[this,hhi,hlo];rfl
def qg (n:Int):Value:=vU (decide (n<0)) (j5 n.natAbs)
theorem un (E:World)(g:PH)(s:Own)(n:Int)(h0 : -9223372036854775808≤n)(h1:n<9223372036854775808) :
  Ctr Tryz.prog E 70 #[vi n] g s (fun r g' s'=>r=qg n∧s=s'∧Le g g') :=
 (Et E g s n h0 h1).mono fun _ _ _ ⟨h2,h3⟩=>⟨by rw[h2,ph _ oM]; rfl,h3⟩
def beN (l:List UInt8):Nat:=l.foldl (fun a b=>a * 256+b.toNat) 0
theorem nO (l:List UInt8)(b:UInt8):beN (l++[b])=beN l * 256+b.toNat:=by simp[beN]
theorem C5 (l:List UInt8):beN (m7 l)=beN l:=by
 induction l with
 | nil=>rfl
 | cons b t ih =>
  unfold m7 at *;rw[List.dropWhile_cons];split
  ·rename_i h;have hb:b=0:=by simpa using h
   subst hb;rw[ih];rfl
  ·rfl
theorem pF (k:Nat):(UInt8.ofNat k).toNat=k % 256:=by simp
theorem BA:∀ (k m:Nat),m<65536 ^ k→beN (beK k m)=m
 | 0,m,h=>by
  have:m=0:=by simpa using h
  subst this;rfl
 | k+1,m,h=>by
  have ih:=BA k (m / 65536) (by rw[Nat.div_lt_iff_lt_mul dC]; rwa [Nat.pow_succ] at h);rw[beK,show beK k (m / 65536)++[UInt8.ofNat (m / 256),UInt8.ofNat m]=(beK k (m / 65536)++[UInt8.ofNat (m / 256)])++[UInt8.ofNat m] by simp,nO,nO,ih,pF,pF];omega
theorem nP {m:Nat}(h:m<18446744073709551616):beN (j5 m)=m:=by
 unfold j5;rw[C5];exact BA 4 m h
theorem su {m:Nat}(h:m<4294967296):(j5 m).length≤4:=by
 have h1:m / 65536 / 65536=0:=oM;have h2:beK 4 m=beK 2 0++([UInt8.ofNat (m / 65536 / 256),UInt8.ofNat (m / 65536)]++[UInt8.ofNat (m / 256),UInt8.ofNat m]):=by
  rw[beK,beK,h1,zg5]
 unfold j5;rw[h2];have h3:=yQ 2;unfold m7 at *;rw[List.dropWhile_append,h3];simp only[List.isEmpty_nil,if_true];exact zk6 ((List.dropWhile_sublist _).length_le) (by simp)
def dD (n:Nat):List Int:=if n=0 then [] else [(n:Int)]
def Az:Enc (Bool×List UInt8) 2:=⟨fun p=>[vb p.1,txt p.2],fun _=>rfl,fun _ u hu=>by simp at hu; rcases hu with rfl | rfl <;> rfl,by decide⟩
def wd (n:Int):Bool×List UInt8:=(decide (n<0)&&decide (j5 n.natAbs≠[]),j5 n.natAbs)
theorem Tryz.sty56:STy Tryz.prog 56 121 2 24 (.agg #[vb false,txt []]):=⟨underlying56,⟨t121,by kernel_rfl,by kernel_rfl,by kernel_rfl,by kernel_rfl⟩,rfl,by decide⟩
def GO (g:PH)(v:Value)(m:Nat×Nat×List Int):Prop:=∃ p c,v = .agg #[vi m.1,vi m.2.1,.slice p m.2.2.length c]∧SlA Az g (.slice p m.2.2.length c) (m.2.2.map wd)
theorem SU.minI {P:Program}{N:Nat}{f:Fr}{dst:Option Tmp}{ty:TypeId}{pos:String}{af:Array Edge}{gd:Option (Nat×Bool)}{x y:Operand}{T U:TypeId}{m n:Int}(hx:ev f x=some (vi m))(hy:ev f y=some (vi n)) :
  SU P N ⟨dst,.call ⟨.builtin .min,#[x,y],#[T,U]⟩,ty,pos,af,gd⟩ f (vi (min m n)):=fun a w ha=>by
 have h:=run_min_int2 (P:=P) (w:=w) #[T,U] ty .i64 .i64 m n;have h2:(if n<m then n else m)=min m n:=by split <;> omega
 rw[h2] at h;simp[execOp,resolve,invoke,builtin,ha.ev hx,ha.ev hy,h]
theorem CJ (E:World)(g:PH)(s:Own)(r c:Nat)(hr:r≤200)(hc:c≤200) :
  Ctr Tryz.prog E 123 #[vi r,vi c] g s (fun x g' s'=>x=vb true∧g=g'∧s=s'):=by
 refine za9 (args:=[vi r,vi c]) func123 I ntmps123 (bE I) ?_;refine rZ (aT I (sW I (lM I (lU (SU.minI I I) (lU (SU.eq (v':=vb true) (gQ I I) (zd8 vb (zf5 oM))) (lM I (yC I (yC I (lY I I I (SU.maxI I I) (lY I I I (SU.eq (v':=vb true) (SU.leq I I) (zd8 vb (zf5 oM))) (yP I (aT I (rE ?_)))))))))))));exact za6 (.inl I) results123 I ⟨I,I,I⟩
theorem Tryz.build58 (r c:Int)(p:Option Addr)(n k:Nat)(w:World):(Instr.build 58 #[(0,vi r),(1,vi c),(2,.slice p n k)]).run Tryz.prog w = .ok (.agg #[vi r,vi c,.slice p n k]) w:=by
 have h1:∀ n,(vi n).cells = #[vi n]:=fun _=>rfl;have h2:(Value.slice p n k).cells = #[.slice p n k]:=rfl;simp[Instr.build,Instr.fill,h1,h2];rfl
theorem Fd {r c:Nat}(hr:r≤200)(hc:c≤200):r * c≤40000:=Nat.mul_le_mul hr hc
theorem xu (E:World)(g:PH)(s:Own)(r c:Nat)(hr:r≤200)(hc:c≤200) :
  Ctr Tryz.prog E 73 #[vi r,vi c] g s (fun x g' s'=>g=g'∧∃ p k,x = .agg #[vi r,vi c,.slice p (r * c) k]∧s'=rowA Az 121 (.slice p (r * c) k) (List.replicate (r * c) (wd 0))::s):=by
 have hm:=Fd hr hc;refine za9 (args:=[vi r,vi c]) func73 I ntmps73 (bE I) ?_;refine rZ (bW (aL zeroValue58) fun b4=>?_);refine tZ (sQ (sW I (lM I (lW (cL call123 I (CJ E g _ r c hr hc)) ?_))));rintro _ _ _ ⟨rfl,rfl,rfl⟩;refine lU (SU.not I) (tZ (cF I (kP (tN (sW I (lM I (lM I (lM I (lU (SU.eq (v':=vi ((r * c:Nat))) (SU.mulW I I) (zd8 vi (by rw[← Int.natCast_mul]; exact zk8 _ oM))) ?_)))))))));refine lW (mK Az (wd 0) sty56 I I I oM oM) ?_;rintro _ _ _ ⟨b15,rfl,rfl,rfl⟩;refine lU (za1 I (build58 _ _ _ _ _)) (oZ (sK 1 qu I I I I I sB) ?_);refine tZ (rE ?_);exact ST.retCD 1 _ (.inl I) results73 I isAgg58 qu I I (.cons_cons _ (.cons _ (.refl _))) ⟨I,_,_,I,I⟩
theorem vW (z:Int):(qg z).cells.toList=Az.enc (wd z):=rfl
structure dp (ls:List (List Int))(C:Nat):Prop where
 len:∀ l∈ls,l.length=C
 small:∀ l∈ls,∀ n∈l,-9223372036854775808≤n∧n<9223372036854775808
 pos:0<ls.length
 rows:ls.length≤200
 cols:C≤200
theorem lH {ls:List (List Int)}{C:Nat}(h:∀ l∈ls,l.length=C):ls.flatten.length=ls.length * C:=by
 induction ls with
 | nil=>simp
 | cons a t ih =>
  rw[List.flatten_cons,ze2,ih fun l hl=>h l (by simp[hl]),h a (by simp),ze5,Nat.succ_mul,Nat.add_comm]
def iX (ls:List (List Int))(C i j:Nat)(r:List Int):List (Bool×List UInt8):=((ls.take i).flatten++r.take j).map wd++List.replicate (ls.length * C - (i * C+j)) (wd 0)
theorem zJ (ls:List (List Int))(C:Nat)(r:List Int):iX ls C 0 0 r=List.replicate (ls.length * C) (wd 0):=by simp[iX]
theorem xC {ls:List (List Int)}{C i:Nat}(h:∀ l∈ls,l.length=C)(hi:i≤ls.length):(ls.take i).flatten.length=i * C:=by
 rw[lH (C:=C) fun l hl=>h l (List.mem_of_mem_take hl),ze1,Nat.min_eq_left hi]
theorem Fn {R C i j:Nat}(hi:i<R)(hj:j<C):i * C+j<R * C:=by
 have:(i+1) * C≤R * C:=Nat.mul_le_mul_right C hi;rw[Nat.succ_mul] at this;omega
theorem ve {ls:List (List Int)}{C i j:Nat}{r:List Int}(h:∀ l∈ls,l.length=C)(hi:i<ls.length)(hr:r.length=C)(hj:j≤C):(iX ls C i j r).length=ls.length * C:=by
 have h1:=xC h (Nat.le_of_lt hi);have h2:i * C+j≤ls.length * C:=by
  have:(i+1) * C≤ls.length * C:=Nat.mul_le_mul_right C hi;rw[Nat.succ_mul] at this;omega
 unfold iX;rw[ze2,ze3,ze2,h1,ze1,List.length_replicate,hr,Nat.min_eq_left hj];omega
theorem Cd {ls:List (List Int)}{C i j:Nat}{r:List Int}(h:∀ l∈ls,l.length=C)(hi:i<ls.length)(hr:r.length=C)(hj:j<C):(iX ls C i j r).set (i * C+j) (wd (r[j]'oM))=iX ls C i (j+1) r:=by
 have h1:=xC h (Nat.le_of_lt hi);have hlt:=Fn hi hj;unfold iX;rw[show ls.length * C - (i * C+j)=(ls.length * C - (i * C+(j+1)))+1 by omega,List.replicate_succ];rw[dq (by rw[ze3,ze2,h1,ze1,hr]; omega)];rw[tS (by omega:j<r.length)];simp only[zg2,zg1,List.map_nil,zg5,List.cons_append,List.nil_append]
theorem Ce {ls:List (List Int)}{C i:Nat}(h:∀ l∈ls,l.length=C)(hi:i<ls.length)(r:List Int):iX ls C i C ls[i]=iX ls C (i+1) 0 r:=by
 unfold iX;rw[tL (l:=ls[i]) (by rw[h _ (gM hi)]; exact lR _),tS hi,List.flatten_append];simp[Nat.succ_mul]
theorem Cf {ls:List (List Int)}{C:Nat}(h:∀ l∈ls,l.length=C)(r:List Int):iX ls C ls.length 0 r=ls.flatten.map wd:=by
 unfold iX;simp
theorem Hd (E:World)(g:PH)(s:Own)(v:Value)(ls:List (List Int))(C:Nat)(hv:aF g v ls)(h:dp ls C) :
  Ctr Tryz.prog E 75 #[v] g s (fun x g' s'=>s=s'∧Le g g'∧GO g' x (ls.length,C,ls.flatten)):=by
 obtain ⟨rs,hrs,hall⟩:=hv;have hrl:=hall.length;have hpos:=h.pos;have hR:=h.rows;have hC:=h.cols;have hm:=Fd hR hC;obtain ⟨p,c,rfl⟩:=za2 hrs;rw[← hrl] at hrs ⊢;refine za9 (args:=[.slice p ls.length c]) func75 I ntmps75 (bE I) ?_;refine rZ (bW (aL zeroValue58) fun b2=>?_);refine tZ (rZ (aT I (sQ (sW I (lU (eN bH I) (lM I (tZ (bK ?_))))))));refine oP (ι:=Nat) (fun i=>[(0,.slice p ls.length c),(2,pp b2 0),(3,vi (if i=0 then 0 else (C:Int))),(11,.slice p ls.length c),(12,vi ls.length),(13,vi i)]) (fun _=>g) (fun _=>pt b2 (.cells #[vi 0,vi 0,.slice none 0 0] 58 (0,0))::s) (fun i=>i≤ls.length) (fun i=>ls.length - i) 0
  sB rfl rfl (zf3 _) ?_
 rintro i hi;refine rZ (yL I (tZ (sQ ?_)));refine iP I (fun hlt=>?_) (fun hlt=>?_)
 ·have hil:i<rs.length:=oM;have hils:i<ls.length:=oM;have hb1:=za4 hrs oM;have hgx:rs[((i:Nat):Int).toNat]?=some rs[i]:=gE hil;have hrn:rs[i].n=C:=by rw[(hall.get (gE hils) (gE hil)).len]; exact h.len _ (gM hils)
  generalize rs[i]=r at *;obtain ⟨rp,rn,rc⟩:=r;dsimp only at hrn;subst hrn;refine kP (tN (sQ (bK (rZ (lU (iA bH bZ I I hb1 oM sL) (lK (eB (u:=.slice rp rn rc) dx I (za5 hrs) hgx I) (aT I (rG (lM I (lM I (lU (eN ak I) (lU (SU.eq (v':=vi (rn:Int)) (SU.maxI I I) (zd8 vi (by split <;> omega))) ?_))))))))))));refine lA I (nL (bN (tN (rG (yD I (lM I (nL ?_)))))));exact gA (i+1) ⟨I,I,FJ I (by rw[zf6 oM]),I,I,I,trivial⟩ I I oM oM
 ·have hil:i=ls.length:=oM;subst hil;rw[zf6 (by omega:¬ ls.length=0)];refine xI (tX (tX (bX (tN (sW I (lU (eN bH I) (lM I (lW (cL call73 I (xu E g _ ls.length C hR hC)) ?_))))))));rintro _ _ _ ⟨rfl,zp,zk,rfl,rfl⟩;refine bW (aL zeroValue58) fun b6=>?_;refine oZ (sK 0 qu I I I I I sB) ?_;refine tZ (sQ (rZ (lU (fA underlying58 I sizeOf56 I) (lK (qL isAgg56 I (cO 0 I I)) (lU (eN underlying56 I) (yE I (tZ ?_)))))));refine iP I (fun hz=>?_) (fun hz=>?_)
  ·have hz0:ls.length * C=0:=oM;have hfl:=lH h.len;have hnil:ls.flatten=[]:=zf1 oM;refine SC.to (fun w hw=>hw.perm (zj7 _ _ _)) (g':=g) (s':=rowA Az 121 (.slice zp (ls.length * C) zk) (List.replicate (ls.length * C) (wd 0))::pt b6 (.cells #[vi ls.length,vi C,.slice zp (ls.length * C) zk] 58 (0,0))::(pt b2 (.cells #[vi 0,vi 0,.slice none 0 0] 58 (0,0))::s)) ?_;refine fS fun g1 hle1 hs1=>?_;refine rZ (lK (qV 0 isAgg58 qu I I I) (oZ (sK 1 qu I I I I I sB) ?_));refine tZ (rE (tR ?_));exact ST.retCD 1 s (.inl I) results75 I isAgg58 qu I I uR ⟨I,hle1,zp,zk,by dsimp only; rw[hfl]; rfl,by
    dsimp only;have:SlA Az g1 (.slice zp (ls.length * C) zk) (List.replicate (ls.length * C) (wd 0)):=hs1;rw[hz0] at this;rw[hnil];exact this⟩
  ·have hCp:0<C:=Nat.pos_of_ne_zero fun e=>hz (by rw[e]; simp);refine kP (tN (sQ (sW I (lU (eN bH I) (lM I (tZ (bK ?_)))))));refine SC.to (fun w hw=>hw.perm (zj7 _ _ _)) (g':=g) (s':=rowA Az 121 (.slice zp (ls.length * C) zk) (List.replicate (ls.length * C) (wd 0))::pt b6 (.cells #[vi ls.length,vi C,.slice zp (ls.length * C) zk] 58 (0,0))::(pt b2 (.cells #[vi 0,vi 0,.slice none 0 0] 58 (0,0))::s)) ?_;refine oP (ι:=PH×Nat) (fun i=>[(0,.slice p ls.length c),(2,pp b2 0),(3,vi (C:Int)),(6,pp b6 0),(31,.slice p ls.length c),(32,vi ls.length),(33,vi i.2)]) (fun i=>i.1) (fun i=>rowA Az 121 (.slice zp (ls.length * C) zk) (iX ls C i.2 0 [])::pt b6 (.cells #[vi ls.length,vi C,.slice zp (ls.length * C) zk] 58 (0,0))::(pt b2 (.cells #[vi 0,vi 0,.slice none 0 0] 58 (0,0))::s)) (fun i=>Le g i.1∧i.2≤ls.length) (fun i=>ls.length - i.2) (g,0)
    sB rfl (by dsimp only; rw[zJ]) ⟨zb7 g,zf3 _⟩ ?_
   rintro ⟨g1,i⟩ ⟨hle1,hi1⟩;dsimp only at hle1 hi1 ⊢;refine rZ (yL I (tZ (sQ ?_)));refine iP I (fun hlt2=>?_) (fun hlt2=>?_)
   ·have hils:i<ls.length:=oM;have hil:i<rs.length:=oM;have hb1:=za4 hrs oM;have hgx:rs[((i:Nat):Int).toNat]?=some rs[i]:=gE hil;have hrow:bJ g ls[i] rs[i]:=hall.get (gE hils) (gE hil);have hrlen:=h.len _ (gM hils);have hsm:=h.small _ (gM hils);have hnext:=Ce h.len hils [];have hp0:iX ls C i 0 []=iX ls C i 0 ls[i]:=by simp[iX]
    rw[hp0];generalize hx:ls[i]=x at *;generalize rs[i]=r at *;obtain ⟨rp,rn,rc⟩:=r;have hrn:rn=C:=by rw[← hrlen]; exact hrow.len
    subst hrn;have hxs:bT g (.slice rp rn rc) x:=hrow;refine kP (tN (sQ (bK (sW I (lU (iA bH bZ I I hb1 oM sL) (lK (eB (u:=.slice rp rn rc) dx I (za5 (za3 hrs hle1)) hgx I) (lA I (aT I (sW I (lU (eN ak I) (lM I (tZ (bK ?_)))))))))))));refine oP (ι:=PH×Nat) (fun k=>[(2,pp b2 0),(3,vi (rn:Int)),(6,pp b6 0),(7,vi i),(0,.slice p ls.length c),(31,.slice p ls.length c),(32,vi ls.length),(33,vi i),(38,.slice rp rn rc),(39,vi rn),(40,vi k.2)]) (fun k=>k.1) (fun k=>rowA Az 121 (.slice zp (ls.length * rn) zk) (iX ls rn i k.2 x)::pt b6 (.cells #[vi ls.length,vi rn,.slice zp (ls.length * rn) zk] 58 (0,0))::(pt b2 (.cells #[vi 0,vi 0,.slice none 0 0] 58 (0,0))::s)) (fun k=>Le g k.1∧k.2≤rn) (fun k=>rn - k.2) (g1,0)
     sB rfl rfl ⟨hle1,zf3 _⟩ ?_
    rintro ⟨g2,j⟩ ⟨hle2,hj⟩;dsimp only at hle2 hj ⊢;refine rZ (yL I (tZ (sQ ?_)));refine iP I (fun hlt3=>?_) (fun hlt3=>?_)
    ·have hjl:j<rn:=oM;have hjx:j<x.length:=oM;have hb2:=za4 hxs oM;have hgj:x[((j:Nat):Int).toNat]?=some x[j]:=gE hjx;have hbd:=hsm x[j] (gM hjx);have hset:=Cd h.len hils hrlen hjl;have hpl:=ve h.len hils hrlen (Nat.le_of_lt hjl);have hidx:=Fn hils hjl;generalize x[j]=z at *;refine SC.facts fun ⟨w0,hw0⟩=>?_;have hbE:based (.slice zp (ls.length * rn) zk)=true:=by
      obtain ⟨b0,c0,he⟩:=ck (i:=0) hw0 rfl oM;rw[he]; rfl
     clear hw0 w0;refine kP (tN (sQ (bK (sW I (lU (iA ak zT3 I I hb2 oM sL) (lK (eB iT3 I (za5 (za3 hxs hle2)) hgj I) (lA I (aT I ?_))))))));refine dW [10] [(0,2),(1,1),(2,2),(3,2),(4,2),(5,2),(6,2),(7,2),(8,0),(9,2),(10,0)] zd9 kR ?_;refine pU I (fA underlying58 I sizeOf56 I) (pK I (qL (v:=.slice zp (ls.length * rn) zk) isAgg56 I (cO 1 I I)) (yM I (yM I (pU I (SU.eq (v':=vi ((i * rn:Nat))) (SU.mulW I I) (zd8 vi (by rw[← Int.natCast_mul]; exact zk8 _ (by have:=Nat.mul_le_mul (Nat.le_of_lt hils) (lR rn); omega)))) ?_))));refine yM I (pU I (SU.eq (v':=vi ((i * rn+j:Nat))) (zd6 I I) (zd8 vi (by rw[← Int.natCast_add]; exact zk8 _ oM))) ?_);refine yM I (SP.o I (cL call70 I (un E g2 _ z hbd.1 hbd.2)) dC (.inr iR) ?_);rintro _ g3 _ ⟨rfl,rfl,hle3⟩;refine pU I (iA underlying56 dX I I hbE oM sL) (SP.on I (sT (a:=wd z) 0 dX I I I oM (vW z)) (.inl dC) ?_);rintro _ _ _ ⟨rfl,rfl⟩;refine pN (bN (tN (rG (yD I (lM I (nL ?_))))));exact gA (g3,j+1) sB I (by dsimp only; rw[← hset]; rfl) ⟨hle2.trans hle3,by dsimp only; omega⟩ (by dsimp only; omega)
    ·have hjn:j=rn:=oM;subst hjn;rw[hnext];refine xI (tX (tX (bX (bN (tN (rG (yD I (lM I (nL ?_)))))))));exact gA (g2,i+1) sB I I ⟨hle2,by dsimp only; omega⟩ (by dsimp only; omega)
   ·have hin:i=ls.length:=oM;subst hin;rw[Cf h.len];refine fS fun g2 hle2 hs2=>?_;have hfl:=lH h.len;refine xI (tX (tX (bX (tN (rZ (lK (qV 0 isAgg58 qu I I I) (oZ (sK 1 qu I I I I I sB) ?_)))))));refine tZ (rE ?_);exact ST.retCD 1 s (.inl I) results75 I isAgg58 qu I I uR ⟨I,hle1.trans hle2,zp,zk,by dsimp only; rw[hfl]; rfl,by dsimp only; rw[hfl]; exact hs2⟩
theorem idsP (E:World)(g:PH)(b:Nat)(d:Int)(tl:List Cl)(hb:g b=some (.cells #[vi d] 3 (0,0))):qr E (.func (.func 76) #[] #[pp b 0]) (fun c=>decide (c.dim=d)) tl g:=by
 intro g s c r hle hm hc;refine cI.mk (cap:=[pp b 0]) call76 ?_;have hb':=hle _ _ hb;obtain ⟨ri,rd,rsv⟩:=r;have hd:rd=c.dim:=hc.2.1;subst hd;refine za9 (args:=[rcv ⟨ri,c.dim,rsv⟩,pp b 0]) func76 I ntmps76 (bE I) ?_;refine rZ (bW (bO I) fun b2=>?_);refine aT I (rZ (lU (fA ar I zT3 I) (lK (qL (v:=vi c.dim) iT3 I (cO 0 I I)) (lK (qL iT3 I (cK hb' I)) (yE I (aT I (rE (dR (s':=s) uR ?_))))))));exact za6 (.inl I) results76 I ⟨I,I,I⟩
theorem nG (E:World)(g:PH)(s:Own)(v:Value)(l:List Cl)(d:Int)(hv:am g v l)(hf:cZ l) :
  Ctr Tryz.prog E 34 #[.agg #[v],vi d] g s (fun r g' s'=>s=s'∧Le g g'∧bT g' r (cB l d)):=by
 refine za9 (args:=[.agg #[v],vi d]) func34 I ntmps34 (bE I) ?_;refine rZ (bW (bO I) fun b2=>?_);refine bW (bO I) fun b3=>?_;refine zb3 fun g1 hle hb=>?_;refine aT I (rZ (lK (qV 0 bq aw I I I) (lW (cL call42 I (jo E g1 _ v l (hv.mono hle) hf)) ?_)));rintro tv g2 _ ⟨rfl,hle2,ht⟩;refine lU (SU.mkFunc I) (lW (cL call53 I (zM E g2 _ tv _ _ _ ht (eP l) (e6 hf) (idsP E g2 b3 d _ (hle2 _ _ hb)))) ?_);rintro r8 g3 _ ⟨rfl,hle3,hr⟩;refine aT I (rE (dR (s':=s) uR ?_));exact za6 (.inl I) results34 I ⟨I,hle.trans (hle2.trans hle3),hr⟩
theorem FP (l:List Cl):((ab l).map Cl.id).Pairwise (· < ·):=by
 have h1:=eV l;have h2:=eP l;have h3:=h1.and h2;exact h3.imp fun h=>by omega
theorem vH (l:List Cl)(d:Int):(cB l d).Pairwise (· < ·):=(FP l).sublist ((List.filter_sublist ..).map _)
theorem vR (l:List Cl)(d:Int):(cB l d).length≤(ab l).length:=by
 unfold cB;rw[ze3];exact zc2 _ _
def addAt (M:List (List Int))(i k:Nat)(z:Int):List (List Int):=M.modify i fun r=>r.modify k fun a=>IntKind.i64.wrap (a+z)
def df (rows:List Int)(k:Nat)(M:List (List Int))(x:ai):List (List Int):=if rows.contains x.cell then addAt M (lbI rows x.cell) k x.sign else M
def ex (tab:List Cl)(id:Int):Cl:=(az tab id).getD gt
def jD (tab:List Cl)(rows cols:List Int):Nat→List (List Int)
 | 0=>List.replicate rows.length (List.replicate cols.length 0)
 | k+1=>(ex tab (cols.getD k 0)).sides.foldl (df rows k) (jD tab rows cols k)
def gX (M:List (List Int))(R C:Nat):Prop:=M.length=R∧∀ r∈M,r.length=C∧∀ n∈r,-9223372036854775808≤n∧n<9223372036854775808
theorem y4 (n:Int) : -9223372036854775808≤IntKind.i64.wrap n∧IntKind.i64.wrap n<9223372036854775808:=by rw[IntKind.wrap_i64]; omega
theorem mJ {α:Type}{f:α→α}{x:α}:∀ {l:List α} {i:Nat},x∈l.modify i f→x∈l∨∃ y∈l,x=f y
 | [],_,h=>by simp at h
 | a::t,0,h=>by
  simp only[List.modify_cons,if_true,ze7] at h
  rcases h with h | h
  ·exact .inr ⟨a,by simp,h⟩
  ·exact .inl (by simp[h])
 | a::t,i+1,h=>by
  simp only[List.modify_cons,Nat.add_one_ne_zero,if_false,Nat.add_sub_cancel,ze7] at h
  rcases h with h | h
  ·exact .inl (by simp[h])
  ·rcases mJ h with h | ⟨y,hy,e⟩
   ·exact .inl (by simp[h])
   ·exact .inr ⟨y,by simp[hy],e⟩
theorem gX.addAt {M:List (List Int)}{R C:Nat}(h:gX M R C)(i k:Nat)(z:Int):gX (addAt M i k z) R C:=by
 refine⟨by unfold Go.Proofs.YtkbagdedfdfjhaaGreatDoor.addAt; rw[List.length_modify]; exact h.1,fun r hr=>?_⟩
 rcases mJ hr with hr | ⟨r0,hr0,rfl⟩
 ·exact h.2 r hr
 ·refine⟨by rw[List.length_modify]; exact (h.2 r0 hr0).1,fun n hn=>?_⟩
  rcases mJ hn with hn | ⟨m,hm,rfl⟩
  ·exact (h.2 r0 hr0).2 n hn
  ·exact y4 _
theorem gX.step {M:List (List Int)}{R C:Nat}(h:gX M R C)(rows:List Int)(k:Nat)(x:ai):gX (df rows k M x) R C:=by
 unfold df;split
 ·exact h.addAt _ _ _
 ·exact h
theorem gX.fold {R C:Nat}(rows:List Int)(k:Nat):∀ (l:List ai) {M:List (List Int)},gX M R C→gX (l.foldl (df rows k) M) R C
 | [],_,h=>h
 | x::l,_,h=>gX.fold rows k l (h.step rows k x)
theorem ei (tab:List Cl)(rows cols:List Int):∀ k,gX (jD tab rows cols k) rows.length cols.length
 | 0=>⟨by simp[jD],fun r hr=>by
  simp only[jD] at hr;obtain ⟨_,rfl⟩:=List.mem_replicate.1 hr;refine⟨by simp,fun n hn=>?_⟩;obtain ⟨_,rfl⟩:=List.mem_replicate.1 hn;decide⟩
 | k+1=>gX.fold rows k _ (ei tab rows cols k)
def vQ (tab:List Cl)(rows cols:List Int):Nat×Nat×List Int :=
 if decide ((rows.length:Int)>200)||decide ((cols.length:Int)>200) then (0,0,[]) else if rows.length=0 then (0,cols.length,[]) else (rows.length,cols.length,(jD tab rows cols cols.length).flatten)
theorem gX.rows {M:List (List Int)}{R C:Nat}(h:gX M R C)(h0:0<R)(h1:R≤200)(h2:C≤200):dp M C :=
 ⟨fun r hr=>(h.2 r hr).1,fun r hr=>(h.2 r hr).2,by rw[h.1]; exact h0,by rw[h.1]; exact h1,h2⟩
def Fx (v:Sv)(l:List Int):Ent:=rowA encInt 3 (.slice v.p v.n v.c) l
def ke:List Sv→List (List Int)→Own
 | v::vs,l::ls=>Fx v l::ke vs ls
 | _,_=>[]
theorem pE:∀ {vs:List Sv} {ls:List (List Int)} (v:Sv) (l:List Int),vs.length=ls.length→ke (vs++[v]) (ls++[l])=ke vs ls++[Fx v l]
 | [],[],_,_,_=>rfl
 | x::vs,y::ls,v,l,h=>by
  simp only[List.cons_append,ke];rw[pE v l (by simpa using h)]
 | [],_::_,_,_,h=>by simp at h
 | _::_,[],_,_,h=>by simp at h
theorem xR:∀ {vs:List Sv} {ls:List (List Int)} {i:Nat} {v:Sv} {l:List Int},vs[i]?=some v→ls[i]?=some l→(ke vs ls)[i]?=some (Fx v l)
 | x::vs,y::ls,0,v,l,h1,h2=>by simp at h1 h2; subst h1; subst h2; rfl
 | x::vs,y::ls,i+1,v,l,h1,h2=>by simp at h1 h2; simpa [ke] using xR h1 h2
 | [],_,_,_,_,h1,_=>by simp at h1
 | _::_,[],_,_,_,_,h2=>by simp at h2
theorem pD:∀ {vs:List Sv} {ls:List (List Int)},vs.length=ls.length→(ke vs ls).length=ls.length
 | [],[],_=>rfl
 | x::vs,y::ls,h=>by simp[ke,pD (vs:=vs) (ls:=ls) (by simpa using h)]
 | [],_::_,h=>by simp at h
 | _::_,[],h=>by simp at h
theorem xQ:∀ {vs:List Sv} {ls:List (List Int)} {i:Nat} {v:Sv} (l:List Int),vs[i]?=some v→vs.length=ls.length→(ke vs ls).set i (Fx v l)=ke vs (ls.set i l)
 | x::vs,y::ls,0,v,l,h,_=>by simp at h; subst h; rfl
 | x::vs,y::ls,i+1,v,l,h,hl=>by
  simp only[ke,List.set_cons_succ];rw[xQ l (by simpa using h) (by simpa using hl)]
 | [],_,_,_,_,h,_=>by simp at h
 | _::_,[],_,_,_,_,h=>by simp at h
theorem Bl {E:World}{s:Own}{w:World}:∀ {vs:List Sv} {ls:List (List Int)} {g:PH},vs.length=ls.length→(∀ v∈vs,∀ l∈ls,v.n=l.length)→At E g (ke vs ls++s) w→∃ g',Le g g'∧At E g' s w∧aB (bJ g') ls vs
 | [],[],g,_,_,h=>⟨g,zb7 g,h,trivial⟩
 | v::vs,l::ls,g,h1,hn,h=>by
  obtain ⟨g1,hl1,ha1,hs1⟩:=At.freezeRow h;obtain ⟨g2,hl2,ha2,hs2⟩:=Bl (by simpa using h1) (fun v hv l hl=>hn v (by simp[hv]) l (by simp[hl])) ha1;exact⟨g2,hl1.trans hl2,ha2,za3 hs1 hl2,hs2⟩
 | [],_::_,_,h1,_,_=>by simp at h1
 | _::_,[],_,h1,_,_=>by simp at h1
theorem freezeLs {E:World}{s:Own}{w:World}{vs:List Sv}{ls:List (List Int)}{g:PH}{u:Value}(h1:vs.length=ls.length)(hn:∀ v∈vs,∀ l∈ls,v.n=l.length)(h:At E g (rowA encSv 25 u vs::(ke vs ls++s)) w):∃ g',Le g g'∧At E g' s w∧aF g' u ls:=by
 obtain ⟨g1,hl1,ha1,hs1⟩:=At.freezeRow h;obtain ⟨g2,hl2,ha2,hs2⟩:=Bl h1 hn ha1;exact⟨g2,hl1.trans hl2,ha2,vs,za3 hs1 hl2,hs2⟩
theorem SC.freezeLs {P:Program}{N:Nat}{E:World}{Q:Exit→Act→World→Prop}{f:Fr}{g:PH}{s:Own}{o:Code}{vs:List Sv}{ls:List (List Int)}{u:Value}(h1:vs.length=ls.length)(hn:∀ v∈vs,∀ l∈ls,v.n=l.length)(h:∀ g',Le g g'→aF g' u ls→SC P N E o Q f g' s):SC P N E o Q f g (rowA encSv 25 u vs::(ke vs ls++s)):=fun a w ha hw=>by
 obtain ⟨g',h2,h3,h4⟩:=Go.Proofs.YtkbagdedfdfjhaaGreatDoor.freezeLs h1 hn hw;exact h g' h2 h4 a w ha h3
theorem A8 {S:Own}{vs:List Sv}{M:List (List Int)}{i:Nat}{v:Sv}{r:List Int}(h1:vs[i]?=some v)(h2:M[i]?=some r):(ke vs M++S)[i]?=some (Fx v r):=by
 have h:=xR h1 h2;rw[zg8 (zf2.1 h).1];exact h
theorem Gh {S:Own}{vs:List Sv}{M:List (List Int)}{i:Nat}{v:Sv}(r:List Int)(h1:vs[i]?=some v)(hl:vs.length=M.length):(ke vs M++S).set i (Fx v r)=ke vs (M.set i r)++S:=by
 have h:i<(ke vs M).length:=by rw[pD hl,← hl]; exact (zf2.1 h1).1
 rw[List.set_append_left _ _ h,xQ r h1 hl]
theorem mG {α:Type}{f:α→α}:∀ {l:List α} {i:Nat} {a:α},l[i]?=some a→l.modify i f=l.set i (f a)
 | [],_,_,h=>by simp at h
 | x::t,0,a,h=>by simp at h; subst h; rfl
 | x::t,i+1,a,h=>by
  simp at h;have:=mG (f:=f) h;simp[List.modify_cons,this]
theorem Da {M:List (List Int)}{i k:Nat}{z a:Int}{r:List Int}(h1:M[i]?=some r)(h2:r[k]?=some a):addAt M i k z=M.set i (r.set k (IntKind.i64.wrap (a+z))):=by
 unfold addAt;rw[mG h1,mG h2]
def VG (vs:List Sv)(C:Nat):Prop:=∀ v∈vs,∃ b,v=⟨some ⟨b,0,none⟩,C,C⟩
theorem VG.get {vs:List Sv}{C i:Nat}(h:VG vs C)(hi:i<vs.length):∃ b,vs[i]?=some ⟨some ⟨b,0,none⟩,C,C⟩:=by
 obtain ⟨b,hb⟩:=h _ (gM hi);exact⟨b,by rw[gE hi,hb]⟩
theorem Tryz.buildE58 (w:World):(Instr.build 58 #[]).run Tryz.prog w = .ok (.agg #[vi 0,vi 0,.slice none 0 0]) w:=by
 simp[Instr.build,Instr.fill];rfl
theorem Eg (g:PH)(C:Nat):GO g (.agg #[vi (0:Nat),vi C,.slice none 0 0]) (0,C,[]):=⟨none,0,rfl,zb8 g _⟩
theorem lb_get {l:List Int}{x:Int}(hs:l.Pairwise (· < ·))(h:l.contains x=true):lbI l x<l.length:=by
 rw[List.contains_iff_mem] at h;obtain ⟨k,hk,rfl⟩:=zc4 h;rw[jH hk hs];exact hk
theorem Gt {l:List Cl}{d x:Int}(h:x∈cB l d):∃ c∈ab l,c.id=x:=by
 unfold cB at h;obtain ⟨c,hc,e⟩:=ze8.1 h;exact⟨c,(zh1.1 hc).1,e⟩
theorem wG (E:World)(g:PH)(s:Own)(v:Value)(l:List Cl)(d:Int)(hv:am g v l)(hf:cZ l)(hd : -100≤d∧d≤100) :
  Ctr Tryz.prog E 33 #[.agg #[v],vi d] g s (fun x g' s'=>s=s'∧Le g g'∧GO g' x (vQ (ab l) (cB l (d - 1)) (cB l d))):=by
 have hft:=e6 hf;have hfl:=hft.1;have hR0:=vR l (d - 1);have hC0:=vR l d;have hasc:=vH l (d - 1);refine za9 (args:=[.agg #[v],vi d]) func33 I ntmps33 (bE I) ?_;refine rZ (bW (bO I) fun b2=>?_);refine bW (aL zeroValue58) fun b4=>?_;refine tZ (rZ (lK (qV 1 bq aw I I I) (lW (cL call42 I (jo E g _ v l hv hf)) ?_)));rintro tv g1 _ ⟨rfl,hle1,ht⟩;obtain ⟨b,m,iv,rs,rfl,hb,hm,hI,hall⟩:=ht;refine aT I (sQ ?_);refine dW [7,8] [(0,1),(1,2),(2,2),(4,1),(5,2),(3,0),(6,0),(7,0),(8,0)] zd9 kR ?_;refine pK I (qV 1 bq aw I I I) (yM I (pU I (sU I I ⟨oM,oM⟩) ?_));refine pK I (qV 1 bq aw I I I) (yM I (SP.o I (cL call34 I (nG E g1 _ v l (d - 1) (hv.mono hle1) hf)) dC (.inr iR) ?_));rintro v1 g2 _ ⟨rfl,hle2,hr1⟩;refine SP.o rfl (cL call34 rfl (nG E g2 _ v l d (hv.mono (hle1.trans hle2)) hf)) dC (.inr (by rintro v2 g3 _ ⟨rfl,hle3,hr2⟩; exact⟨by exact Le.trans (by assumption) (by assumption),(by exact .refl _)⟩)) ?_;rintro v2 g3 _ ⟨rfl,hle3,hr2⟩;have hr1:=za3 hr1 hle3;obtain ⟨p1,c1,rfl⟩:=za2 hr1;obtain ⟨p2,c2,rfl⟩:=za2 hr2;have hle:=hle1.trans (hle2.trans hle3);have hall:=hall.mono fun _ _ h=>au.mono (hle2.trans hle3) h;have hb:=hle3 _ _ (hle2 _ _ hb);have hm:=hm.mono (hle2.trans hle3);clear hle1 hle2 hle3 hI;refine oU I (aS I) dC (.inl dC) (oU I (aS I) dC (.inl dC) (pN (tN (sQ ?_))));refine SC.cutB 32 (decide (((cB l (d - 1)).length:Int)>200)||decide (((cB l d).length:Int)>200)) ?_ ?_
 ·refine rG (lM I (lU (eN ak I) (lU (gR I I) (lM I ?_))));refine sP ?_ ?_
  ·intro h28;refine yA I (yA I (yA I (yP I (nL ?_))));exact za8 (by (simp_all[bk]; done)) mI
  ·intro h28;refine yC I (lY I I I (eN ak I) (lY I I I (gR I I) (yF I (nL ?_))));exact za8 (by (simp_all[bk]; omega)) mI
 have hres:vQ (ab l) (cB l (d - 1)) (cB l d)=if decide (((cB l (d - 1)).length:Int)>200)||decide (((cB l d).length:Int)>200) then (0,0,[]) else if (cB l (d - 1)).length=0 then (0,(cB l d).length,[]) else ((cB l (d - 1)).length,(cB l d).length,(jD (ab l) (cB l (d - 1)) (cB l d) (cB l d).length).flatten):=rfl
 rw[hres];clear hres;generalize cB l (d - 1)=RL at *;have hmem:∀ x∈cB l d,∃ c∈ab l,c.id=x:=fun x hx=>Gt hx;generalize cB l d=CL at *;have hsides:∀ c∈ab l,c.sides.length<1099511627776:=hft.2;generalize ab l=A at *;refine iQ I (fun hbig=>?_) (fun hbig=>?_)
 ·refine rZ (lU (za1 I (buildE58)) (oZ (sK 0 qu I I I I I sB) ?_));refine tZ (rE (tR ?_));rw[zf7 hbig];exact ST.retCD 0 s (.inl I) results33 I isAgg58 qu I I uR ⟨I,hle,Eg _ 0⟩
 ·rw[zf6 (by rw[hbig]; decide)];rw[Bool.or_eq_false_iff,decide_eq_false_iff_not,decide_eq_false_iff_not] at hbig;refine kP (tN (sQ (sW I (lU (eN ak I) (yE I (tZ ?_))))));refine iP I (fun hz=>?_) (fun hz=>?_)
  ·have hz0:RL.length=0:=oM;rw[zf7 hz0];have h0C:0 * CL.length=0:=Nat.zero_mul _;refine sW I (lU (eN ak I) (lW (cL call73 I (xu E g3 _ 0 CL.length oM oM)) ?_));rintro _ _ _ ⟨rfl,zp,zk,rfl,rfl⟩;refine oZ (sK 1 qu I I I I I sB) ?_;refine tZ (rE (tR (fT fun g4 hle4 hs4=>?_)));rw[h0C] at hs4 ⊢;exact ST.retCD 0 s (.inl I) results33 I isAgg58 qu I I uR ⟨I,hle.trans hle4,zp,zk,I,hs4⟩
  ·rw[zf6 oM];refine kP (tN (sW I (lU (eN ak I) (lW (mK encSv ⟨none,0,0⟩ sty22 I I I oM oM) ?_))));rintro _ _ _ ⟨b42,rfl,rfl,rfl⟩;refine aT I (sQ (sW I (lU (eN bH I) (lM I (tZ (bK ?_))))));refine SC.to (fun w hw=>hw) (g':=g3) (s':=rowA encSv 25 (.slice (some ⟨b42,0,none⟩) RL.length RL.length) ([]++List.replicate (RL.length - 0) ⟨none,0,0⟩)::(ke [] (List.replicate 0 (List.replicate CL.length 0))++(pt b4 (.cells #[vi 0,vi 0,.slice none 0 0] 58 (0,0))::pt b2 (.cells #[v] 30 (0,0))::s))) ?_;refine oP (ι:=List Sv) (fun vs=>[(2,pp b2 0),(4,pp b4 0),(5,pp b 0),(6,.slice p1 RL.length c1),(7,.slice p2 CL.length c2),(8,.slice (some ⟨b42,0,none⟩) RL.length RL.length),(43,.slice (some ⟨b42,0,none⟩) RL.length RL.length),(44,vi RL.length),(45,vi vs.length)]) (fun _=>g3)
    (fun vs=>rowA encSv 25 (.slice (some ⟨b42,0,none⟩) RL.length RL.length) (vs++List.replicate (RL.length - vs.length) ⟨none,0,0⟩)::(ke vs (List.replicate vs.length (List.replicate CL.length 0))++(pt b4 (.cells #[vi 0,vi 0,.slice none 0 0] 58 (0,0))::pt b2 (.cells #[v] 30 (0,0))::s)))
    (fun vs=>vs.length≤RL.length∧VG vs CL.length) (fun vs=>RL.length - vs.length) [] sB rfl rfl ⟨zf3 _,fun _ h=>by simp at h⟩ ?_
   rintro vs ⟨hvl,hvg⟩;refine rZ (yL I (tZ (sQ ?_)));refine iP I (fun hlt=>?_) (fun hlt=>?_)
   ·have hlt':vs.length<RL.length:=oM;have hrep:List.replicate (RL.length - vs.length) (⟨none,0,0⟩:Sv)=⟨none,0,0⟩::List.replicate (RL.length - (vs.length+1)) ⟨none,0,0⟩:=by
     rw[show RL.length - vs.length=(RL.length - (vs.length+1))+1 by omega,List.replicate_succ]
    have hll:(vs++List.replicate (RL.length - vs.length) (⟨none,0,0⟩:Sv)).length=RL.length:=by simp; omega
    refine kP (tN (sQ (bK (sW I (aT I (rG (lM I (lM I (lM I (lU (eN ak I) (lW (mK encInt 0 sty25 I I I oM oM) ?_)))))))))));rintro _ _ _ ⟨b52,rfl,rfl,rfl⟩;refine lU (iA bH bZ I I I oM sL) (oZ (sT (a:=⟨some ⟨b52,0,none⟩,CL.length,CL.length⟩) 1 bZ I I I (by rw[hll]; omega) I) ?_);refine nL (bN (tN (rG (yD I (lM I (nL ?_))))));refine ST.to (fun w hw=>?_) (g':=g3) (s':=rowA encSv 25 (.slice (some ⟨b42,0,none⟩) RL.length RL.length) ((vs++[⟨some ⟨b52,0,none⟩,CL.length,CL.length⟩])++List.replicate (RL.length - (vs.length+1)) ⟨none,0,0⟩)::(ke (vs++[⟨some ⟨b52,0,none⟩,CL.length,CL.length⟩]) (List.replicate vs.length (List.replicate CL.length 0)++[List.replicate CL.length 0])++(pt b4 (.cells #[vi 0,vi 0,.slice none 0 0] 58 (0,0))::pt b2 (.cells #[v] 30 (0,0))::s))) ?_
    ·have hs:(vs++List.replicate (RL.length - vs.length) (⟨none,0,0⟩:Sv)).set ((vs.length:Nat):Int).toNat ⟨some ⟨b52,0,none⟩,CL.length,CL.length⟩=(vs++[⟨some ⟨b52,0,none⟩,CL.length,CL.length⟩])++List.replicate (RL.length - (vs.length+1)) ⟨none,0,0⟩:=by
      rw[hrep,dq (by simp)]; simp
     rw[pE _ _ (by simp),← hs,zg5];refine hw.perm ?_;refine (zj7 _ _ _).trans (List.Perm.cons _ ?_);exact List.perm_middle.symm
    exact gA (vs++[⟨some ⟨b52,0,none⟩,CL.length,CL.length⟩]) ⟨I,I,I,I,I,I,I,I,by rw[ze2]; rfl,trivial⟩ rfl (by simp[List.replicate_succ']) ⟨by simp; omega,fun x hx=>by
     rcases ze9.1 hx with h | h
     ·exact hvg x h
     ·simp at h; exact⟨b52,h⟩⟩ (by simp; omega)
   ·have hvR:vs.length=RL.length:=oM;refine xI (tX (tX (bX (tN (sQ (sW I (lU (eN ak I) (lM I (tZ (bK ?_))))))))));have hvs0:vs++List.replicate (RL.length - vs.length) ⟨none,0,0⟩=vs:=by rw[hvR]; simp
    rw[hvs0,hvR];have hRp:0<RL.length:=oM;clear hvs0;refine oP (ι:=Nat) (fun k=>[(2,pp b2 0),(4,pp b4 0),(5,pp b 0),(6,.slice p1 RL.length c1),(7,.slice p2 CL.length c2),(8,.slice (some ⟨b42,0,none⟩) RL.length RL.length),(55,.slice p2 CL.length c2),(56,vi CL.length),(57,vi k)]) (fun _=>g3)
     (fun k=>rowA encSv 25 (.slice (some ⟨b42,0,none⟩) RL.length RL.length) vs::(ke vs (jD A RL CL k)++(pt b4 (.cells #[vi 0,vi 0,.slice none 0 0] 58 (0,0))::pt b2 (.cells #[v] 30 (0,0))::s)))
     (fun k=>k≤CL.length) (fun k=>CL.length - k) 0 sB rfl rfl (zf3 _) ?_
    rintro k hk;refine rZ (yL I (tZ (sQ ?_)));refine iP I (fun hlt2=>?_) (fun hlt2=>?_)
    ·have hkl:k<CL.length:=oM;have hb1:=za4 hr2 oM;have hgx:CL[((k:Nat):Int).toNat]?=some CL[k]:=gE hkl;have hgd:CL.getD k 0=CL[k]:=by rw[zg7,gE hkl]; rfl
     have hsucc:jD A RL CL (k+1)=(ex A CL[k]).sides.foldl (df RL k) (jD A RL CL k):=by rw[jD,hgd]
     have hsh:=ei A RL CL k;generalize jD A RL CL k=M at *;generalize CL[k]=id at *;obtain ⟨x,hx1,hx2,hx3⟩:=ie hall qn id;have hcs:(ex A id).sides.length<1099511627776:=by
      unfold ex;cases hfn:az A id with
      | none=>decide
      | some c=>exact hsides c (bF hfn).1
     have hx3:au g3 (ex A id) x:=hx3;generalize ex A id=co at *;obtain ⟨xi,xd,xp,xn,xc⟩:=x;have hsv:SlA encSide g3 (.slice xp xn xc) co.sides:=hx3.2.2;have hxn:xn=co.sides.length:=by obtain ⟨q,cc,hq⟩:=za2 hsv; simp at hq; exact hq.2.1
     subst hxn;refine kP (tN (sQ (bK (sW I (lU (iA ak zT3 I I hb1 oM sL) (lK (eB iT3 I (za5 hr2) hgx I) (lA I (aT I (sW I (lU (nC I) (lU (fA qv I tu I) (lK (qL isAgg85 I (cK hb I)) (lM I (lK (SQ.eq (v':=rcv ⟨xi,xd,xp,co.sides.length,xc⟩) (SQ.lookup mty85 I I (cG.known hm)) hx1) (lU (SU.field ar I dE I I) (lU (eN cM I) (lM I (tZ (bK ?_)))))))))))))))))));refine oP (ι:=Nat) (fun j=>[(2,pp b2 0),(4,pp b4 0),(5,pp b 0),(6,.slice p1 RL.length c1),(7,.slice p2 CL.length c2),(8,.slice (some ⟨b42,0,none⟩) RL.length RL.length),(10,vi k),(55,.slice p2 CL.length c2),(56,vi CL.length),(57,vi k),(68,.slice xp co.sides.length xc),(69,vi co.sides.length),(70,vi j)]) (fun _=>g3)
      (fun j=>rowA encSv 25 (.slice (some ⟨b42,0,none⟩) RL.length RL.length) vs::(ke vs ((co.sides.take j).foldl (df RL k) M)++(pt b4 (.cells #[vi 0,vi 0,.slice none 0 0] 58 (0,0))::pt b2 (.cells #[v] 30 (0,0))::s)))
      (fun j=>j≤co.sides.length) (fun j=>co.sides.length - j) 0 sB rfl rfl (zf3 _) ?_
     rintro j hj;refine rZ (yL I (tZ (sQ ?_)));refine iP I (fun hlt3=>?_) (fun hlt3=>?_)
     ·have hjl:j<co.sides.length:=oM;have hb2:=za4 hsv oM;have hgj:co.sides[((j:Nat):Int).toNat]?=some co.sides[j]:=gE hjl;have hts:(co.sides.take (j+1)).foldl (df RL k) M=df RL k ((co.sides.take j).foldl (df RL k) M) co.sides[j]:=by
       rw[tS hjl,zi6]; rfl
      have hsh2:=gX.fold RL k (co.sides.take j) hsh;generalize (co.sides.take j).foldl (df RL k) M=M2 at *;generalize co.sides[j]=z at *;refine kP (tN (sQ (bK (rZ (lU (iA cM cq I I hb2 oM sL) (lK (eA mT cq I hsv.rd hgj) (bW (aL zk9) fun b13=>?_)))))));refine oZ (sK 0 cq I I I I I sB) ?_;refine tZ (sW I (lU (fA dK I zT3 I) (lK (qL iT3 I (cO 0 I I)) (lW (cL call74 I (qF E g3 _ _ RL z.cell hr1 oM (hasc.imp Int.le_of_lt))) ?_))));rintro _ _ _ ⟨rfl,rfl,rfl⟩;refine lM I (yX I (yX I (lA I (aT I (sW I (tZ ?_))))));refine iQ I (fun hcon=>?_) (fun hcon=>?_)
      ·have hi:=lb_get hasc hcon;have hvi:lbI RL z.cell<vs.length:=oM;obtain ⟨bv,hgv⟩:=hvg.get hvi;have hMi:lbI RL z.cell<M2.length:=by rw[hsh2.1]; exact hi
       have hgM:M2[lbI RL z.cell]?=some M2[lbI RL z.cell]:=gE hMi;have hrl:=(hsh2.2 _ (gM hMi)).1;have hgv':vs[((lbI RL z.cell:Nat):Int).toNat]?=some ⟨some ⟨bv,0,none⟩,CL.length,CL.length⟩:=hgv;have hstep:df RL k M2 z=addAt M2 (lbI RL z.cell) k z.sign:=by unfold df; rw[zf7 hcon]
       generalize M2[lbI RL z.cell]=r at *;generalize lbI RL z.cell=i at *;have hgk:r[((k:Nat):Int).toNat]?=some (r[k]'oM):=gE _;have hadd:=Da (k:=k) (z:=z.sign) hgM hgk;generalize r[k]'oM=a at *;refine dW [11] [(0,2),(1,2),(2,2),(3,1),(4,2),(5,2),(6,1),(7,2),(8,1),(9,2),(10,2),(11,0)] zd9 kR ?_;refine yM I (yM I (pU I (iA bH bZ I I I oM sL) (pK I (eB (u:=.slice (some ⟨bv,0,none⟩) CL.length CL.length) dx I (zb5 1 I) hgv' I) (yM I (pU I (iA ak zT3 I I I oM sL) (pK I (eB iT3 I (zb5 (i+2) (A8 hgv hgM)) hgk I) (pU I (fA dK I zT3 I) (pK I (qL iT3 I (cO 0 I I)) (pU I (zd6 I I) (pU I (iA ak zT3 I I I oM sL) (SP.on I (sT (a:=IntKind.i64.wrap (a+z.sign)) (i+2) zT3 I I (A8 hgv hgM) oM I) (.inl dC) ?_)))))))))));rintro _ _ _ ⟨rfl,rfl⟩;refine pN (bN (tN (rG (yD I (lM I (nL ?_))))));refine ST.to (fun w hw=>?_) (g':=g3) (s':=rowA encSv 25 (.slice (some ⟨b42,0,none⟩) RL.length RL.length) vs::(ke vs (df RL k M2 z)++(pt b4 (.cells #[vi 0,vi 0,.slice none 0 0] 58 (0,0))::pt b2 (.cells #[v] 30 (0,0))::s))) ?_
       ·have hst:=Gh (S:=pt b4 (.cells #[vi 0,vi 0,.slice none 0 0] 58 (0,0))::pt b2 (.cells #[v] 30 (0,0))::s) (r.set k (IntKind.i64.wrap (a+z.sign))) hgv (by rw[hvR,hsh2.1]:vs.length=M2.length);rw[hstep,hadd,← hst];exact hw.sublist (.cons _ (.refl _))
       exact gA (j+1) sB I (by rw[hts]) oM oM
      ·have hstep:df RL k M2 z=M2:=by unfold df; rw[hcon]; rfl
       refine kP (bN (tN (rG (yD I (lM I (nL (dR (.cons _ (.refl _)) ?_)))))));exact gA (j+1) sB I (by rw[hts,hstep]) oM oM
     ·have hjj:co.sides.take j=co.sides:=tL oM;rw[hjj,← hsucc];refine xI (tX (tX (bX (bN (tN (rG (yD I (lM I (nL ?_)))))))));exact gA (k+1) sB I I oM oM
    ·have hkk:k=CL.length:=oM;subst hkk;have hsh:=ei A RL CL CL.length;refine SC.freezeLs (by rw[hvR,hsh.1]) (fun x hx r hr=>by obtain ⟨bb,rfl⟩:=hvg x hx; exact ((hsh.2 r hr).1).symm) fun g4 hle4 hls=>?_;refine xI (tX (tX (bX (tN (sW I (lW (cL call75 I (Hd E g4 _ _ _ CL.length hls (hsh.rows hRp oM oM))) ?_))))));rintro _ g5 _ ⟨rfl,hle5,mp,mk,rfl,hmr⟩;refine oZ (sK 0 qu I I I I I sB) ?_;refine tZ (rE ?_);rw[hsh.1] at hmr ⊢;exact ST.retCD 0 s (.inl I) results33 I isAgg58 qu I I uR ⟨I,hle.trans (hle4.trans hle5),mp,mk,I,hmr⟩
end Go.Proofs.YtkbagdedfdfjhaaGreatDoor
