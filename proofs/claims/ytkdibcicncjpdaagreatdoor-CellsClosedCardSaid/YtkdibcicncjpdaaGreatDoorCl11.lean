/- SyX SyY SyU SyT RefA SyW SyZ Wid1 Wid2 Wid3 Wid4 Wid5 Mtx1 Mtx2 Mtx3 Mtx4 -/
import Derived.Test.YtkdibcicncjpdaaGreatDoorCl04
import Derived.RangeFuncLeaves
import Derived.RangeFuncRecord
import Derived.RangeFuncSeq
import Derived.OrdersIn
import Derived.TacticsIn
import Derived.Test.YtkdibcicncjpdaaGreatDoorCl07
import Derived.Test.YtkdibcicncjpdaaGreatDoorCl05
import Derived.Laws.BytesString
import Derived.Laws.Strings
import Derived.Test.YtkdibcicncjpdaaGreatDoorCl02
import Derived.Shelf.Strings.Trim
import Derived.Test.YtkdibcicncjpdaaGreatDoorCl06
import Derived.Test.YtkdibcicncjpdaaGreatDoorCl09
set_option linter.unusedSimpArgs false
set_option linter.unusedVariables false
namespace Go.Sy
open Go
structure Md where
 ro : Option Nat
 ds : List Deferred
def wf (ro : Option Nat) : Fence:={ fn:=fun _=>True,depth:=none,alive:=false,round:=ro }
def bare (a : Act) : Act:={ a with defers:=[] }
theorem bare_eval (a : Act) : (bare a).eval = a.eval:=by funext x; cases x <;> rfl
theorem bare_put (a : Act) (d : Option Tmp) (v : Value) : bare (a.put d v) = (bare a).put d v:=by cases d <;> rfl
theorem put_defers (a : Act) (d : Option Tmp) (v : Value) : (a.put d v).defers = a.defers:=by cases d <;> rfl
def Okd (ds : List Deferred) (N : Nat) (f : Fr) (a : Act) : Prop:=a.defers = ds ∧ Ok N f (bare a)
section
variable {P : Program} {M : Md} {N : Nat} {E : World} {Q : Exit → Act → World → Prop} {f f' : Fr} {g g' : PH} {s s' : Own} {ops : Array Oper}
theorem Okd.put {ds : List Deferred} {a : Act} (h : Okd ds N f a) {d : Nat} (hlt : d < N) (v : Value) : Okd ds N ((d,v) :: f) (a.put (some d) v):=⟨h.1,by rw [bare_put]; exact h.2.put hlt v⟩
theorem Okd.sub {ds : List Deferred} {a : Act} (h : Okd ds N f a) (hs : Sub f' f) : Okd ds N f' a:=⟨h.1,h.2.sub hs⟩
theorem Okd.ev {ds : List Deferred} {a : Act} (h : Okd ds N f a) {x : Operand} {v : Value} (hx : Sy.ev f x = some v) : a.eval x = v:=by rw [← bare_eval]; exact h.2.ev hx
def XC (P : Program) (M : Md) (N : Nat) (E : World) (c : Code) (Q : Exit → Act → World → Prop) (f : Fr) (g : PH) (s : Own) : Prop:=∀ a w,Okd M.ds N f a → At E g s w → c.wpIn (wf M.ro) 0 P Q a w
def XT (M : Md) (N : Nat) (E : World) (Q : Exit → Act → World → Prop) (e : Exit) (f : Fr) (g : PH) (s : Own) : Prop:=∀ a w,Okd M.ds N f a → At E g s w → Q e a w
def XL (P : Program) (M : Md) (N : Nat) (E : World) (ops : Array Oper) (Q : Exit → Act → World → Prop) (l : List Oper) (f : Fr) (g : PH) (s : Own) : Prop:=∀ a w,Okd M.ds N f a → At E g s w → wpListIn (wf M.ro) 0 P ops Q l a w
def XO (P : Program) (M : Md) (N : Nat) (E : World) (o : Oper) (f : Fr) (g : PH) (s : Own) (K : Value → PH → Own → Prop) : Prop :=
 ∀ a w,Okd M.ds N f a → At E g s w → ∀ (Q : Exit → Act → World → Prop) (next : Act → World → Prop),
  (∀ v g' s' w',K v g' s' → At E g' s' w' → next (a.put o.dst v) w') → o.wpIn (wf M.ro) 0 P a w next Q
theorem XC.to {c : Code} (h : ∀ w,At E g s w → At E g' s' w) (hc : XC P M N E c Q f g' s') : XC P M N E c Q f g s:=fun a w ha hw=>hc a w ha (h w hw)
theorem XT.drop {e : Exit} (hs : s'.Sublist s) (h : XT M N E Q e f g s') : XT M N E Q e f g s:=fun a w ha hw=>h a w ha (hw.sublist hs)
theorem XL.to {l : List Oper} (h : ∀ w,At E g s w → At E g' s' w) (hc : XL P M N E ops Q l f g' s') : XL P M N E ops Q l f g s:=fun a w ha hw=>hc a w ha (h w hw)
theorem XC.facts {c : Code} (h : (∃ w,At E g s w) → XC P M N E c Q f g s) : XC P M N E c Q f g s:=fun a w ha hw=>h ⟨w,hw⟩ a w ha hw
theorem XL.facts {l : List Oper} (h : (∃ w,At E g s w) → XL P M N E ops Q l f g s) : XL P M N E ops Q l f g s:=fun a w ha hw=>h ⟨w,hw⟩ a w ha hw
theorem XT.facts {e : Exit} (h : (∃ w,At E g s w) → XT M N E Q e f g s) : XT M N E Q e f g s:=fun a w ha hw=>h ⟨w,hw⟩ a w ha hw
theorem XC.skip (h : XT M N E Q .normal f g s) : XC P M N E .skip Q f g s:=fun a w ha hw=>wpIn_skip (h a w ha hw)
theorem XC.ret (h : XT M N E Q .ret f g s) : XC P M N E .ret Q f g s:=fun a w ha hw=>wpIn_ret (h a w ha hw)
theorem XC.exit {id : Nat} (h : XT M N E Q (.exit id) f g s) : XC P M N E (.exit id) Q f g s:=fun a w ha hw=>wpIn_exit (h a w ha hw)
theorem XC.seq {x y : Code} (h : XC P M N E x (Exit.then (y.wpIn (wf M.ro) 0 P Q) Q) f g s) : XC P M N E (.seq x y) Q f g s:=fun a w ha hw=>wpIn_seq (h a w ha hw)
theorem XC.block {id : Nat} {c : Code} (h : XC P M N E c (Exit.inBlock id Q) f g s) : XC P M N E (.block id c) Q f g s:=fun a w ha hw=>wpIn_block (h a w ha hw)
theorem XC.cond {c : Operand} {x y : Code} {t : Bool} (hc : ev f c = some (.bool t)) (h : XC P M N E (if t then x else y) Q f g s) : XC P M N E (.cond c x y) Q f g s :=
 fun a w ha hw=>wpIn_cond (ha.ev hc) (h a w ha hw)
theorem XC.condT {c : Operand} {x y : Code} (hc : ev f c = some (.bool true)) (h : XC P M N E x Q f g s) : XC P M N E (.cond c x y) Q f g s:=XC.cond hc h
theorem XC.condF {c : Operand} {x y : Code} (hc : ev f c = some (.bool false)) (h : XC P M N E y Q f g s) : XC P M N E (.cond c x y) Q f g s:=XC.cond hc h
theorem XC.ifB {c : Operand} {x y : Code} {t : Bool} (hc : ev f c = some (.bool t)) (h1 : t = true → XC P M N E x Q f g s) (h2 : t = false → XC P M N E y Q f g s) :
  XC P M N E (.cond c x y) Q f g s:=by
 cases t
 ·exact XC.condF hc (h2 I)
 ·exact XC.condT hc (h1 I)
theorem XC.ifP {c : Operand} {x y : Code} {p : Prop} [Decidable p] (hc : ev f c = some (.bool (decide p))) (h1 : p → XC P M N E x Q f g s) (h2 : ¬ p → XC P M N E y Q f g s) :
  XC P M N E (.cond c x y) Q f g s :=
 XC.ifB hc (fun h=>h1 (of_decide_eq_true h)) (fun h=>h2 (of_decide_eq_false h))
theorem XT.thenN {c : Code} (h : XC P M N E c Q f g s) : XT M N E (Exit.then (c.wpIn (wf M.ro) 0 P Q) Q) .normal f g s:=h
theorem XT.thenX {K : Act → World → Prop} {id : Nat} (h : XT M N E Q (.exit id) f g s) : XT M N E (Exit.then K Q) (.exit id) f g s:=h
theorem XT.blockN {id : Nat} (h : XT M N E Q .normal f g s) : XT M N E (Exit.inBlock id Q) .normal f g s:=h
theorem XT.blockX {id : Nat} (h : XT M N E Q .normal f g s) : XT M N E (Exit.inBlock id Q) (.exit id) f g s:=fun a w ha hw=>by simpa [Exit.inBlock] using h a w ha hw
def AgainX {ι : Type} (ds : List Deferred) (N : Nat) (E : World) (F : ι → Fr) (G : ι → PH) (S : ι → Own) (J : ι → Prop) (μ : ι → Nat) (i : ι) (a : Act) (w : World) : Prop :=
 ∃ j,Okd ds N (F j) a ∧ At E (G j) (S j) w ∧ J j ∧ μ j < μ i
theorem XT.again {ι : Type} {F : ι → Fr} {G : ι → PH} {S : ι → Own} {J : ι → Prop} {μ : ι → Nat} {i : ι} (j : ι) (hf : Sub (F j) f) (hg : G j = g) (hs : S j = s) (hJ : J j) (hμ : μ j < μ i) :
  XT M N E (Exit.then (AgainX M.ds N E F G S J μ i) Q) .normal f g s:=fun _ _ ha hw=>⟨j,ha.sub hf,by rw [hg,hs]; exact hw,hJ,hμ⟩
theorem XC.loop {ι : Type} {c : Code} (F : ι → Fr) (G : ι → PH) (S : ι → Own) (J : ι → Prop) (μ : ι → Nat) (i : ι) (hf : Sub (F i) f) (hg : G i = g) (hs : S i = s) (h0 : J i)
  (round : ∀ i,J i → XC P M N E c (Exit.then (AgainX M.ds N E F G S J μ i) Q) (F i) (G i) (S i)) : XC P M N E (.loop c) Q f g s:=by
 intro a w ha hw
 have key : ∀ n,∀ (i : ι) (a : Act) (w : World),μ i = n → Okd M.ds N (F i) a → At E (G i) (S i) w → J i → ∀ (b : Frame) (k : List Item) (cs : List Frame),b.roundOf = (wf M.ro).round → (wf M.ro).fn b.fn → (wf M.ro).room (cs.length + 1 + 0) →
   ∃ e a' w',Q e a' w' ∧ ArrivesIn (Machine.fenced P (wf M.ro)) P (lone (b.atR a (.code c :: .inLoop c :: k)) cs w) b k cs e a' w':=by
  intro n
  induction n using Nat.strongRecOn with
  | _ n ih =>
   intro i a w hn ha hI hJ b k cs hro hb hr
   obtain ⟨e,a₁,w₁,hq,harr⟩:=round i hJ a w ha hI b (.inLoop c :: k) cs hro hb hr
   cases e with
   | normal =>
    obtain ⟨j,hok,hI₁,hJ₁,hlt⟩:=hq
    obtain ⟨e₂,a₂,w₂,hq₂,harr₂⟩:=ih (μ j) (hn ▸ hlt) j a₁ w₁ rfl hok hI₁ hJ₁ b k cs hro hb hr
    exact ⟨e₂,a₂,w₂,hq₂,.of_steps (StepsIn.trans harr (.one (fenced_calm hb hr I) stepR_inLoop)) harr₂⟩
   | exit id=>exact ⟨_,a₁,w₁,hq,.pass (x:=.inLoop c) rfl (fun _ _=>.inl (by simp)) harr⟩
   | goto l=>exact ⟨_,a₁,w₁,hq,.pass (x:=.inLoop c) rfl (fun _ _=>.inl (by simp)) harr⟩
   | ret=>exact ⟨_,a₁,w₁,hq,.pass (x:=.inLoop c) rfl (fun _ _=>.inl (by simp)) harr⟩
   | panic ch=>exact ⟨_,a₁,w₁,hq,.pass (x:=.inLoop c) rfl (fun _ _=>.inl (by simp)) harr⟩
   | outgrown=>exact ⟨_,a₁,w₁,hq,.pass (x:=.inLoop c) rfl (fun _ _=>.inl (by simp)) harr⟩
 intro b k cs hro hb hr
 obtain ⟨e,a',w',hq,harr⟩:=key _ i a w rfl (ha.sub hf) (by rw [hg,hs]; exact hw) h0 b k cs hro hb hr
 exact ⟨e,a',w',hq,.of_steps (.one (fenced_calm hb hr I) stepR_loop) harr⟩
theorem XC.region {id : Nat} (h : XL P M N E ops Q ops.toList f g s) : XC P M N E (.region id ops false) Q f g s:=fun a w ha hw=>wpIn_region_list (h a w ha hw)
theorem XL.nil (h : XT M N E Q .normal f g s) : XL P M N E ops Q [] f g s:=fun a w ha hw=>h a w ha hw
theorem SO.xo {o : Oper} {K : Value → PH → Own → Prop} (hno : ∀ c,o.op ≠ .defer c) (h : SO P N E o f g s K) : XO P M N E o f g s K:=by
 intro a w ha hw Q next hn
 refine ⟨fun _ _=>trivial,?_⟩
 rw [Oper.semAt_eq _ _ _ hno]
 have h1:=h (bare a) w ha.2 hw (fun _ _ _=>False) (fun a' w'=>a'.defers = [] ∧ ∃ v g' s',a' = (bare a).put o.dst v ∧ K v g' s' ∧ At E g' s' w') (fun v g' s' w' hK hw'=>⟨put_defers _ _ _,v,g',s',rfl,hK,hw'⟩)
 unfold Oper.wp at h1
 rw [bare_eval] at h1
 have key : ∀ v w',(((bare a).put o.dst v).defers = [] ∧ ∃ v' g' s',(bare a).put o.dst v = (bare a).put o.dst v' ∧ K v' g' s' ∧ At E g' s' w') → next (a.put o.dst v) w':=by
  rintro v w' ⟨_,v',g',s',he,hK,hw'⟩
  have : a.put o.dst v = a.put o.dst v':=by
   cases hd : o.dst with
   | none=>rfl
   | some d =>
    rw [hd] at he
    have h2:=congrArg Act.tmps he
    cases a
    simp only [Act.put,bare] at h2 ⊢
    rw [h2]
  rw [this]
  exact hn v' g' s' w' hK hw'
 generalize (execOp a.eval o).run P w = r at h1
 cases r with
 | ok n w' =>
  cases n <;> simp only [Oper.upon] at h1 <;> first | exact h1.elim | skip
  ·exact key _ _ h1
  ·exact key _ _ h1
  ·rename_i f' args
   exact ⟨fun h=>(by cases h),(CallsIn.more (n:=0) ((callsIn_wide (n:=0)).2 (Calls.mono h1 (fun e w'' he=>by cases e with | returned v=>exact key _ _ he | panicked c=>exact he.elim | outgrown=>obtain ⟨_,_,h2⟩:=he; exact h2.elim))) (Nat.zero_le _))⟩
  ·exact absurd h1.1 (by rw [put_defers]; simp)
  ·exact ⟨fun h=>(by cases h),fun c cs _=>let ⟨v,w'',r,st⟩:=h1 c cs; ⟨v,w'',key _ _ r,stepsIn_wide.2 st⟩⟩
 | halt x w'=>cases x <;> simp only [Oper.upon] at h1 <;> exact h1.elim
theorem XL.step {o : Oper} {l : List Oper} {K : Value → PH → Own → Prop} (hg : Gd N ops f o true) (ho : XO P M N E o f g s K)
  (h : ∀ v g' s' a,K v g' s' → Okd M.ds N f a → ∃ f',Okd M.ds N f' (a.put o.dst v) ∧ XL P M N E ops Q l f' g' s') : XL P M N E ops Q (o :: l) f g s:=by
 intro a w ha hw
 unfold wpListIn
 have hwt : Region.wanted o (yielded ops a.tmps) = true:=hg (bare a) ha.2
 rw [if_pos hwt]
 refine ho a w ha hw Q _ fun v g' s' w' hK hw'=>?_
 obtain ⟨f',hf',hn⟩:=h v g' s' a hK ha
 exact hn _ _ hf' hw'
theorem XL.x {d : Nat} {op : Op} {ty : TypeId} {pos : String} {af : Array Edge} {l : List Oper} {K : Value → PH → Own → Prop} (ho : XO P M N E ⟨some d,op,ty,pos,af,none⟩ f g s K) (hd : d < N)
  (h : ∀ v g' s',K v g' s' → XL P M N E ops Q l ((d,v) :: f) g' s') : XL P M N E ops Q (⟨some d,op,ty,pos,af,none⟩ :: l) f g s :=
 XL.step (Gd.none rfl) ho fun v g' s' _ hK ha=>⟨_,ha.put hd v,h v g' s' hK⟩
theorem XL.go {d : Nat} {op : Op} {ty : TypeId} {pos : String} {af : Array Edge} {gd : Option (Nat × Bool)} {l : List Oper} {K : Value → PH → Own → Prop} (hg : Gd N ops f ⟨some d,op,ty,pos,af,gd⟩ true) (ho : SO P N E ⟨some d,op,ty,pos,af,gd⟩ f g s K) (hd : d < N)
  (h : ∀ v g' s',K v g' s' → XL P M N E ops Q l ((d,v) :: f) g' s') (hno : ∀ c,op ≠ .defer c:=by intro _ h; cases h) : XL P M N E ops Q (⟨some d,op,ty,pos,af,gd⟩ :: l) f g s :=
 XL.step hg (ho.xo hno) fun v g' s' _ hK ha=>⟨_,ha.put hd v,h v g' s' hK⟩
theorem XL.o {d : Nat} {op : Op} {ty : TypeId} {pos : String} {af : Array Edge} {l : List Oper} {K : Value → PH → Own → Prop} (ho : SO P N E ⟨some d,op,ty,pos,af,none⟩ f g s K) (hd : d < N)
  (h : ∀ v g' s',K v g' s' → XL P M N E ops Q l ((d,v) :: f) g' s') (hno : ∀ c,op ≠ .defer c:=by intro _ h; cases h) : XL P M N E ops Q (⟨some d,op,ty,pos,af,none⟩ :: l) f g s :=
 XL.go (Gd.none rfl) ho hd h hno
theorem XL.on {op : Op} {ty : TypeId} {pos : String} {af : Array Edge} {l : List Oper} {K : Value → PH → Own → Prop} (ho : SO P N E ⟨none,op,ty,pos,af,none⟩ f g s K)
  (h : ∀ v g' s',K v g' s' → XL P M N E ops Q l f g' s') (hno : ∀ c,op ≠ .defer c:=by intro _ h; cases h) : XL P M N E ops Q (⟨none,op,ty,pos,af,none⟩ :: l) f g s :=
 XL.step (Gd.none rfl) (ho.xo hno) fun v g' s' _ hK ha=>⟨f,ha,h v g' s' hK⟩
theorem XL.gq {d : Nat} {op : Op} {ty : TypeId} {pos : String} {af : Array Edge} {gd : Option (Nat × Bool)} {l : List Oper} {v : Value} (hg : Gd N ops f ⟨some d,op,ty,pos,af,gd⟩ true) (hq : SQ P N E ⟨some d,op,ty,pos,af,gd⟩ f g s v) (hd : d < N)
  (h : XL P M N E ops Q l ((d,v) :: f) g s) (hno : ∀ c,op ≠ .defer c:=by intro _ h; cases h) : XL P M N E ops Q (⟨some d,op,ty,pos,af,gd⟩ :: l) f g s :=
 XL.go hg hq.so hd (fun v' g' s' ⟨e1,e2,e3⟩=>by subst e1; subst e2; subst e3; exact h) hno
theorem XL.q {d : Nat} {op : Op} {ty : TypeId} {pos : String} {af : Array Edge} {l : List Oper} {v : Value} (hq : SQ P N E ⟨some d,op,ty,pos,af,none⟩ f g s v) (hd : d < N)
  (h : XL P M N E ops Q l ((d,v) :: f) g s) (hno : ∀ c,op ≠ .defer c:=by intro _ h; cases h) : XL P M N E ops Q (⟨some d,op,ty,pos,af,none⟩ :: l) f g s:=XL.gq (Gd.none rfl) hq hd h hno
theorem XL.gu {d : Nat} {op : Op} {ty : TypeId} {pos : String} {af : Array Edge} {gd : Option (Nat × Bool)} {l : List Oper} {v : Value} (hg : Gd N ops f ⟨some d,op,ty,pos,af,gd⟩ true) (hq : SU P N ⟨some d,op,ty,pos,af,gd⟩ f v) (hd : d < N)
  (h : XL P M N E ops Q l ((d,v) :: f) g s) (hno : ∀ c,op ≠ .defer c:=by intro _ h; cases h) : XL P M N E ops Q (⟨some d,op,ty,pos,af,gd⟩ :: l) f g s:=XL.gq hg hq.sq hd h hno
theorem XL.u {d : Nat} {op : Op} {ty : TypeId} {pos : String} {af : Array Edge} {l : List Oper} {v : Value} (hq : SU P N ⟨some d,op,ty,pos,af,none⟩ f v) (hd : d < N)
  (h : XL P M N E ops Q l ((d,v) :: f) g s) (hno : ∀ c,op ≠ .defer c:=by intro _ h; cases h) : XL P M N E ops Q (⟨some d,op,ty,pos,af,none⟩ :: l) f g s:=XL.q hq.sq hd h hno
theorem XL.off {d : Nat} {op : Op} {ty : TypeId} {pos : String} {af : Array Edge} {gd : Option (Nat × Bool)} {l : List Oper} (hg : Gd N ops f ⟨some d,op,ty,pos,af,gd⟩ false) (hd : d < N)
  (h : XL P M N E ops Q l ((d,undef) :: f) g s) : XL P M N E ops Q (⟨some d,op,ty,pos,af,gd⟩ :: l) f g s:=by
 intro a w ha hw
 unfold wpListIn
 have hwt : Region.wanted (⟨some d,op,ty,pos,af,gd⟩ : Oper) (yielded ops a.tmps) = false:=hg (bare a) ha.2
 rw [if_neg (by rw [hwt]; simp)]
 exact ⟨fun _ _=>trivial,h _ _ (ha.put hd undef) hw⟩
theorem At.obj {w : World} {b i : Nat} {o o' : Obj} (h : At E g s w) (hi : s[i]? = some (pt b o)) : At E g (s.set i (pt b o')) (w.putObj b o'):=by
 have h2:=h.fresh _ (List.mem_of_getElem? hi) b rfl
 refine h.turn hi I ⟨I,lR _⟩ I (by simp [World.putObj]) (fun k _ hk=>World.putObj_heap_other (fun e=>hk (by simp [pt,e]))) ?_ (fun b' hb'=>?_)
 ·simp only [pt,Option.bind_some]
  exact World.putObj_heap_same h2.2
 ·simp only [pt,Option.some.injEq] at hb'
  subst hb'
  exact ⟨by simpa [World.putObj] using h2.2,.inl I⟩
theorem At.here {w : World} {b i : Nat} {o : Obj} (h : At E g s w) (hi : s[i]? = some (pt b o)) : w.heap[b]? = some o:=by
 have:=h.own _ (List.mem_of_getElem? hi)
 simpa [pt] using this
end
def YieldC (P : Program) (E : World) (l : Nat) (args : Array Value) (g : PH) (s : Own) (R : Value → PH → Own → Prop) : Prop :=
 ∀ w,At E g s w → YieldAt Fence.wide 0 P l args w fun e w'=>∃ v g' s',e = .returned v ∧ At E g' s' w' ∧ R v g' s'
def Gives (P : Program) (E : World) (gf : FuncId) (lb : List Value) {α : Type} (encs : α → List Value) (xs : List α) (g0 : PH) : Prop :=
 ∀ (l : Nat) (ι : Type) (G : ι → PH) (S : ι → Own) (J : List α → ι → Prop) (i0 : ι),J [] i0 → (∀ pre i,J pre i → Le g0 (G i)) →
  (∀ pre x suf i sx,xs = pre ++ x :: suf → J pre i → YieldC P E l (encs x).toArray (G i) (S i ++ sx) (fun v g' s'=>v = .bool true ∧ ∃ j,J (pre ++ [x]) j ∧ g' = G j ∧ s' = S j ++ sx)) →
  ∀ sx,Ctr P E gf (.func (.yield l) #[] #[] :: lb).toArray (G i0) (S i0 ++ sx) (fun _ g' s'=>∃ j,J xs j ∧ g' = G j ∧ s' = S j ++ sx)
section
variable {P : Program} {M : Md} {N : Nat} {E : World} {Q : Exit → Act → World → Prop} {f : Fr} {g : PH} {s : Own} {dst : Option Tmp} {ty : TypeId} {pos : String} {af : Array Edge} {gd : Option (Nat × Bool)}
theorem XO.yield {x : Operand} {l : List Operand} {tys : Array TypeId} {vs : List Value} {k : Nat} {R : Value → PH → Own → Prop} (hx : ev f x = some (.func (.yield k) #[] #[])) (hl : evs f l = some vs) (hY : YieldC P E k vs.toArray g s R) :
  XO P M N E ⟨dst,.call ⟨.value x,l.toArray,tys⟩,ty,pos,af,gd⟩ f g s R:=by
 intro a w ha hw Q next hn
 refine ⟨fun _ _=>trivial,?_⟩
 rw [Oper.semAt_eq _ _ _ (fun _ h=>by cases h)]
 obtain ⟨fn,tmps,assign,body,hy,hR⟩:=hY w hw
 have h1 : a.eval x = .func (.yield k) #[] #[]:=ha.ev hx
 have h2 : l.map a.eval = vs:=by have:=ha.2.evs hl; rwa [bare_eval] at this
 have h3 : (execOp a.eval ⟨dst,.call ⟨.value x,l.toArray,tys⟩,ty,pos,af,gd⟩).run P w = .ok (.round k fn tmps assign body) w:=by
  simp only [execOp,resolve,h1,List.map_toArray,h2]
  simp [Deferred.ofValue,Sem.run_bind,invoke,hy]
 rw [h3]
 refine ⟨fun h=>(by cases h),RoundIn.mono hR fun e w' he=>?_⟩
 obtain ⟨v,g',s',rfl,hat,hRR⟩:=he
 exact hn v g' s' w' hRR hat
theorem Ctr.ofX {n : FuncId} {fn : Func} {c : Code} {args : List Value} {R : Value → PH → Own → Prop}
  (hf : P.funcs[n]? = some fn) (hb : fn.body = some c) (hN : fn.ntmps = N) (hle : args.length ≤ N)
  (h : XC P ⟨none,[]⟩ N E c (bodyPostM (wf none) 0 P fn (Post E R)) (entryFr 0 args) g s) : Ctr P E n args.toArray g s R:=by
 intro w hw
 refine (callsIn_wide (n:=0)).1 (callsIn_of_wp_marks (F:=wf none) hf hb trivial (h _ w ⟨I,⟨I,?_,fun t v hv=>?_⟩⟩ hw) I)
 ·simp [bare,hN]; omega
 ·obtain ⟨_,h2⟩:=get?_entryFr args 0 t v hv
  have hlt : t < args.length:=(List.getElem?_eq_some_iff.1 (by simpa using h2)).1
  simp only [Nat.sub_zero] at h2
  obtain ⟨_,h3⟩:=List.getElem?_eq_some_iff.1 h2
  simp [bare,Array.getElem?_append,hlt,h3]
theorem XT.leave0 {fn : Func} {R : Value → PH → Own → Prop} {e : Exit} (he : e = .ret ∨ e = .normal) (h : ST N E (bodyPost P fn (Post E R)) e f g s) : XT ⟨none,[]⟩ N E (bodyPostM (wf none) 0 P fn (Post E R)) e f g s:=by
 intro a w ha hw
 have h1:=h (bare a) w ha.2 hw
 rcases he with rfl | rfl
 all_goals
  obtain ⟨_,v,h2,h3⟩:=h1
  show LeavesInM _ _ _ _ _ _ a.defers _ _
  rw [ha.1]
  exact ⟨v,h2,h3⟩
theorem XT.leave1 {fn : Func} {R : Value → PH → Own → Prop} {e : Exit} {D : Nat} (he : e = .ret ∨ e = .normal) (h : ST N E (bodyPost P fn (Post E R)) e f g s) :
  XT ⟨none,[⟨.collected D,#[]⟩]⟩ N E (bodyPostM (wf none) 0 P fn (Post E R)) e f g (pt D (.deferred (some [])) :: s):=by
 intro a w ha hw
 have hD : w.heap[D]? = some (.deferred (some [])):=At.here (i:=0) hw rfl
 have hw2:=(At.obj (i:=0) (o':=.deferred none) hw rfl).sublist (List.sublist_cons_self _ _)
 have h1:=h (bare a) _ ha.2 hw2
 rcases he with rfl | rfl
 all_goals
  obtain ⟨_,v,h2,h3⟩:=h1
  show LeavesInM _ _ _ _ _ _ a.defers _ _
  rw [ha.1]
  exact ⟨by simp,.inl ⟨D,_,I,run_takeDeferred hD,v,h2,h3⟩⟩
theorem params2 {a : Act} {t t' : Nat} {u u' : Value} (h : Ok N f (bare a)) (ht : t < N) (ht' : t' < N) : Ok N ((t',u') :: (t,u) :: f) { tmps:=((#[t,t'] : Array Tmp).zip [u,u'].toArray).foldl (fun t (p,v)=>t.setIfInBounds p v) a.tmps,defers:=[] }:=by
 have:=(h.put ht u).put ht' u'
 simpa [Act.put,bare] using this
def RoundEnd {α ι : Type} (E : World) (G : ι → PH) (S : ι → Own) (J : List α → ι → Prop) (pre : List α) (x : α) (sx : Own) : Exit → Act → World → Prop:=fun e _ w'=>e = .normal ∧ ∃ j,At E (G j) (S j ++ sx) w' ∧ J (pre ++ [x]) j
def AssignEnd {N : Nat} (E : World) (g : PH) (s : Own) (fb : Fr) : Exit → Act → World → Prop:=fun e a' w'=>e = .normal ∧ Okd [] N fb a' ∧ At E g s w'
theorem XT.roundEnd {α ι : Type} {G : ι → PH} {S : ι → Own} {J : List α → ι → Prop} {pre : List α} {x : α} {sx : Own} (j : ι) (hg : G j = g) (hs : S j ++ sx = s) (hj : J (pre ++ [x]) j) : XT M N E (RoundEnd E G S J pre x sx) .normal f g s:=fun _ _ _ hw=>⟨rfl,j,by rw [hg,hs]; exact hw,hj⟩
theorem XT.assignEnd {fb : Fr} {ro : Option Nat} (hf : Sub fb f) : XT ⟨ro,[]⟩ N E (AssignEnd (N:=N) E g s fb) .normal f g s:=fun _ _ ha hw=>⟨rfl,ha.sub hf,hw⟩
theorem XC.rangeFunc {α ι : Type} {gop : Operand} {ps : Array Tmp} {assign body : Code} {gf : FuncId} {lb : List Value} {encs : α → List Value} {xs : List α} {g0 : PH} (G : ι → PH) (S : ι → Own) (J : List α → ι → Prop) (i0 : ι) (sx0 : Own) (fa : α → Fr) (fb : List α → α → ι → Fr)
  (hro : M.ro = none) (hg : ev f gop = some (.func (.func gf) #[] lb.toArray)) (eg : ∀ args w,(callFunc gf args).run P w = .ok (.enter gf args) w) (hps : ∀ x,(encs x).length = ps.size)
  (hG : G i0 = g) (hS : S i0 ++ sx0 = s) (hseq : Gives P E gf lb encs xs g0) (hmono : ∀ pre i,J pre i → Le g0 (G i)) (h0 : J [] i0)
  (hfa : ∀ x a,Ok N f (bare a) → Ok N (fa x) { tmps:=(ps.zip (encs x).toArray).foldl (fun t (p,v)=>t.setIfInBounds p v) a.tmps,defers:=[] })
  (hassign : ∀ l pre x i sx,J pre i → XC P ⟨some l,[]⟩ N E assign (AssignEnd (N:=N) E (G i) (S i ++ sx) (fb pre x i)) (fa x) (G i) (S i ++ sx))
  (hbody : ∀ l pre x suf i sx,xs = pre ++ x :: suf → J pre i → XC P ⟨some l,[]⟩ N E body (RoundEnd E G S J pre x sx) (fb pre x i) (G i) (S i ++ sx))
  (hdone : ∀ D j,J xs j → XT ⟨none,⟨.collected D,#[]⟩ :: M.ds⟩ N E Q .normal f (G j) (pt D (.deferred (some [])) :: (S j ++ sx0))) : XC P M N E (.rangeFunc gop ps assign body) Q f g s:=by
 subst hG hS
 intro a w ha hw
 rw [hro]
 refine wpIn_rangeFunc ?_
 intro fn _
 obtain ⟨rec,hrec⟩ : ∃ rec : LoopState → Option Code → Loop,rec = fun st pe=>{ state:=st,pending:=pe,fn,tmps:=a.tmps,params:=ps,assign,body,defers:=w.heap.size }:=⟨_,rfl⟩
 obtain ⟨L,hL⟩ : ∃ L,L = w.heap.size + 1:=⟨_,rfl⟩
 obtain ⟨D,hD⟩ : ∃ D,D = w.heap.size:=⟨_,rfl⟩
 obtain ⟨W1,hW1⟩ : ∃ W1,(w.alloc (.deferred (some []))).alloc (.loop (rec .ready none)) = W1:=⟨_,rfl⟩
 have hA : At E (G i0) (pt L (.loop (rec .ready none)) :: pt D (.deferred (some [])) :: (S i0 ++ sx0)) W1:=by
  rw [← hW1,hL,hD]
  have h1 : At E (G i0) (pt w.heap.size (.deferred (some [])) :: (S i0 ++ sx0)) (w.alloc (.deferred (some []))):=hw.alloc (e:=pt w.heap.size (.deferred (some []))) rfl rfl
  have h2:=h1.alloc (e:=pt (w.alloc (.deferred (some []))).heap.size (.loop (rec .ready none))) rfl rfl
  rw [World.size_alloc] at h2
  exact h2
 obtain ⟨S2,hS2⟩ : ∃ S2 : ι → Own,S2 = fun i=>S i ++ (pt L (.loop (rec .ready none)) :: pt D (.deferred (some [])) :: sx0):=⟨_,rfl⟩
 have hA2 : At E (G i0) (S2 i0 ++ []) W1:=by
  rw [hS2,List.append_nil]
  dsimp only
  refine hA.perm ?_
  have h1 : (pt L (.loop (rec .ready none)) :: pt D (.deferred (some [])) :: (S i0 ++ sx0)) = [pt L (.loop (rec .ready none)),pt D (.deferred (some []))] ++ (S i0 ++ sx0):=rfl
  have h2 : S i0 ++ (pt L (.loop (rec .ready none)) :: pt D (.deferred (some [])) :: sx0) = S i0 ++ ([pt L (.loop (rec .ready none)),pt D (.deferred (some []))] ++ sx0):=rfl
  rw [h1,h2,← List.append_assoc,← List.append_assoc]
  exact List.perm_append_comm.append_right _
 refine ⟨L,[{ target:=.collected D,args:=#[] }],W1,{ target:=.fn (.func gf) lb.toArray,args:=#[.func (.yield L) #[] #[]] },W1,gf,(.func (.yield L) #[] #[] :: lb).toArray,W1,?_,?_,fun _ _=>trivial,?_,fun h=>(by cases h),?_⟩
 ·rw [← hW1,hrec,hL,hD]; exact run_enterLoop_outer _ _ _ _ _
 ·have h1 : a.eval gop = .func (.func gf) #[] lb.toArray:=ha.ev hg
  simp only [resolve,h1]
  simp [go_sem]
 ·have : (#[.func (.yield L) #[] #[]] ++ lb.toArray : Array Value) = (.func (.yield L) #[] #[] :: lb).toArray:=by simp
  simp [invoke,go_sem,eg]
 ·refine (callsIn_wide (n:=0 - 1)).2 ((hseq L ι G S2 J i0 h0 hmono ?_ [] W1 hA2).mono ?_)
  ·intro pre x suf i sx hxs hJ W hW
   rw [hS2] at hW
   simp only [List.append_assoc,List.cons_append] at hW
   have hlen : (S i).length = (S i).length:=rfl
   have gl : ∀ (i : ι) (u u' : Ent) (r : Own),(S i ++ u :: u' :: r)[(S i).length]? = some u:=fun i u u' r=>by simp
   have hl:=hW.here (gl i _ _ _)
   have hy:=run_yield (P:=P) (args:=(encs x).toArray) hl (by rw [hrec]; simpa using hps x)
   rw [hrec] at hy
   refine ⟨fn,_,assign,body,hy,roundIn_of_wpIn trivial ?_⟩
   refine Code.wpIn_mono (fun e a1 w1 h1=>?_) (hassign L pre x i _ hJ { tmps:=(ps.zip (encs x).toArray).foldl (fun t (p,v)=>t.setIfInBounds p v) a.tmps,defers:=[] } W ⟨I,hfa x a ha.2⟩ hW)
   obtain ⟨rfl,ha1,hw1⟩:=h1
   have hl1:=hw1.here (gl i _ _ _)
   refine ⟨_,run_beginRound hl1 (by rw [hrec]),?_⟩
   have hset : ∀ (i : ι) (u u' v : Ent) (r : Own),(S i ++ u :: u' :: r).set (S i).length v = S i ++ v :: u' :: r:=fun i u u' v r=>by simp
   have hw2:=hw1.obj (o':=.loop { rec .ready none with state:=.busy }) (gl i _ _ _)
   rw [hset] at hw2
   refine Code.wpIn_mono (fun e a3 w3 h3=>?_) (hbody L pre x suf i _ hxs hJ a1 _ ha1 hw2)
   obtain ⟨rfl,j,hw3,hJ3⟩:=h3
   have hl3:=hw3.here (gl j _ _ _)
   have he:=run_endRound (P:=P) none hl3
   have hw4:=hw3.obj (o':=.loop { (rec .ready none) with state:=.ready,pending:=none }) (gl j _ _ _)
   rw [hset] at hw4
   refine ⟨_,_,he,.bool true,G j,S2 j ++ sx,I,?_,I,j,hJ3,I,I⟩
   rw [hS2]
   simp only [List.append_assoc,List.cons_append]
   rw [hrec] at hw4 ⊢
   exact hw4
  ·rintro e W2 ⟨v,g',s',rfl,hat,j,hJ,rfl,rfl⟩
   rw [hS2,List.append_nil] at hat
   have gl : ∀ (i : ι) (u u' : Ent) (r : Own),(S i ++ u :: u' :: r)[(S i).length]? = some u:=fun i u u' r=>by simp
   have hl:=hat.here (gl j _ _ _)
   have he:=run_endLoop (P:=P) hl (by rw [hrec]; simp)
   have h2:=hat.obj (o':=.loop { (rec .ready none) with state:=.exhausted }) (gl j _ _ _)
   have hset : ∀ (i : ι) (u u' v : Ent) (r : Own),(S i ++ u :: u' :: r).set (S i).length v = S i ++ v :: u' :: r:=fun i u u' v r=>by simp
   rw [hset] at h2
   have hpn : (rec .ready none).pending = none:=by rw [hrec]
   refine ⟨none,_,he.trans (congrArg (fun p=>Result.ok p _) hpn),?_⟩
   refine hdone D j hJ _ _ ⟨by rw [← ha.1]; rfl,ha.2⟩ ?_
   have h3:=(h2.sublist (s':=S j ++ pt D (.deferred (some [])) :: sx0) (by exact (List.Sublist.refl _).append (List.sublist_cons_self _ _))).perm List.perm_middle
   exact h3
end
end Go.Sy
namespace Go.Sy
open Go
section
variable {P : Program} {M : Md} {N : Nat} {E : World} {Q : Exit → Act → World → Prop} {f : Fr} {g : PH} {s : Own} {dst : Option Tmp} {ty : TypeId} {pos : String} {af : Array Edge} {gd : Option (Nat × Bool)}
theorem run_enter_in {w : World} {l₀ : Nat} {r₀ : Loop} (h : w.heap[l₀]? = some (.loop r₀)) (fn : FuncId) (tmps : Array Value) (ps : Array Tmp) (assign body : Code) :
  (Instr.enterLoop fn tmps ps assign body (some l₀)).run P w = .ok (w.heap.size,[]) (w.alloc (.loop { state:=.ready,pending:=none,fn,tmps,params:=ps,assign,body,defers:=r₀.defers })):=by
 unfold Instr.enterLoop
 simp only [Sem.run_bind,run_getLoop h,run_newObj_alloc,Result.andThen,Sem.run_pure]
theorem XC.rangeFuncIn {α ι : Type} {gop : Operand} {ps : Array Tmp} {assign body : Code} {gf : FuncId} {lb : List Value} {encs : α → List Value} {xs : List α} {g0 : PH} (G : ι → PH) (S : ι → Own) (J : List α → ι → Prop) (i0 : ι) (sx0 : Own) (fa : α → Fr) (fb : List α → α → ι → Fr)
  {l0 : Nat} (hro : M.ro = some l0) (hl0 : ∃ (r : Loop) (k : Nat),s[k]? = some (pt l0 (.loop r))) (hg : ev f gop = some (.func (.func gf) #[] lb.toArray)) (eg : ∀ args w,(callFunc gf args).run P w = .ok (.enter gf args) w) (hps : ∀ x,(encs x).length = ps.size)
  (hG : G i0 = g) (hS : S i0 ++ sx0 = s) (hseq : Gives P E gf lb encs xs g0) (hmono : ∀ pre i,J pre i → Le g0 (G i)) (h0 : J [] i0)
  (hfa : ∀ x a,Ok N f (bare a) → Ok N (fa x) { tmps:=(ps.zip (encs x).toArray).foldl (fun t (p,v)=>t.setIfInBounds p v) a.tmps,defers:=[] })
  (hassign : ∀ l pre x i sx,J pre i → XC P ⟨some l,[]⟩ N E assign (AssignEnd (N:=N) E (G i) (S i ++ sx) (fb pre x i)) (fa x) (G i) (S i ++ sx))
  (hbody : ∀ l pre x suf i sx,xs = pre ++ x :: suf → J pre i → XC P ⟨some l,[]⟩ N E body (RoundEnd E G S J pre x sx) (fb pre x i) (G i) (S i ++ sx))
  (hdone : ∀ j,J xs j → XT M N E Q .normal f (G j) (S j ++ sx0)) : XC P M N E (.rangeFunc gop ps assign body) Q f g s:=by
 subst hG hS
 intro a w ha hw
 obtain ⟨r0,k0,hk0⟩:=hl0
 have hr0 : w.heap[l0]? = some (.loop r0):=hw.here hk0
 refine wpIn_rangeFunc ?_
 intro fn _
 obtain ⟨rec,hrec⟩ : ∃ rec : LoopState → Option Code → Loop,rec = fun st pe=>{ state:=st,pending:=pe,fn,tmps:=a.tmps,params:=ps,assign,body,defers:=r0.defers }:=⟨_,rfl⟩
 obtain ⟨L,hL⟩ : ∃ L,L = w.heap.size:=⟨_,rfl⟩
 obtain ⟨W1,hW1⟩ : ∃ W1,w.alloc (.loop (rec .ready none)) = W1:=⟨_,rfl⟩
 have hA : At E (G i0) (pt L (.loop (rec .ready none)) :: (S i0 ++ sx0)) W1:=by
  rw [← hW1,hL]
  exact hw.alloc (e:=pt w.heap.size (.loop (rec .ready none))) I I
 obtain ⟨S2,hS2⟩ : ∃ S2 : ι → Own,S2 = fun i=>S i ++ (pt L (.loop (rec .ready none)) :: sx0):=⟨_,rfl⟩
 have hA2 : At E (G i0) (S2 i0 ++ []) W1:=by
  rw [hS2,List.append_nil]
  exact hA.perm List.perm_middle.symm
 refine ⟨L,[],W1,{ target:=.fn (.func gf) lb.toArray,args:=#[.func (.yield L) #[] #[]] },W1,gf,(.func (.yield L) #[] #[] :: lb).toArray,W1,?_,?_,fun _ _=>trivial,?_,fun h=>(by cases h),?_⟩
 ·rw [← hW1,hrec,hL]
  have:=run_enter_in (P:=P) hr0 fn a.tmps ps assign body
  rw [show (wf M.ro).round = some l0 from hro]
  exact this
 ·have h1 : a.eval gop = .func (.func gf) #[] lb.toArray:=ha.ev hg
  simp only [resolve,h1]
  simp [go_sem]
 ·have : (#[.func (.yield L) #[] #[]] ++ lb.toArray : Array Value) = (.func (.yield L) #[] #[] :: lb).toArray:=by simp
  simp [invoke,go_sem,eg]
 ·refine (callsIn_wide (n:=0 - 1)).2 ((hseq L ι G S2 J i0 h0 hmono ?_ [] W1 hA2).mono ?_)
  ·intro pre x suf i sx hxs hJ W hW
   rw [hS2] at hW
   simp only [List.append_assoc,List.cons_append] at hW
   have gl : ∀ (i : ι) (u : Ent) (r : Own),(S i ++ u :: r)[(S i).length]? = some u:=fun i u r=>by simp
   have hl:=hW.here (gl i _ _)
   have hy:=run_yield (P:=P) (args:=(encs x).toArray) hl (by rw [hrec]; simpa using hps x)
   rw [hrec] at hy
   refine ⟨fn,_,assign,body,hy,roundIn_of_wpIn trivial ?_⟩
   refine Code.wpIn_mono (fun e a1 w1 h1=>?_) (hassign L pre x i _ hJ { tmps:=(ps.zip (encs x).toArray).foldl (fun t (p,v)=>t.setIfInBounds p v) a.tmps,defers:=[] } W ⟨I,hfa x a ha.2⟩ hW)
   obtain ⟨rfl,ha1,hw1⟩:=h1
   have hl1:=hw1.here (gl i _ _)
   refine ⟨_,run_beginRound hl1 (by rw [hrec]),?_⟩
   have hset : ∀ (i : ι) (u v : Ent) (r : Own),(S i ++ u :: r).set (S i).length v = S i ++ v :: r:=fun i u v r=>by simp
   have hw2:=hw1.obj (o':=.loop { rec .ready none with state:=.busy }) (gl i _ _)
   rw [hset] at hw2
   refine Code.wpIn_mono (fun e a3 w3 h3=>?_) (hbody L pre x suf i _ hxs hJ a1 _ ha1 hw2)
   obtain ⟨rfl,j,hw3,hJ3⟩:=h3
   have hl3:=hw3.here (gl j _ _)
   have he:=run_endRound (P:=P) none hl3
   have hw4:=hw3.obj (o':=.loop { (rec .ready none) with state:=.ready,pending:=none }) (gl j _ _)
   rw [hset] at hw4
   refine ⟨_,_,he,.bool true,G j,S2 j ++ sx,I,?_,I,j,hJ3,I,I⟩
   rw [hS2]
   simp only [List.append_assoc,List.cons_append]
   rw [hrec] at hw4 ⊢
   exact hw4
  ·rintro e W2 ⟨v,g',s',rfl,hat,j,hJ,rfl,rfl⟩
   rw [hS2,List.append_nil] at hat
   have gl : ∀ (i : ι) (u : Ent) (r : Own),(S i ++ u :: r)[(S i).length]? = some u:=fun i u r=>by simp
   have hl:=hat.here (gl j _ _)
   have he:=run_endLoop (P:=P) hl (by rw [hrec]; simp)
   have h2:=hat.obj (o':=.loop { (rec .ready none) with state:=.exhausted }) (gl j _ _)
   have hset : ∀ (i : ι) (u v : Ent) (r : Own),(S i ++ u :: r).set (S i).length v = S i ++ v :: r:=fun i u v r=>by simp
   rw [hset] at h2
   have hpn : (rec .ready none).pending = none:=by rw [hrec]
   refine ⟨none,_,he.trans (congrArg (fun p=>Result.ok p _) hpn),?_⟩
   refine hdone j hJ _ _ ⟨by rw [← ha.1]; rfl,ha.2⟩ ?_
   exact h2.sublist ((List.Sublist.refl _).append (List.sublist_cons_self _ _))
end
end Go.Sy
namespace Go.Sy
open Go
section
variable {P : Program} {M : Md} {N : Nat} {E : World} {Q : Exit → Act → World → Prop} {f : Fr} {g : PH} {s : Own} {dst : Option Tmp} {ty : TypeId} {pos : String} {af : Array Edge} {gd : Option (Nat × Bool)}
def AssignEndA {κ : Type} {N : Nat} (E : World) (g : PH) (s : Own) (fb : κ → Fr) (X : κ → Own) : Exit → Act → World → Prop:=fun e a' w'=>e = .normal ∧ ∃ q,Okd [] N (fb q) a' ∧ At E g (X q ++ s) w'
theorem XT.assignEndA {κ : Type} {fb : κ → Fr} {X : κ → Own} {ro : Option Nat} {s0 : Own} (q : κ) (hf : Sub (fb q) f) (hs : X q ++ s0 = s) : XT ⟨ro,[]⟩ N E (AssignEndA (N:=N) E g s0 fb X) .normal f g s:=fun _ _ ha hw=>⟨rfl,q,ha.sub hf,by rw [hs]; exact hw⟩
theorem XC.rangeFuncA {α ι κ : Type} {gop : Operand} {ps : Array Tmp} {assign body : Code} {gf : FuncId} {lb : List Value} {encs : α → List Value} {xs : List α} {g0 : PH} (G : ι → PH) (S : ι → Own) (J : List α → ι → Prop) (i0 : ι) (sx0 : Own) (fa : α → Fr) (fb : List α → α → ι → κ → Fr) (X : α → κ → Own)
  (hro : M.ro = none) (hg : ev f gop = some (.func (.func gf) #[] lb.toArray)) (eg : ∀ args w,(callFunc gf args).run P w = .ok (.enter gf args) w) (hps : ∀ x,(encs x).length = ps.size)
  (hG : G i0 = g) (hS : S i0 ++ sx0 = s) (hseq : Gives P E gf lb encs xs g0) (hmono : ∀ pre i,J pre i → Le g0 (G i)) (h0 : J [] i0)
  (hfa : ∀ x a,Ok N f (bare a) → Ok N (fa x) { tmps:=(ps.zip (encs x).toArray).foldl (fun t (p,v)=>t.setIfInBounds p v) a.tmps,defers:=[] })
  (hassign : ∀ l pre x i sx,J pre i → XC P ⟨some l,[]⟩ N E assign (AssignEndA (N:=N) E (G i) (S i ++ sx) (fb pre x i) (X x)) (fa x) (G i) (S i ++ sx))
  (hbody : ∀ l pre x suf i sx q,(∃ (r : Loop) (k : Nat),sx[k]? = some (pt l (.loop r))) → xs = pre ++ x :: suf → J pre i → XC P ⟨some l,[]⟩ N E body (RoundEnd E G S J pre x sx) (fb pre x i q) (G i) (X x q ++ (S i ++ sx)))
  (hdone : ∀ D j,J xs j → XT ⟨none,⟨.collected D,#[]⟩ :: M.ds⟩ N E Q .normal f (G j) (pt D (.deferred (some [])) :: (S j ++ sx0))) : XC P M N E (.rangeFunc gop ps assign body) Q f g s:=by
 subst hG hS
 intro a w ha hw
 rw [hro]
 refine wpIn_rangeFunc ?_
 intro fn _
 obtain ⟨rec,hrec⟩ : ∃ rec : LoopState → Option Code → Loop,rec = fun st pe=>{ state:=st,pending:=pe,fn,tmps:=a.tmps,params:=ps,assign,body,defers:=w.heap.size }:=⟨_,rfl⟩
 obtain ⟨L,hL⟩ : ∃ L,L = w.heap.size + 1:=⟨_,rfl⟩
 obtain ⟨D,hD⟩ : ∃ D,D = w.heap.size:=⟨_,rfl⟩
 obtain ⟨W1,hW1⟩ : ∃ W1,(w.alloc (.deferred (some []))).alloc (.loop (rec .ready none)) = W1:=⟨_,rfl⟩
 have hA : At E (G i0) (pt L (.loop (rec .ready none)) :: pt D (.deferred (some [])) :: (S i0 ++ sx0)) W1:=by
  rw [← hW1,hL,hD]
  have h1 : At E (G i0) (pt w.heap.size (.deferred (some [])) :: (S i0 ++ sx0)) (w.alloc (.deferred (some []))):=hw.alloc (e:=pt w.heap.size (.deferred (some []))) rfl rfl
  have h2:=h1.alloc (e:=pt (w.alloc (.deferred (some []))).heap.size (.loop (rec .ready none))) rfl rfl
  rw [World.size_alloc] at h2
  exact h2
 obtain ⟨S2,hS2⟩ : ∃ S2 : ι → Own,S2 = fun i=>S i ++ (pt L (.loop (rec .ready none)) :: pt D (.deferred (some [])) :: sx0):=⟨_,rfl⟩
 have hA2 : At E (G i0) (S2 i0 ++ []) W1:=by
  rw [hS2,List.append_nil]
  dsimp only
  refine hA.perm ?_
  have h1 : (pt L (.loop (rec .ready none)) :: pt D (.deferred (some [])) :: (S i0 ++ sx0)) = [pt L (.loop (rec .ready none)),pt D (.deferred (some []))] ++ (S i0 ++ sx0):=rfl
  have h2 : S i0 ++ (pt L (.loop (rec .ready none)) :: pt D (.deferred (some [])) :: sx0) = S i0 ++ ([pt L (.loop (rec .ready none)),pt D (.deferred (some []))] ++ sx0):=rfl
  rw [h1,h2,← List.append_assoc,← List.append_assoc]
  exact List.perm_append_comm.append_right _
 refine ⟨L,[{ target:=.collected D,args:=#[] }],W1,{ target:=.fn (.func gf) lb.toArray,args:=#[.func (.yield L) #[] #[]] },W1,gf,(.func (.yield L) #[] #[] :: lb).toArray,W1,?_,?_,fun _ _=>trivial,?_,fun h=>(by cases h),?_⟩
 ·rw [← hW1,hrec,hL,hD]; exact run_enterLoop_outer _ _ _ _ _
 ·have h1 : a.eval gop = .func (.func gf) #[] lb.toArray:=ha.ev hg
  simp only [resolve,h1]
  simp [go_sem]
 ·have : (#[.func (.yield L) #[] #[]] ++ lb.toArray : Array Value) = (.func (.yield L) #[] #[] :: lb).toArray:=by simp
  simp [invoke,go_sem,eg]
 ·refine (callsIn_wide (n:=0 - 1)).2 ((hseq L ι G S2 J i0 h0 hmono ?_ [] W1 hA2).mono ?_)
  ·intro pre x suf i sx hxs hJ W hW
   rw [hS2] at hW
   simp only [List.append_assoc,List.cons_append] at hW
   have hlen : (S i).length = (S i).length:=rfl
   have gl : ∀ (i : ι) (u u' : Ent) (r : Own),(S i ++ u :: u' :: r)[(S i).length]? = some u:=fun i u u' r=>by simp
   have hl:=hW.here (gl i _ _ _)
   have hy:=run_yield (P:=P) (args:=(encs x).toArray) hl (by rw [hrec]; simpa using hps x)
   rw [hrec] at hy
   refine ⟨fn,_,assign,body,hy,roundIn_of_wpIn trivial ?_⟩
   refine Code.wpIn_mono (fun e a1 w1 h1=>?_) (hassign L pre x i _ hJ { tmps:=(ps.zip (encs x).toArray).foldl (fun t (p,v)=>t.setIfInBounds p v) a.tmps,defers:=[] } W ⟨I,hfa x a ha.2⟩ hW)
   obtain ⟨rfl,q,ha1,hw1⟩:=h1
   have glX : ∀ (X : Own) (i : ι) (u u' : Ent) (r : Own),(X ++ (S i ++ u :: u' :: r))[X.length + (S i).length]? = some u:=fun X i u u' r=>by rw [List.getElem?_append_right oM,Nat.add_sub_cancel_left]; exact gl i u u' r
   have hl1:=hw1.here (glX _ i _ _ _)
   refine ⟨_,run_beginRound hl1 (by rw [hrec]),?_⟩
   have hset : ∀ (i : ι) (u u' v : Ent) (r : Own),(S i ++ u :: u' :: r).set (S i).length v = S i ++ v :: u' :: r:=fun i u u' v r=>by simp
   have hsetX : ∀ (X : Own) (i : ι) (u u' v : Ent) (r : Own),(X ++ (S i ++ u :: u' :: r)).set (X.length + (S i).length) v = X ++ (S i ++ v :: u' :: r):=fun X i u u' v r=>by rw [List.set_append_right _ _ oM,Nat.add_sub_cancel_left,hset]
   have hw2:=hw1.obj (o':=.loop { rec .ready none with state:=.busy }) (glX _ i _ _ _)
   rw [hsetX] at hw2
   refine Code.wpIn_mono (fun e a3 w3 h3=>?_) (hbody L pre x suf i _ q ⟨_,0,I⟩ hxs hJ a1 _ ha1 hw2)
   obtain ⟨rfl,j,hw3,hJ3⟩:=h3
   have hl3:=hw3.here (gl j _ _ _)
   have he:=run_endRound (P:=P) none hl3
   have hw4:=hw3.obj (o':=.loop { (rec .ready none) with state:=.ready,pending:=none }) (gl j _ _ _)
   rw [hset] at hw4
   refine ⟨_,_,he,.bool true,G j,S2 j ++ sx,I,?_,I,j,hJ3,I,I⟩
   rw [hS2]
   simp only [List.append_assoc,List.cons_append]
   rw [hrec] at hw4 ⊢
   exact hw4
  ·rintro e W2 ⟨v,g',s',rfl,hat,j,hJ,rfl,rfl⟩
   rw [hS2,List.append_nil] at hat
   have gl : ∀ (i : ι) (u u' : Ent) (r : Own),(S i ++ u :: u' :: r)[(S i).length]? = some u:=fun i u u' r=>by simp
   have hl:=hat.here (gl j _ _ _)
   have he:=run_endLoop (P:=P) hl (by rw [hrec]; simp)
   have h2:=hat.obj (o':=.loop { (rec .ready none) with state:=.exhausted }) (gl j _ _ _)
   have hset : ∀ (i : ι) (u u' v : Ent) (r : Own),(S i ++ u :: u' :: r).set (S i).length v = S i ++ v :: u' :: r:=fun i u u' v r=>by simp
   rw [hset] at h2
   have hpn : (rec .ready none).pending = none:=by rw [hrec]
   refine ⟨none,_,he.trans (congrArg (fun p=>Result.ok p _) hpn),?_⟩
   refine hdone D j hJ _ _ ⟨by rw [← ha.1]; rfl,ha.2⟩ ?_
   have h3:=(h2.sublist (s':=S j ++ pt D (.deferred (some [])) :: sx0) (by exact (List.Sublist.refl _).append (List.sublist_cons_self _ _))).perm List.perm_middle
   exact h3
end
end Go.Sy
namespace Go.Sy
open Go
def ext (ds : List Deferred) (b : Act) : Act:={ b with defers:=b.defers ++ ds }
theorem ext_put (ds : List Deferred) (b : Act) (d : Option Tmp) (v : Value) : ext ds (b.put d v) = (ext ds b).put d v:=by cases d <;> rfl
theorem ext_eval (ds : List Deferred) (b : Act) : (ext ds b).eval = b.eval:=by funext x; cases x <;> rfl
def noDefer (ops : Array Oper) : Bool:=ops.toList.all fun o=>match o.op with | .defer _=>false | _=>true
theorem noDefer_at {ops : Array Oper} (h : noDefer ops = true) {i : Nat} {o : Oper} (hi : ops[i]? = some o) : ∀ c,o.op ≠ .defer c:=by
 intro c hc
 unfold noDefer at h
 rw [List.all_eq_true] at h
 have hm : o ∈ ops.toList:=by
  rw [Array.getElem?_eq_some_iff] at hi
  obtain ⟨hlt,rfl⟩:=hi
  simp
 have:=h o hm
 rw [hc] at this
 exact absurd this (by simp)
section
variable {P : Program} {ops : Array Oper} {ro : Option Nat} {ds : List Deferred} {Q Q0 : Exit → Act → World → Prop}
theorem wpIn_of_wp {o : Oper} {b : Act} {w : World} {K0 K : Act → World → Prop} (hno : ∀ c,o.op ≠ .defer c) (hQ0 : ∀ e b w,Q0 e b w → e = .normal) (hK : ∀ b' w',K0 b' w' → K (ext ds b') w')
  (h1 : o.wp P b w K0 Q0) : o.wpIn (wf ro) 0 P (ext ds b) w K Q:=by
 refine ⟨fun _ _=>trivial,?_⟩
 rw [Oper.semAt_eq _ _ _ hno,ext_eval]
 unfold Oper.wp at h1
 generalize (execOp b.eval o).run P w = r at h1
 cases r with
 | ok n w' =>
  cases n <;> simp only [Oper.upon] at h1 <;> first | exact h1.elim | skip
  ·have:=hK _ _ h1
   rw [ext_put] at this
   exact this
  ·have:=hK _ _ h1
   rw [ext_put] at this
   exact this
  ·refine ⟨fun h=>(by cases h),(CallsIn.more (n:=0) ((callsIn_wide (n:=0)).2 (Calls.mono h1 (fun e w'' he=>?_))) (Nat.zero_le _))⟩
   cases e with
   | returned v =>
    have:=hK _ _ he
    rw [ext_put] at this
    exact this
   | panicked c=>exact absurd (hQ0 _ _ _ he) (by simp)
   | outgrown =>
    obtain ⟨_,_,h2⟩:=he
    exact absurd (hQ0 _ _ _ h2) (by simp)
  ·have:=hK _ _ h1
   rw [ext_put] at this
   exact this
  ·exact ⟨fun h=>(by cases h),fun c cs _=>let ⟨v,w'',r,st⟩:=h1 c cs; ⟨v,w'',(by have:=hK _ _ r; rw [ext_put] at this; exact this),stepsIn_wide.2 st⟩⟩
 | halt x w' =>
  cases x <;> simp only [Oper.upon] at h1 <;> first | exact h1.elim | exact absurd (hQ0 _ _ _ h1) (by simp)
theorem wpOpIn_of_wpOp {i : Nat} {b : Act} {w : World} {K0 K : Act → World → Prop} (hnd : noDefer ops = true) (hQ0 : ∀ e b w,Q0 e b w → e = .normal) (hK : ∀ b' w',K0 b' w' → K (ext ds b') w')
  (h1 : wpOp P ops Q0 i K0 b w) : wpOpIn (wf ro) 0 P ops Q i K (ext ds b) w:=by
 unfold wpOp at h1
 unfold wpOpIn
 cases hi : ops[i]? with
 | none =>
  rw [hi] at h1
  exact hK _ _ h1
 | some o =>
  rw [hi] at h1
  dsimp only at h1 ⊢
  have ht : (ext ds b).tmps = b.tmps:=rfl
  rw [ht]
  split at h1
  ·rename_i hw
   rw [if_pos hw]
   rcases h1 with h1 | ⟨_,a',w',h2⟩
   ·exact wpIn_of_wp (noDefer_at hnd hi) hQ0 hK h1
   ·exact absurd (hQ0 _ _ _ h2) (by simp)
  ·rename_i hw
   rw [if_neg hw]
   refine ⟨fun _ _=>trivial,?_⟩
   have:=hK _ _ h1
   rw [ext_put] at this
   exact this
theorem wpAnyIn_of_wpAny (hnd : noDefer ops = true) (hQ0 : ∀ e b w,Q0 e b w → e = .normal ∧ Q .normal (ext ds b) w) : ∀ (fuel : Nat) (L : Array Bool) (b : Act) (w : World),wpAny P .any ops Q0 fuel L b w → wpAnyIn (wf ro) 0 P .any ops Q fuel L (ext ds b) w
 | 0,_,_,_,h=>⟨h.1,(hQ0 _ _ _ h.2).2⟩
 | fuel + 1,L,b,w,h=>⟨fun hr=>(hQ0 _ _ _ (h.1 hr)).2,fun i hi=>wpOpIn_of_wpOp hnd (fun e b w h=>(hQ0 e b w h).1) (fun b' w' hb=>wpAnyIn_of_wpAny hnd hQ0 fuel _ b' w' hb) (h.2 i hi)⟩
end
section
variable {P : Program} {M : Md} {N : Nat} {E : World} {Q : Exit → Act → World → Prop} {f : Fr} {g : PH} {s : Own} {ops : Array Oper}
def Qx (ds : List Deferred) (Q : Exit → Act → World → Prop) : Exit → Act → World → Prop:=fun e b w=>e = .normal ∧ Q .normal (ext ds b) w
instance (ds : List Deferred) : Quiet (Qx ds Q):=⟨fun _ _ _ _ _ h=>absurd h.1 (by simp)⟩
theorem ST.ofXT (h : XT M N E Q .normal f g s) : ST N E (Qx M.ds Q) .normal f g s:=fun a w ha hw=>⟨rfl,h _ _ ⟨by simp [ext,ha.defers],by
 have : bare (ext M.ds a) = a:=by
  obtain ⟨t,d⟩:=a
  have hd : d = []:=ha.defers
  subst hd
  rfl
 rw [this]; exact ha⟩ hw⟩
theorem XC.draw {id : Nat} (tail : List Nat) (plan : List (Nat × Nat)) (hm : P.follows .mixedOrders = true) (hok : drawOk ops tail plan = true) (hnd : noDefer ops = true)
  (h : SP P N E ops (Qx M.ds Q) g s tail plan f g s) : XC P M N E (.region id ops true) Q f g s:=by
 intro a w ha hw
 have hx : a = ext M.ds (bare a):=by
  obtain ⟨t,d⟩:=a
  have hd : d = M.ds:=ha.1
  subst hd
  simp [ext,bare]
 unfold drawOk at hok
 simp only [Bool.and_eq_true,beq_iff_eq] at hok
 rw [hx]
 refine wpIn_region_any hm (wpAnyIn_of_wpAny hnd (fun e b w h=>h) _ _ _ _ (wpAny_of_T _ _ _ _ (S:=At E g s) (tail:=tail) ?_))
 have:=h (Array.replicate ops.size false) (bare a) { w with drawn:=w.drawn + 1 } hok.1.1 (closed_none _) hok.2 ha.2 (hw.drew _ (Nat.le_succ _)) (fun _=>hw.drew _ (Nat.le_succ _))
 rw [hok.1.2] at this
 exact this
end
end Go.Sy
namespace Go.Proofs.YtkdibcicncjpdaaGreatDoor
open _root_.Go.Proofs.Tryz _root_.Go.Proofs.YtkdibcicncjpdaaGreatDoor.Tryz
open Go Go.Sy Go.Pl Go.Proofs
set_option maxRecDepth 100000
set_option maxHeartbeats 1000000
def idsC (l : List Cl) (d : Int) : List Int:=((tabC l).filter fun c=>decide (c.dim = d)).map Cl.id
theorem SU.maxI {P : Program} {N : Nat} {f : Fr} {dst : Option Tmp} {ty : TypeId} {pos : String} {af : Array Edge} {gd : Option (Nat × Bool)} {x y : Operand} {T U : TypeId} {m n : Int} (hx : ev f x = some (vi m)) (hy : ev f y = some (vi n)) :
  SU P N ⟨dst,.call ⟨.builtin .max,#[x,y],#[T,U]⟩,ty,pos,af,gd⟩ f (vi (max m n)):=fun a w ha=>by
 have h:=run_max_int2 (P:=P) (w:=w) #[T,U] ty .i64 .i64 m n
 have h2 : (if m < n then n else m) = max m n:=by split <;> omega
 rw [h2] at h
 simp [execOp,resolve,invoke,builtin,ha.ev hx,ha.ev hy,h]
end Go.Proofs.YtkdibcicncjpdaaGreatDoor
namespace Go.Sy
open Go
section
variable {α : Type} {k : Nat} {P : Program} {N : Nat} {E : World} {f : Fr} {g : PH} {s : Own} {dst : Option Tmp} {ty : TypeId} {pos : String} {af : Array Edge} {gd : Option (Nat × Bool)}
theorem SO.makeC {x y : Operand} {t T : TypeId} {bytes n : Nat} {z : Value} (e : Enc α k) (hT : STy P t T k bytes z) (hx : ev f x = some (vi 0)) (hy : ev f y = some (vi n)) (hb : n * bytes ≤ 140737488355328) (hlen : n ≤ 4611686018427387904) :
  SO P N E ⟨dst,.makeSlice t x y,ty,pos,af,gd⟩ f g s fun v' g' s'=>g = g' ∧ s' = rowA e T v' [] :: s :=
 SO.of_run fun ac w ha hw=>by
  obtain ⟨ti,ht1,ht2,ht3,ht4⟩:=hT.info
  have hbi : (ti.bytes : Int) * ((n : Nat) : Int) ≤ 281474976710656:=by
   rw [ht4,← Int.natCast_mul,Nat.mul_comm]; omega
  have h5:=run_make (P:=P) w t T ti z hT.und ht1 ht2 .i64 .i64 0 n oM oM hbi oM
  simp only [Int.toNat_natCast] at h5
  rw [ht3] at h5
  have hrun : (execOp ac.eval ⟨dst,.makeSlice t x y,ty,pos,af,gd⟩).run P w = .ok (.value (.slice (some ⟨w.heap.size,0,none⟩) 0 n)) (w.alloc (.cells (madeCells z.cells (n * k)) T)):=by
   simp [execOp,ha.ev hx,ha.ev hy,h5]
  have hnew : (w.alloc (.cells (madeCells z.cells (n * k)) T)).heap[w.heap.size]? = some (.cells (madeCells z.cells (n * k)) T (0,0)):=heap_alloc_new w _
  refine ⟨_,_,g,_,hrun,?_,I,I⟩
  cases n with
  | zero =>
   have h6:=hw.emptyRow T k (some ⟨w.heap.size,0,none⟩)
   have h7:=h6.alloc (e:=pt w.heap.size (.cells (madeCells z.cells (0 * k)) T (0,0))) (o:=.cells (madeCells z.cells (0 * k)) T (0,0)) rfl rfl
   exact h7.sublist (List.sublist_cons_self _ _)
  | succ n =>
   have hsz : (madeCells z.cells ((n + 1) * k)).size = (n + 1) * k:=by simp [madeCells]
   exact hw.alloc (e:=rowA e T (.slice (some ⟨w.heap.size,0,none⟩) 0 (n + 1)) []) (o:=.cells (madeCells z.cells ((n + 1) * k)) T (0,0)) I ⟨by simp,.inr ⟨_,n,_,I,I,by simp,by unfold maxLen; omega,hsz,by simp⟩⟩
def encB : Enc Int 1:=⟨fun n=>[.int .u8 n],fun _=>rfl,fun _ u hu=>by simp at hu; subst hu; rfl,by decide⟩
def encU : Enc Int 1:=⟨fun n=>[.int .u64 n],fun _=>rfl,fun _ u hu=>by simp at hu; subst hu; rfl,by decide⟩
def byt (l : List Int) : List UInt8:=l.map fun n=>UInt8.ofNat n.toNat
def txt (l : List UInt8) : Value:=.string ⟨l.toArray⟩
theorem fold_push (l : List Int) : ∀ s : ByteArray,l.foldl (fun r n=>r.push (UInt8.ofNat n.toNat)) s = ⟨s.data ++ (byt l).toArray⟩:=by
 induction l with
 | nil=>intro s; simp [byt]
 | cons a t ih =>
  intro s
  simp only [List.foldl_cons]
  rw [ih]
  simp [byt,ByteArray.push]
theorem flat_bytes (l : List Int) : l.flatMap encB.enc = l.map (Value.int .u8):=by
 induction l with
 | nil=>rfl
 | cons a t ih=>simp only [List.flatMap_cons,List.map_cons,ih]; rfl
theorem SQ.bytesText {x : Operand} {S D e : TypeId} {p : Option Addr} {c : Nat} {l : List Int} (hs : P.underlying S = some (.slice e)) (he : P.underlying e = some (.int .u8)) (hd : P.underlying D = some .string)
  (hx : ev f x = some (.slice p l.length c)) (hr : Rd g s (.slice p l.length c) (l.flatMap encB.enc)) :
  SQ P N E ⟨dst,.convert S D x,ty,pos,af,gd⟩ f g s (txt (byt l)):=fun a w ha hw=>by
 have h1 : (convert S D (.slice p l.length c)).run P w = .ok (txt (byt l)) w:=by
  rw [run_convert_bytes_string w S D e p l.length c hs he hd]
  rw [flat_bytes] at hr
  cases l with
  | nil =>
   cases p with
   | none=>simp [Conv.bytesToString,txt,byt]; rfl
   | some a =>
    have h2:=run_bytesToString (P:=P) w a 0 c [] (by simp [loadCells]; exact run_loadCellsFrom (P:=P) (w:=w) (b:=a.block) (o:=a.off) 0 0 [] #[] rfl (fun j y hy=>by simp at hy))
    rw [List.length_nil,h2]
    rfl
  | cons n t =>
   obtain ⟨q,n',c',he1,hsp,hc0⟩:=hr E w hw 0 (.int .u8 n) rfl
   injection he1 with he1 he2 he3
   subst he1
   obtain ⟨qb,qo,qs⟩:=q
   dsimp only at hsp
   subst hsp
   have h2:=run_bytesToString (P:=P) w ⟨qb,qo,none⟩ (n :: t).length c (n :: t) (by
    have:=run_loadCellsFrom (P:=P) (w:=w) (b:=qb) (o:=qo) (n :: t).length 0 ((n :: t).map (Value.int .u8)) #[] (by simp) (fun j y hy=>by
     obtain ⟨q',n2,c2,he4,_,hc1⟩:=hr E w hw j y hy
     injection he4 with he4
     injection he4 with he4
     subst he4
     simpa using hc1)
    simpa [loadCells] using this)
   rw [h2,fold_push]
   simp [txt]
 simp [execOp,ha.ev hx,h1]
theorem txt_list (l : List UInt8) : (⟨l.toArray⟩ : ByteArray).toList = l:=by rw [ByteArray.toList_eq]
theorem beq_dec (l m : List UInt8) : (l == m) = decide (l = m):=by by_cases h : l = m <;> simp [h]
theorem SU.eqlT {x y : Operand} {T U : TypeId} {l m : List UInt8} (hx : ev f x = some (txt l)) (hy : ev f y = some (txt m)) :
  SU P N ⟨dst,.binOp .eql T x y U,ty,pos,af,gd⟩ f (.bool (decide (l = m))):=fun ac w ha=>by
 have hg : (eqGuard .eql T x y (txt l) (txt m)).run P w = .ok () w:=by simp [eqGuard,txt]
 have hb : (binOp .eql T (txt l) (txt m)).run P w = .ok (.bool (decide (l = m))) w:=by
  unfold txt
  rw [binOp_string_eql,txt_list,txt_list,beq_dec]
  rfl
 simp only [execOp,ha.ev hx,ha.ev hy,Sem.run_bind,hg,Result.andThen_ok,hb]
 rfl
theorem SU.neqT {x y : Operand} {T U : TypeId} {l m : List UInt8} (hx : ev f x = some (txt l)) (hy : ev f y = some (txt m)) :
  SU P N ⟨dst,.binOp .neq T x y U,ty,pos,af,gd⟩ f (.bool (decide (l ≠ m))):=fun ac w ha=>by
 have hg : (eqGuard .neq T x y (txt l) (txt m)).run P w = .ok () w:=by simp [eqGuard,txt]
 have hb : (binOp .neq T (txt l) (txt m)).run P w = .ok (.bool (decide (l ≠ m))) w:=by
  unfold txt
  rw [binOp_string_neq,txt_list,txt_list]
  by_cases h : l = m <;> simp [h,bne] <;> rfl
 simp only [execOp,ha.ev hx,ha.ev hy,Sem.run_bind,hg,Result.andThen_ok,hb]
 rfl
end
end Go.Sy
namespace Go.Sy
open Go
section
variable {P : Program} {N : Nat} {f : Fr} {dst : Option Tmp} {ty : TypeId} {pos : String} {af : Array Edge} {gd : Option (Nat × Bool)}
theorem SU.or {x y : Operand} {T U : TypeId} {k : IntKind} {m n : Int} (hx : ev f x = some (.int k m)) (hy : ev f y = some (.int k n)) :
  SU P N ⟨dst,.binOp .or T x y U,ty,pos,af,gd⟩ f (.int k (k.wrap (BitVec.ofInt k.bits m ||| BitVec.ofInt k.bits n).toNat)):=fun a w ha=>by
 simp only [execOp,ha.ev hx,ha.ev hy,eqGuard,binOp,ne_eq,not_true_eq_false,if_false,Op.intBits]; rfl
theorem SU.txtAt {x y : Operand} {T : TypeId} {l : List UInt8} {i : Int} {b : UInt8} (hT : P.underlying T = some .string) (hx : ev f x = some (txt l)) (hy : ev f y = some (vi i)) (h0 : 0 ≤ i) (hb : l[i.toNat]? = some b) :
  SU P N ⟨dst,.index T x y,ty,pos,af,gd⟩ f (.int .u8 b.toNat):=fun a w ha=>by
 have h1 : (⟨l.toArray⟩ : ByteArray)[i.toNat]? = some b:=by
  obtain ⟨hlt,he⟩:=List.getElem?_eq_some_iff.1 hb
  rw [getElem?_pos _ _ (by simpa [ByteArray.size] using hlt)]
  exact congrArg some he
 simp only [execOp,ha.ev hx,ha.ev hy,Instr.index,Sem.run_bind,asIntOf,Sem.run_pure,Result.andThen_ok,run_underlying hT,txt,if_pos h0,h1]
theorem SU.lenTxt {x : Operand} {T : TypeId} {l : List UInt8} (hT : P.underlying T = some .string) (hx : ev f x = some (txt l)) :
  SU P N ⟨dst,.call ⟨.builtin .len,#[x],#[T]⟩,ty,pos,af,gd⟩ f (vi l.length):=fun a w ha=>by
 have hs : (⟨l.toArray⟩ : ByteArray).size = l.length:=List.size_toArray
 have h1:=ha.ev hx
 unfold txt at h1
 simp [execOp,resolve,invoke,builtin,h1,Builtin.len_,run_underlying hT,goInt,hs]
end
end Go.Sy
namespace Go.Proofs.YtkdibcicncjpdaaGreatDoor
open _root_.Go.Proofs.Tryz _root_.Go.Proofs.YtkdibcicncjpdaaGreatDoor.Tryz
open Go Go.Sy Go.Pl Go.Proofs Go.Shelf
set_option maxRecDepth 100000
set_option maxHeartbeats 1000000
theorem getVi {f : Fr} {t : Nat} {a b : Int} (h : get? f t = some (vi a)) (e : a = b) : get? f t = some (vi b):=e ▸ h
theorem Tryz.sty144 : STy Tryz.prog 144 158 1 8 (.int .u64 0):=⟨underlying144,⟨t158,by kernel_rfl,by kernel_rfl,by kernel_rfl,by kernel_rfl⟩,rfl,by decide⟩
theorem Tryz.sty161 : STy Tryz.prog 161 5 1 1 (.int .u8 0):=⟨underlying161,⟨t5,by kernel_rfl,by kernel_rfl,by kernel_rfl,by kernel_rfl⟩,rfl,by decide⟩
def trimZ (l : List Int) : List Int:=(l.reverse.dropWhile (· == 0)).reverse
theorem trimZ_drop {m : List Int} (h : 0 < m.length) (h0 : m.getD (m.length - 1) 1 = 0) : trimZ (m.take (m.length - 1)) = trimZ m:=by
 rcases List.eq_nil_or_concat m with rfl | ⟨a,x,rfl⟩
 ·simp at h
 ·have hx : x = 0:=by simpa [List.getD_eq_getElem?_getD] using h0
  subst hx
  simp [trimZ]
theorem trimZ_stop {m : List Int} (h : (decide ((m.length : Int) > 0) && decide (m.getD (m.length - 1) 1 = 0)) = false) : trimZ m = m:=by
 rcases List.eq_nil_or_concat m with rfl | ⟨a,x,rfl⟩
 ·rfl
 ·have hx : x ≠ 0:=by simpa [List.getD_eq_getElem?_getD] using h
  simp [trimZ,hx]
theorem norm_spec (E : World) (g : PH) (s : Own) (v : Value) (l : List Int) (hv : SlA encU g v l) (hl : l.length < 1099511627776) :
  Ctr Tryz.prog E 154 #[v] g s (fun r g' s'=>g = g' ∧ s = s' ∧ SlA encU g r (trimZ l)):=by
 refine Ctr.of (args:=[v]) func154 I ntmps154 (bE I) ?_
 refine SC.sR (lA I (SL.nT (sQ (bK ?_))))
 refine oP (ι:=Value × List Int) (fun i=>[(0,i.1)]) (fun _=>g) (fun _=>s) (fun i=>SlA encU g i.1 i.2 ∧ trimZ i.2 = trimZ l ∧ i.2.length ≤ l.length) (fun i=>i.2.length) (v,l) ⟨I,trivial⟩ I I ⟨hv,I,lR _⟩ ?_
 rintro ⟨v1,m⟩ ⟨hm,htr,hle⟩
 dsimp only at hm htr hle ⊢
 obtain ⟨p,c,rfl⟩:=SlA.form hm
 have hcap:=(SlA.cap hm).2
 have f1 : (m.length : Int) > 0 → (decide ((m.length : Int) > 0) && decide (m.getD (m.length - 1) 1 = 0)) = decide (m.getD (m.length - 1) 1 = 0):=fun h=>by rw [decide_eq_true h,Bool.true_and]
 have f2 : ¬ (m.length : Int) > 0 → (decide ((m.length : Int) > 0) && decide (m.getD (m.length - 1) 1 = 0)) = false:=fun h=>by simp only [h,decide_false,Bool.false_and]
 have hgl : (m.length : Int) > 0 → m[((m.length : Int) - 1).toNat]? = some (m.getD (m.length - 1) 1):=fun h=>by
  have h1 : ((m.length : Int) - 1).toNat = m.length - 1:=oM
  have h2 : m.length - 1 < m.length:=oM
  rw [h1,List.getD_eq_getElem?_getD,gE h2]; rfl
 have hbs : (m.length : Int) > 0 → based (.slice p m.length c) = true:=fun h=>SlA.based hm oM
 refine sQ ?_
 refine SC.cutB 14 ((decide ((m.length : Int) > 0) && decide (m.getD (m.length - 1) 1 = 0))) ?_ ?_
 ·refine rG (lM I (lU (eN uT144 I) (lU (gR I I) (lM I ?_))))
  refine sP ?_ ?_
  ·intro h6
   refine lY I I I (mV I) (lY I I I (mV I) (lY I I I (eN uT144 I) (lY I I I (sU I I oM) (lY I I I (iA uT144 zT158 I I (hbs h6) oM sL) (SL.gq (gT I I I dC) (eB iT158 I (SlA.rd hm) (hgl h6) I) dC (lY I I I (eQ I I) (lU (pT I I) (nL ?_))))))))
   exact ST.mid1 (by (rw [f1 h6]; rfl)) mI
  ·intro h6
   refine lZ I I I (lZ I I I (lZ I I I (lZ I I I (lZ I I I (lZ I I I (lZ I I I (lU (pF I I) (nL ?_))))))))
   exact ST.mid1 (by (rw [f2 h6]; rfl)) mI
 refine iQ I (fun hc=>?_) (fun hc=>?_)
 ·rw [Bool.and_eq_true,decide_eq_true_iff,decide_eq_true_iff] at hc
  obtain ⟨hpos,hlast⟩:=hc
  have h1 : ((m.length : Int) - 1).toNat = m.length - 1:=oM
  refine kP (tN (bK (rG (lM I (lM I (lU (eN uT144 I) (lU (sU I I oM) (lU (SU.sliceH uT144 zT158 I I oM oM) (lA I (nL (bN ?_)))))))))))
  refine gA (sliced p 0 ((m.length : Int) - 1).toNat c 1,m.take (m.length - 1)) ⟨I,trivial⟩ I I ⟨?_,?_,?_⟩ (by dsimp only; rw [List.length_take]; omega)
  ·have:=SlA.cut hm (l:=0) (m:=m.length - 1) (Nat.zero_le _) oM
   dsimp only
   rw [h1]
   simpa using this
  ·dsimp only; rw [trimZ_drop oM hlast]; exact htr
  ·dsimp only; rw [List.length_take]; omega
 ·refine xI (tX (tX (bX (tN (SC.sR (lM I (lA I (SL.nT (rE ?_)))))))))
  exact ST.ret1 (.inl I) results154 I ⟨I,I,by rw [← htr,trimZ_stop hc]; exact hm⟩
theorem backward_spec (E : World) (g : PH) (s : Own) (v : Value) (hv : v.cells = #[v]) :
  Ctr Tryz.prog E 155 #[v] g s (fun r g' s'=>s = s' ∧ Le g g' ∧ ∃ b,r = .func (.func 183) #[] #[pp b 0] ∧ g' b = some (.cells #[v] 144 (0,0))):=by
 refine Ctr.of (args:=[v]) func155 I ntmps155 (bE I) ?_
 refine SC.sR (SL.bx (bO I) fun b1=>?_)
 refine lA I (SL.nT (SC.sR (lU (SU.mkFunc I) (lA I (SL.nT (rE ?_))))))
 rw [hv]
 refine ST.freeze fun g1 hle hb=>?_
 exact ST.ret1 (.inl I) results155 I ⟨I,hle,_,I,hb⟩
def revP (l : List Int) : List (Nat × Int):=(l.zipIdx.map fun p=>(p.2,p.1)).reverse
theorem revP_length (l : List Int) : (revP l).length = l.length:=by simp [revP]
theorem revP_get {l : List Int} {k : Nat} (h : k < l.length) : (revP l)[l.length - 1 - k]? = some (k,l[k]):=by
 unfold revP
 rw [List.getElem?_reverse (by simp; omega)]
 simp only [List.length_map,List.length_zipIdx]
 rw [show l.length - 1 - (l.length - 1 - k) = k by omega]
 simp [h]
theorem backward_gives (E : World) (g0 : PH) (b : Nat) (v : Value) (l : List Int) (hb : g0 b = some (.cells #[v] 144 (0,0))) (hv : SlA encU g0 v l) (hl : l.length < 1099511627776) :
  Gives Tryz.prog E 183 [pp b 0] (fun x : Nat × Int=>[vi x.1,.int .u64 x.2]) (revP l) g0:=by
 intro k ι G S J i0 h0 hmono hY sx
 obtain ⟨p,c,rfl⟩:=SlA.form hv
 refine Ctr.ofX (args:=[.func (.yield k) #[] #[],pp b 0]) func183 I ntmps183 (bE I) ?_
 refine XC.seq ?_
 refine XC.region ?_
 refine XL.q (qL (v:=.slice p l.length c) isAgg144 I (cK (hmono _ _ h0 _ _ hb) I)) dC ?_
 refine XL.u (eN uT144 I) dC ?_
 refine XL.u (sU I I oM) dC ?_
 refine XL.u (aS I) dC ?_
 refine XL.nil ?_
 refine XT.thenN ?_
 refine XC.block ?_
 refine XC.loop (ι:=ι × Nat) (fun i=>[(0,.func (.yield k) #[] #[]),(1,pp b 0),(3,vi ((i.2 : Int) - 1))]) (fun i=>G i.1) (fun i=>S i.1 ++ sx) (fun i=>i.2 ≤ l.length ∧ J ((revP l).take (l.length - i.2)) i.1) (fun i=>i.2) (i0,l.length)
  sB rfl rfl ⟨lR _,by simpa using h0⟩ ?_
 rintro ⟨j,n⟩ ⟨hn,hJ⟩
 dsimp only at hn hJ ⊢
 have hle:=hmono _ _ hJ
 refine XC.seq ?_
 refine XC.seq ?_
 refine XC.region ?_
 refine XL.u (mV I) dC ?_
 refine XL.u (gQ I I) dC ?_
 refine XL.nil ?_
 refine XT.thenN ?_
 refine XC.ifP I (fun hge=>?_) (fun hge=>?_)
 ·have hn1 : n - 1 < l.length:=oM
  have hv':=SlA.mono hv hle
  have hb1:=SlA.based hv' oM
  have hgx : l[((n : Int) - 1).toNat]? = some l[n - 1]:=by rw [show ((n : Int) - 1).toNat = n - 1 by omega]; exact gE hn1
  have hrg:=revP_get hn1
  rw [show l.length - 1 - (n - 1) = l.length - n by omega] at hrg
  have hsp : revP l = (revP l).take (l.length - n) ++ (n - 1,l[n - 1]) :: (revP l).drop (l.length - n + 1):=by
   obtain ⟨h1,h2⟩:=List.getElem?_eq_some_iff.1 hrg
   rw [← h2,List.getElem_cons_drop,List.take_append_drop]
  have hy:=hY _ _ _ j sx hsp hJ
  have htk : (revP l).take (l.length - (n - 1)) = (revP l).take (l.length - n) ++ [(n - 1,l[n - 1])]:=by
   obtain ⟨h1,h2⟩:=List.getElem?_eq_some_iff.1 hrg
   rw [show l.length - (n - 1) = l.length - n + 1 by omega,tS h1,h2]
  generalize l[n - 1] = x at *
  have hvn : vi ((n - 1 : Nat) : Int) = vi ((n : Int) - 1):=congrArg vi oM
  dsimp only at hy
  rw [hvn] at hy
  refine XC.skip ?_
  refine XT.thenN ?_
  refine XC.seq ?_
  refine XC.block ?_
  refine XC.seq ?_
  refine XC.region ?_
  refine XL.u (mV I) dC ?_
  refine XL.u (mV I) dC ?_
  refine XL.q (qL (v:=.slice p l.length c) isAgg144 I (cK (hle _ _ hb) I)) dC ?_
  refine XL.u (mV I) dC ?_
  refine XL.u (iA uT144 zT158 I I hb1 oM sL) dC ?_
  refine XL.q (eB iT158 I (SlA.rd hv') hgx I) dC ?_
  refine XL.x (XO.yield I I hy) dC ?_
  rintro _ _ _ ⟨rfl,j',hJ',rfl,rfl⟩
  refine XL.u (SU.not I) dC ?_
  refine XL.nil ?_
  refine XT.thenN ?_
  refine XC.condF I ?_
  refine XC.skip ?_
  refine XT.blockN ?_
  refine XT.thenN ?_
  refine XC.region ?_
  refine XL.u (mV I) dC ?_
  refine XL.u (sU I I oM) dC ?_
  refine XL.u (aS I) dC ?_
  refine XL.nil ?_
  exact XT.again (j',n - 1) ⟨I,I,getVi I oM,trivial⟩ I I ⟨by dsimp only; omega,by dsimp only; rw [htk]; exact hJ'⟩ (by dsimp only; omega)
 ·have hn0 : n = 0:=oM
  subst hn0
  refine XC.exit ?_
  refine XT.thenX ?_
  refine XT.thenX ?_
  refine XT.blockX ?_
  exact XT.leave0 (.inr I) (ST.ret0 (.inr I) results183 ⟨j,by have:=hJ; rwa [tL (by rw [revP_length]; omega)] at this,I,I⟩)
def lays161_ren : Ren :=
 {
  f:=fun x =>
   match x with
   | 161=>156
   | 231=>184
   | 227=>185
   | 233=>186
   | 235=>187
   | 228=>199
   | 197=>200
   | 151=>201
   | 260=>206
   | 152=>207
   | 137=>208
   | 119=>209
   | 224=>210
   | 225=>211
   | 217=>212
   | 266=>213
   | n=>n,
  t:=fun x =>
   match x with
   | 9=>9
   | 4=>4
   | 3=>3
   | 5=>5
   | 117=>193
   | 116=>192
   | 0=>0
   | 124=>196
   | 105=>206
   | 21=>21
   | 119=>214
   | 46=>139
   | 139=>217
   | 138=>216
   | n=>n,
  g:=fun x =>
   match x with
   | 3=>0
   | 4=>1
   | n=>n }
theorem Tryz.lays161 : Lays.n161 Tryz.prog lays161_ren :=
  {
  mixed:=Eq.refl true,f119:=Eq.trans func209 (congrArg some (by kernel_rfl)),
  f137:=Eq.trans func208 (congrArg some (by kernel_rfl)),
  f151:=Eq.trans func201 (congrArg some (by kernel_rfl)),
  f152:=Eq.trans func207 (congrArg some (by kernel_rfl)),
  f161:=Eq.trans func156 (congrArg some (by kernel_rfl)),
  f197:=Eq.trans func200 (congrArg some (by kernel_rfl)),
  f217:=Eq.trans func212 (congrArg some (by kernel_rfl)),
  f224:=Eq.trans func210 (congrArg some (by kernel_rfl)),
  f225:=Eq.trans func211 (congrArg some (by kernel_rfl)),
  f227:=Eq.trans func185 (congrArg some (by kernel_rfl)),
  f228:=Eq.trans func199 (congrArg some (by kernel_rfl)),
  f231:=Eq.trans func184 (congrArg some (by kernel_rfl)),
  f233:=Eq.trans func186 (congrArg some (by kernel_rfl)),
  f235:=Eq.trans func187 (congrArg some (by kernel_rfl)),
  f260:=Eq.trans func206 (congrArg some (by kernel_rfl)),
  f266:=Eq.trans func213 (congrArg some (by kernel_rfl)),t0:=underlying0,
  a0:=isAgg0,z0:=sizeOf0,v0:=zeroValue0,t3:=uT3,a3:=iT3,
  z3:=zT3,v3:=zeroValue3,t4:=uT4,a4:=isAgg4,z4:=zT4,
  v4:=zeroValue4,t5:=uT5,a5:=isAgg5,z5:=sizeOf5,v5:=zeroValue5,
  t9:=uT9,a9:=isAgg9,z9:=zT9,v9:=zeroValue9,t21:=underlying21,
  a21:=isAgg21,z21:=sizeOf21,v21:=zeroValue21,t46:=uT139,a46:=isAgg139,
  z46:=sizeOf139,v46:=zeroValue139,t105:=underlying206,a105:=isAgg206,
  z105:=sizeOf206,v105:=zeroValue206,t116:=underlying192,a116:=isAgg192,
  z116:=sizeOf192,t117:=underlying193,a117:=isAgg193,z117:=sizeOf193,
  v117:=zeroValue193,t119:=underlying214,a119:=isAgg214,z119:=sizeOf214,
  t124:=underlying196,a124:=isAgg196,z124:=sizeOf196,v124:=zeroValue196,
  t138:=underlying216,a138:=isAgg216,z138:=sizeOf216,v138:=zeroValue216,
  t139:=underlying217,a139:=isAgg217,z139:=sizeOf217,v139:=zeroValue217,
  g3:=(by kernel_rfl),g4:=(by kernel_rfl) }
def dropZ (l : List UInt8) : List UInt8:=l.dropWhile (· == 0)
theorem trimLeft_spec (E : World) (g : PH) (s : Own) (l : List UInt8) :
  Ctr Tryz.prog E 156 #[txt l,txt [0]] g s (fun r g' s'=>r = txt (dropZ l) ∧ g = g' ∧ s = s'):=by
 intro w hw
 refine (Any.strings_TrimLeft_one lays161 ⟨l.toArray⟩ 0 dC w).mono ?_
 rintro e w' ⟨rfl,rfl⟩
 exact ⟨_,g,s,I,hw,I,I,I⟩
def by4 (x : Int) : List Int:=[IntKind.u8.wrap (x.fdiv (2 ^ min (24 : Int).toNat IntKind.u64.bits)),IntKind.u8.wrap (x.fdiv (2 ^ min (16 : Int).toNat IntKind.u64.bits)),IntKind.u8.wrap (x.fdiv (2 ^ min (8 : Int).toNat IntKind.u64.bits)),IntKind.u8.wrap x]
def byP (x : Nat × Int) : List Int:=by4 x.2
theorem byP_length (l : List (Nat × Int)) : (l.flatMap byP).length = 4 * l.length:=by
 induction l with
 | nil=>rfl
 | cons a t ih=>simp only [List.flatMap_cons,List.length_append,ih,List.length_cons,byP,by4,List.length_nil]; omega
theorem trimZ_le (l : List Int) : (trimZ l).length ≤ l.length:=by
 unfold trimZ
 rw [List.length_reverse]
 have:=(List.dropWhile_sublist (l:=l.reverse) (· == 0)).length_le
 simpa using this
def wordsT (l : List Int) : List UInt8:=dropZ (byt ((revP (trimZ l)).flatMap byP))
def wideV (neg : Bool) (bs : List UInt8) : Value:=.agg #[vb (neg && decide (bs ≠ [])),txt bs]
theorem Tryz.build94 (a : Bool) (l : List UInt8) (w : World) : (Instr.build 94 #[(0,vb a),(1,txt l)]).run Tryz.prog w = .ok (.agg #[vb a,txt l]) w:=by
 have h1 : (vb a).cells = #[vb a]:=rfl
 have h2 : (txt l).cells = #[txt l]:=rfl
 simp [Instr.build,Instr.fill,h1,h2]
 rfl
theorem natWide_spec (E : World) (g : PH) (s : Own) (v : Value) (l : List Int) (neg : Bool) (hv : SlA encU g v l) (hl : l.length < 1099511627776) :
  Ctr Tryz.prog E 132 #[v,vb neg] g s (fun r g' s'=>r = wideV neg (wordsT l) ∧ s = s' ∧ Le g g'):=by
 have htl:=trimZ_le l
 refine Ctr.ofX (args:=[v,vb neg]) func132 I ntmps132 (bE I) ?_
 refine XC.seq ?_
 refine XC.region ?_
 refine XL.o (aL zeroValue94) dC ?_
 rintro _ _ _ ⟨b4,rfl,rfl,rfl⟩
 refine XL.nil ?_
 refine XT.thenN ?_
 refine XC.seq ?_
 refine XC.region ?_
 refine XL.u (mV I) dC ?_
 refine XL.o (cL call154 I (norm_spec E g _ v l hv hl)) dC ?_
 rintro v10 _ _ ⟨rfl,rfl,hm⟩
 obtain ⟨q,d,rfl⟩:=SlA.form hm
 refine XL.u (aS I) dC ?_
 refine XL.nil ?_
 refine XT.thenN ?_
 refine XC.seq ?_
 refine XC.region ?_
 refine XL.u (mV I) dC ?_
 refine XL.u (eN uT144 I) dC ?_
 refine XL.u (SU.eq (v':=vi ((4 * (trimZ l).length : Nat))) (SU.mul I I oM) (congrArg vi oM)) dC ?_
 refine XL.o (SO.makeC encB sty161 I I oM oM) dC ?_
 rintro v14 _ _ ⟨rfl,rfl⟩
 refine XL.facts fun ⟨w0,hw0⟩=>?_
 obtain ⟨p14,c14,rfl⟩:=rowA_form (i:=0) hw0 rfl
 clear hw0 w0
 refine XL.o (aL zeroValue161) dC ?_
 rintro _ _ _ ⟨b5,rfl,rfl,rfl⟩
 refine XL.on (sK 0 sizeOf161 I I I I I sB) ?_
 rintro _ _ _ ⟨rfl,rfl⟩
 refine XL.nil ?_
 refine XT.thenN ?_
 refine XC.seq ?_
 refine XC.seq ?_
 refine XC.region ?_
 refine XL.u (mV I) dC ?_
 refine XL.o (cL call155 I (backward_spec E _ _ _ I)) dC ?_
 rintro _ g1 _ ⟨rfl,hle,bb,rfl,hbb⟩
 refine XL.nil ?_
 refine XT.thenN ?_
 refine XC.block ?_
 refine XC.to (g':=g1) (s':=rowA encB 5 (.slice p14 0 c14) [] :: pt b5 (.cells #[.slice p14 0 c14] 161 (0,0)) :: pt b4 (.cells #[vb false,txt []] 94 (0,0)) :: s) (fun w hw=>hw.perm (List.Perm.swap _ _ _)) ?_
 refine XC.rangeFunc (α:=Nat × Int) (ι:=Value × List Int) (encs:=fun x=>[vi x.1,.int .u64 x.2]) (xs:=revP (trimZ l)) (g0:=g1) (fun _=>g1) (fun i=>rowA encB 5 i.1 i.2 :: pt b5 (.cells #[i.1] 161 (0,0)) :: pt b4 (.cells #[vb false,txt []] 94 (0,0)) :: []) (fun pre i=>i.2 = pre.flatMap byP) (.slice p14 0 c14,[]) s
  (fun x=>[(18,.int .u64 x.2),(17,vi x.1),(5,pp b5 0)]) (fun _ x _=>[(7,.int .u64 x.2),(5,pp b5 0)]) rfl rfl call183 (fun _=>rfl) rfl rfl (backward_gives E g1 bb _ _ hbb (SlA.mono hm hle) oM) (fun _ _ _=>Le.refl _) rfl
  (fun x a h=>params2 (h.sub (g:=[(5,pp b5 0)]) ⟨rfl,trivial⟩) dC dC) ?_ ?_ ?_
 ·intro k pre x i sx hJ
  refine XC.region ?_
  refine XL.u (aS I) dC ?_
  refine XL.nil ?_
  exact XT.assignEnd sB
 ·rintro k pre ⟨xi,x⟩ suf ⟨bv,bs⟩ sx hxs hJ
  dsimp only at hJ ⊢
  have hpl : pre.length < (trimZ l).length:=by
   have:=congrArg List.length hxs
   rw [revP_length,List.length_append,List.length_cons] at this
   omega
  have hbl : bs.length = 4 * pre.length:=by rw [hJ,byP_length]
  refine XC.facts fun ⟨w0,hw0⟩=>?_
  obtain ⟨q2,d2,rfl⟩:=rowA_form (i:=0) hw0 rfl
  clear hw0 w0
  refine XC.block ?_
  refine XC.region ?_
  refine XL.q (qL (v:=.slice q2 bs.length d2) isAgg161 I (cO 1 I I)) dC ?_
  refine XL.u (mV I) dC ?_
  refine XL.u (SU.shr I I dC) dC ?_
  refine XL.u (SU.convert uT158 uT5 I) dC ?_
  refine XL.u (mV I) dC ?_
  refine XL.u (SU.shr I I dC) dC ?_
  refine XL.u (SU.convert uT158 uT5 I) dC ?_
  refine XL.u (mV I) dC ?_
  refine XL.u (SU.shr I I dC) dC ?_
  refine XL.u (SU.convert uT158 uT5 I) dC ?_
  refine XL.u (mV I) dC ?_
  refine XL.u (SU.convert uT158 uT5 I) dC ?_
  refine XL.o (bS sty161 I I I (szs_mk sB) dC) dC ?_
  rintro _ _ _ ⟨b31,rfl,rfl,rfl⟩
  refine XL.to (fun w hw=>At.litRow (e:=encB) (l:=by4 x) (n:=3) hw I I dC) ?_
  refine XL.o (SO.appendE (m:=4) 1 (bs ++ by4 x).length ((bs ++ by4 x).flatMap encB.enc) sty161 I I I I I (Rd.rowA 0 I) (encB.length (by4 x)) (encB.ones _) (by simp [by4]) (by simp) (by simp [by4]; omega) (by simp [by4]; omega)) dC ?_
  rintro v32 _ _ ⟨rfl,rfl⟩
  refine XL.facts fun ⟨w0,hw0⟩=>?_
  obtain ⟨q3,d3,rfl⟩:=rowA_form (e:=encB) (l:=bs ++ by4 x) (i:=1) hw0 rfl
  clear hw0 w0
  refine XL.on (sK 2 sizeOf161 I I I I I sB) ?_
  rintro _ _ _ ⟨rfl,rfl⟩
  refine XL.nil ?_
  refine XT.blockN ?_
  refine XT.drop (List.sublist_cons_self _ _) ?_
  exact XT.roundEnd (.slice q3 (bs ++ by4 x).length d3,bs ++ by4 x) I I (by dsimp only; rw [List.flatMap_append,hJ]; simp [byP])
 ·rintro D ⟨bv,bs⟩ hJ
  dsimp only at hJ ⊢
  refine XT.facts fun ⟨w0,hw0⟩=>?_
  obtain ⟨q2,d2,rfl⟩:=rowA_form (i:=1) hw0 rfl
  clear hw0 w0
  refine XT.blockN ?_
  refine XT.thenN ?_
  refine XC.seq ?_
  refine XC.region ?_
  refine XL.q (qL (v:=.slice q2 bs.length d2) isAgg161 I (cO 2 I I)) dC ?_
  refine XL.q (SQ.bytesText underlying161 uT5 uT9 I (Rd.rowA 1 I)) dC ?_
  refine XL.o (cL call156 I (trimLeft_spec E g1 _ (byt bs))) dC ?_
  rintro _ _ _ ⟨rfl,rfl,rfl⟩
  refine XL.u (aS I) dC ?_
  refine XL.nil ?_
  refine XT.thenN ?_
  have hbs : dropZ (byt bs) = wordsT l:=by unfold wordsT; rw [hJ]
  rw [hbs]
  generalize wordsT l = T at *
  cases neg
  ·refine XC.seq ?_
   refine XC.region ?_
   refine XL.u (mV I) dC ?_
   refine XL.u (mV I) dC ?_
   refine XL.off (gF I I I dC) dC ?_
   refine XL.off (gF I I I dC) dC ?_
   refine XL.u (pF I I) dC ?_
   refine XL.u (mV I) dC ?_
   refine XL.u (SU.build I (build94 _ _)) dC ?_
   refine XL.on (sK 3 zT94 I I I I I sB) ?_
   rintro _ _ _ ⟨rfl,rfl⟩
   refine XL.nil ?_
   refine XT.thenN ?_
   refine XC.ret ?_
   exact XT.leave1 (.inl I) (ST.retCD 2 s (.inl I) results132 I iT94 zT94 I I (.cons _ (.cons _ (.cons _ (.refl _)))) ⟨I,I,hle⟩)
  ·refine XC.seq ?_
   refine XC.region ?_
   refine XL.u (mV I) dC ?_
   refine XL.u (mV I) dC ?_
   refine XL.gu (gT I I I dC) (mV I) dC ?_
   refine XL.gu (gT I I I dC) (SU.neqT I I) dC ?_
   refine XL.u (pT I I) dC ?_
   refine XL.u (mV I) dC ?_
   refine XL.u (SU.build I (build94 _ _)) dC ?_
   refine XL.on (sK 3 zT94 I I I I I sB) ?_
   rintro _ _ _ ⟨rfl,rfl⟩
   refine XL.nil ?_
   refine XT.thenN ?_
   refine XC.ret ?_
   exact XT.leave1 (.inl I) (ST.retCD 2 s (.inl I) results132 I iT94 zT94 I I (.cons _ (.cons _ (.cons _ (.refl _)))) ⟨I,I,hle⟩)
open Go Go.Sy Go.Pl Go.Proofs
theorem SU.negK {P : Program} {N : Nat} {f : Fr} {dst : Option Tmp} {ty : TypeId} {pos : String} {af : Array Edge} {gd : Option (Nat × Bool)} {x : Operand} {T : TypeId} {k : IntKind} {n : Int} (hx : ev f x = some (.int k n)) : SU P N ⟨dst,.unOp .neg T x,ty,pos,af,gd⟩ f (.int k (k.wrap (0 - n))):=fun a w ha=>by
 simp only [execOp,ha.ev hx]; rfl
theorem u64w (n : Int) : IntKind.u64.wrap n = n % 18446744073709551616:=by simp [IntKind.wrap,IntKind.bits,IntKind.signed]
theorem mask32 (m : Nat) (h : m < 18446744073709551616) : IntKind.u64.wrap (BitVec.ofInt IntKind.u64.bits (m : Int) &&& BitVec.ofInt IntKind.u64.bits 4294967295).toNat = ((m % 4294967296 : Nat) : Int):=by
 have h1 : (BitVec.ofInt IntKind.u64.bits (m : Int) &&& BitVec.ofInt IntKind.u64.bits 4294967295).toNat = m % 4294967296:=by
  have hb : IntKind.u64.bits = 64:=rfl
  rw [hb,BitVec.toNat_and]
  have e1 : (BitVec.ofInt 64 (m : Int)).toNat = m:=by
   rw [BitVec.toNat_ofInt]
   omega
  have e2 : (BitVec.ofInt 64 4294967295).toNat = 2 ^ 32 - 1:=by decide
  rw [e1,e2,Nat.and_two_pow_sub_one_eq_mod]
 rw [h1]
 exact IntWalk.u64_in _ oM
theorem shr32 (m : Nat) : ((m : Nat) : Int).fdiv (2 ^ min (32 : Int).toNat IntKind.u64.bits) = ((m / 4294967296 : Nat) : Int):=by
 have h1 : ((2 : Int) ^ min (32 : Int).toNat IntKind.u64.bits) = 4294967296:=by decide
 rw [h1,Int.fdiv_eq_ediv_of_nonneg _ dC]
 omega
def words (n : Int) : List Int:=[((n.natAbs % 4294967296 : Nat) : Int),((n.natAbs / 4294967296 : Nat) : Int)]
theorem from_raw (E : World) (g : PH) (s : Own) (n : Int) (h0 : -9223372036854775808 ≤ n) (h1 : n < 9223372036854775808) :
  Ctr Tryz.prog E 127 #[vi n] g s (fun r g' s'=>r = wideV (decide (n < 0)) (wordsT (words n)) ∧ s = s' ∧ Le g g'):=by
 refine Ctr.of (args:=[vi n]) func127 I ntmps127 (bE I) ?_
 refine SC.sR (SL.bx (aL zeroValue94) fun b2=>?_)
 refine SL.nT (SC.sR (lM I (lU (SU.convert uT3 uT158 I) (lA I (SL.nT ?_)))))
 refine SC.cut (ι:=Unit) (fun _=>[(0,vi n),(2,pp b2 0),(3,.int .u64 (n.natAbs : Int))]) (fun _=>g) (fun _=>pt b2 (.cells #[vb false,txt []] 94 (0,0)) :: s) (fun _=>True) ?_ ?_
 ·refine SC.sR (lM I (lU (lS I I) (SL.nT ?_)))
  refine iP I (fun hn=>?_) (fun hn=>?_)
  ·have hw : IntKind.u64.wrap (0 - IntKind.u64.wrap n) = (n.natAbs : Int):=by
    rw [u64w,u64w]; omega
   refine rG (lM I (lU (SU.negK I) (lA I (nL ?_))))
   exact ST.mid () ⟨rfl,rfl,by rw [← hw]; rfl,trivial⟩ rfl rfl trivial
  ·have hw : IntKind.u64.wrap n = (n.natAbs : Int):=by
    rw [u64w]; omega
   refine kP ?_
   exact ST.mid () ⟨rfl,rfl,by rw [← hw]; rfl,trivial⟩ rfl rfl trivial
 rintro _ -
 try dsimp only
 refine SC.sR (lM I (lU (SU.eq (v':=.int .u64 ((n.natAbs % 4294967296 : Nat) : Int)) (SU.and I I) (congrArg _ (mask32 _ oM))) (lM I (lU (SU.eq (v':=.int .u64 ((n.natAbs / 4294967296 : Nat) : Int)) (SU.shr I I dC) (congrArg _ (shr32 _))) (lW (bS sty144 I I I (szs_mk sB) dC) ?_)))))
 rintro _ _ _ ⟨b14,rfl,rfl,rfl⟩
 refine SL.freeze fun g1 hle1 hb=>?_
 refine lM I (lU (lS I I) (lW (cL call132 I (natWide_spec E g1 _ _ (words n) _ (SlA.lit hb I I) (by simp [words]))) ?_))
 rintro _ g2 _ ⟨rfl,rfl,hle2⟩
 refine SL.O2 (sK 0 zT94 I I I I I sB) ?_
 refine SL.nT (rE ?_)
 exact ST.retCD 0 s (.inl I) results127 I iT94 zT94 I I (.cons _ (.refl _)) ⟨I,I,hle1.trans hle2⟩
theorem ofNat_congr {a b : Nat} (h : a % 256 = b % 256) : UInt8.ofNat a = UInt8.ofNat b:=by
 apply UInt8.toNat.inj
 simpa using h
theorem u8w (k : Nat) : IntKind.u8.wrap (k : Int) = ((k % 256 : Nat) : Int):=by simp [IntKind.wrap,IntKind.bits,IntKind.signed]
theorem ofNat_u8 (k : Nat) : UInt8.ofNat (IntKind.u8.wrap (k : Int)).toNat = UInt8.ofNat k:=by
 rw [u8w,Int.toNat_natCast]; exact ofNat_congr oM
theorem fdiv_nat (k e : Nat) : (k : Int).fdiv ((e : Nat) : Int) = ((k / e : Nat) : Int):=by
 rw [Int.fdiv_eq_ediv_of_nonneg _ oM]; simp
theorem byt_by4 (k : Nat) : byt (by4 (k : Int)) = [UInt8.ofNat (k / 16777216),UInt8.ofNat (k / 65536),UInt8.ofNat (k / 256),UInt8.ofNat k]:=by
 have h1 : ((2 : Int) ^ min (24 : Int).toNat IntKind.u64.bits) = ((16777216 : Nat) : Int):=by decide
 have h2 : ((2 : Int) ^ min (16 : Int).toNat IntKind.u64.bits) = ((65536 : Nat) : Int):=by decide
 have h3 : ((2 : Int) ^ min (8 : Int).toNat IntKind.u64.bits) = ((256 : Nat) : Int):=by decide
 unfold by4
 rw [h1,h2,h3,fdiv_nat,fdiv_nat,fdiv_nat]
 simp only [byt,List.map_cons,List.map_nil,ofNat_u8]
def beK : Nat → Nat → List UInt8
 | 0,_=>[]
 | k + 1,m=>beK k (m / 65536) ++ [UInt8.ofNat (m / 256),UInt8.ofNat m]
def magB (m : Nat) : List UInt8:=dropZ (beK 4 m)
theorem beK_zero : ∀ k,dropZ (beK k 0) = []
 | 0=>rfl
 | k + 1=>by
  have ih:=beK_zero k
  unfold dropZ at *
  rw [beK,List.dropWhile_append,ih]
  rfl
theorem trimZ1 {a : Int} (h : a ≠ 0) : trimZ [a,0] = [a]:=by simp [trimZ,h]
theorem trimZ2 {a b : Int} (h : b ≠ 0) : trimZ [a,b] = [a,b]:=by simp [trimZ,h]
theorem words_bytes (n : Int) (h : n.natAbs < 18446744073709551616) : wordsT (words n) = magB n.natAbs:=by
 obtain ⟨m,hm⟩ : ∃ m,m = n.natAbs:=⟨_,rfl⟩
 unfold words
 rw [← hm] at h ⊢
 have hlo:=byt_by4 (m % 4294967296)
 have hhi:=byt_by4 (m / 4294967296)
 have hbe : beK 4 m = [UInt8.ofNat (m / 4294967296 / 16777216),UInt8.ofNat (m / 4294967296 / 65536),UInt8.ofNat (m / 4294967296 / 256),UInt8.ofNat (m / 4294967296),UInt8.ofNat (m % 4294967296 / 16777216),UInt8.ofNat (m % 4294967296 / 65536),UInt8.ofNat (m % 4294967296 / 256),UInt8.ofNat (m % 4294967296)]:=by
  simp only [beK,List.nil_append,List.cons_append]
  refine congr (congrArg List.cons ?_) (congr (congrArg List.cons ?_) (congr (congrArg List.cons ?_) (congr (congrArg List.cons ?_) (congr (congrArg List.cons ?_) (congr (congrArg List.cons ?_) (congr (congrArg List.cons ?_) (congr (congrArg List.cons ?_) I)))))))
  all_goals exact ofNat_congr oM
 unfold magB wordsT
 rw [hbe]
 by_cases h1 : m / 4294967296 = 0
 ·by_cases h2 : m % 4294967296 = 0
  ·rw [h1,h2]; rfl
  ·have ht : trimZ [((m % 4294967296 : Nat) : Int),((m / 4294967296 : Nat) : Int)] = [((m % 4294967296 : Nat) : Int)]:=by
    rw [h1]
    exact trimZ1 oM
   rw [ht]
   show dropZ (byt (by4 _ ++ [])) = _
   rw [List.append_nil,hlo,h1]
   rfl
 ·have ht : trimZ [((m % 4294967296 : Nat) : Int),((m / 4294967296 : Nat) : Int)] = [((m % 4294967296 : Nat) : Int),((m / 4294967296 : Nat) : Int)]:=by
   exact trimZ2 oM
  rw [ht]
  show dropZ (byt (by4 _ ++ (by4 _ ++ []))) = _
  rw [List.append_nil]
  have : byt (by4 ((m / 4294967296 : Nat) : Int) ++ by4 ((m % 4294967296 : Nat) : Int)) = byt (by4 ((m / 4294967296 : Nat) : Int)) ++ byt (by4 ((m % 4294967296 : Nat) : Int)):=by simp [byt]
  rw [this,hhi,hlo]
  rfl
def wideN (n : Int) : Value:=wideV (decide (n < 0)) (magB n.natAbs)
theorem from_spec (E : World) (g : PH) (s : Own) (n : Int) (h0 : -9223372036854775808 ≤ n) (h1 : n < 9223372036854775808) :
  Ctr Tryz.prog E 127 #[vi n] g s (fun r g' s'=>r = wideN n ∧ s = s' ∧ Le g g') :=
 (from_raw E g s n h0 h1).mono fun _ _ _ ⟨h2,h3⟩=>⟨by rw [h2,words_bytes _ oM]; rfl,h3⟩
def beN (l : List UInt8) : Nat:=l.foldl (fun a b=>a * 256 + b.toNat) 0
theorem beN_snoc (l : List UInt8) (b : UInt8) : beN (l ++ [b]) = beN l * 256 + b.toNat:=by simp [beN]
theorem beN_dropZ (l : List UInt8) : beN (dropZ l) = beN l:=by
 induction l with
 | nil=>rfl
 | cons b t ih =>
  unfold dropZ at *
  rw [List.dropWhile_cons]
  split
  ·rename_i h
   have hb : b = 0:=by simpa using h
   subst hb
   rw [ih]
   rfl
  ·rfl
theorem ofNat_toNat (k : Nat) : (UInt8.ofNat k).toNat = k % 256:=by simp
theorem beN_beK : ∀ (k m : Nat),m < 65536 ^ k → beN (beK k m) = m
 | 0,m,h=>by
  have : m = 0:=by simpa using h
  subst this
  rfl
 | k + 1,m,h=>by
  have ih:=beN_beK k (m / 65536) (by rw [Nat.div_lt_iff_lt_mul dC]; rwa [Nat.pow_succ] at h)
  rw [beK,show beK k (m / 65536) ++ [UInt8.ofNat (m / 256),UInt8.ofNat m] = (beK k (m / 65536) ++ [UInt8.ofNat (m / 256)]) ++ [UInt8.ofNat m] by simp,beN_snoc,beN_snoc,ih,ofNat_toNat,ofNat_toNat]
  omega
theorem beN_magB {m : Nat} (h : m < 18446744073709551616) : beN (magB m) = m:=by
 unfold magB
 rw [beN_dropZ]
 exact beN_beK 4 m h
theorem magB_len {m : Nat} (h : m < 4294967296) : (magB m).length ≤ 4:=by
 have h1 : m / 65536 / 65536 = 0:=oM
 have h2 : beK 4 m = beK 2 0 ++ ([UInt8.ofNat (m / 65536 / 256),UInt8.ofNat (m / 65536)] ++ [UInt8.ofNat (m / 256),UInt8.ofNat m]):=by
  rw [beK,beK,h1,List.append_assoc]
 unfold magB
 rw [h2]
 have h3:=beK_zero 2
 unfold dropZ at *
 rw [List.dropWhile_append,h3]
 simp only [List.isEmpty_nil,if_true]
 exact Nat.le_trans ((List.dropWhile_sublist _).length_le) (by simp)
def limb (n : Nat) : List Int:=if n = 0 then [] else [(n : Int)]
def encW : Enc (Bool × List UInt8) 2:=⟨fun p=>[vb p.1,txt p.2],fun _=>rfl,fun _ u hu=>by simp at hu; rcases hu with rfl | rfl <;> rfl,by decide⟩
def wd (n : Int) : Bool × List UInt8:=(decide (n < 0) && decide (magB n.natAbs ≠ []),magB n.natAbs)
theorem Tryz.sty53 : STy Tryz.prog 53 94 2 24 (.agg #[vb false,txt []]):=⟨underlying53,⟨t94,by kernel_rfl,by kernel_rfl,by kernel_rfl,by kernel_rfl⟩,rfl,by decide⟩
def MatR (g : PH) (v : Value) (m : Nat × Nat × List Int) : Prop:=∃ p c,v = .agg #[vi m.1,vi m.2.1,.slice p m.2.2.length c] ∧ SlA encW g (.slice p m.2.2.length c) (m.2.2.map wd)
theorem MatR.mono {g g' : PH} {v : Value} {m : Nat × Nat × List Int} (h : MatR g v m) (hl : Le g g') : MatR g' v m:=by
 obtain ⟨p,c,h1,h2⟩:=h
 exact ⟨p,c,h1,SlA.mono h2 hl⟩
theorem SU.minI {P : Program} {N : Nat} {f : Fr} {dst : Option Tmp} {ty : TypeId} {pos : String} {af : Array Edge} {gd : Option (Nat × Bool)} {x y : Operand} {T U : TypeId} {m n : Int} (hx : ev f x = some (vi m)) (hy : ev f y = some (vi n)) :
  SU P N ⟨dst,.call ⟨.builtin .min,#[x,y],#[T,U]⟩,ty,pos,af,gd⟩ f (vi (min m n)):=fun a w ha=>by
 have h:=run_min_int2 (P:=P) (w:=w) #[T,U] ty .i64 .i64 m n
 have h2 : (if n < m then n else m) = min m n:=by split <;> omega
 rw [h2] at h
 simp [execOp,resolve,invoke,builtin,ha.ev hx,ha.ev hy,h]
theorem fits_spec (E : World) (g : PH) (s : Own) (r c : Nat) (hr : r ≤ 200) (hc : c ≤ 200) :
  Ctr Tryz.prog E 81 #[vi r,vi c] g s (fun x g' s'=>x = vb true ∧ g = g' ∧ s = s'):=by
 refine Ctr.of (args:=[vi r,vi c]) func81 I ntmps81 (bE I) ?_
 refine SC.sR (lA I (SL.nT (SC.sR (lM I (lM I (lU (SU.minI I I) (lU (SU.eq (v':=vb true) (gQ I I) (congrArg vb (decide_eq_true oM))) (lM I (lY I I I (mV I) (lY I I I (mV I) (lY I I I (SU.maxI I I) (lY I I I (SU.eq (v':=vb true) (SU.leq I I) (congrArg vb (decide_eq_true oM))) (lU (pT I I) (lA I (SL.nT (rE ?_))))))))))))))))
 exact ST.ret1 (.inl I) results81 I ⟨I,I,I⟩
theorem Tryz.build55 (r c : Int) (p : Option Addr) (n k : Nat) (w : World) : (Instr.build 55 #[(0,vi r),(1,vi c),(2,.slice p n k)]).run Tryz.prog w = .ok (.agg #[vi r,vi c,.slice p n k]) w:=by
 have h1 : ∀ n,(vi n).cells = #[vi n]:=fun _=>rfl
 have h2 : (Value.slice p n k).cells = #[.slice p n k]:=rfl
 simp [Instr.build,Instr.fill,h1,h2]
 rfl
theorem mul_le {r c : Nat} (hr : r ≤ 200) (hc : c ≤ 200) : r * c ≤ 40000:=Nat.mul_le_mul hr hc
theorem zero_own (E : World) (g : PH) (s : Own) (r c : Nat) (hr : r ≤ 200) (hc : c ≤ 200) :
  Ctr Tryz.prog E 25 #[vi r,vi c] g s (fun x g' s'=>g = g' ∧ ∃ p k,x = .agg #[vi r,vi c,.slice p (r * c) k] ∧ s' = rowA encW 94 (.slice p (r * c) k) (List.replicate (r * c) (wd 0)) :: s):=by
 have hm:=mul_le hr hc
 refine Ctr.of (args:=[vi r,vi c]) func25 I ntmps25 (bE I) ?_
 refine SC.sR (SL.bx (aL zeroValue55) fun b4=>?_)
 refine SL.nT (sQ (SC.sR (lM I (lM I (lW (cL call81 I (fits_spec E g _ r c hr hc)) ?_)))))
 rintro _ _ _ ⟨rfl,rfl,rfl⟩
 refine lU (SU.not I) (SL.nT (cF I (kP (tN (SC.sR (lM I (lM I (lM I (lM I (lU (SU.eq (v':=vi ((r * c : Nat))) (SU.mulW I I) (congrArg vi (by rw [← Int.natCast_mul]; exact IntWalk.i64_in _ oM))) ?_))))))))))
 refine lW (mK encW (wd 0) sty53 I I I oM oM) ?_
 rintro _ _ _ ⟨b15,rfl,rfl,rfl⟩
 refine lU (SU.build I (build55 _ _ _ _ _)) (SL.O2 (sK 1 zT55 I I I I I sB) ?_)
 refine SL.nT (rE ?_)
 exact ST.retCD 1 _ (.inl I) results25 I iT55 zT55 I I (.cons_cons _ (.cons _ (.refl _))) ⟨I,_,_,I,I⟩
theorem wideN_cells (z : Int) : (wideN z).cells.toList = encW.enc (wd z):=rfl
structure Rows (ls : List (List Int)) (C : Nat) : Prop where
 len : ∀ l ∈ ls,l.length = C
 small : ∀ l ∈ ls,∀ n ∈ l,-9223372036854775808 ≤ n ∧ n < 9223372036854775808
 pos : 0 < ls.length
 rows : ls.length ≤ 200
 cols : C ≤ 200
theorem flat_len {ls : List (List Int)} {C : Nat} (h : ∀ l ∈ ls,l.length = C) : ls.flatten.length = ls.length * C:=by
 induction ls with
 | nil=>simp
 | cons a t ih =>
  rw [List.flatten_cons,List.length_append,ih fun l hl=>h l (by simp [hl]),h a (by simp),List.length_cons,Nat.succ_mul,Nat.add_comm]
def partE (ls : List (List Int)) (C i j : Nat) (r : List Int) : List (Bool × List UInt8):=((ls.take i).flatten ++ r.take j).map wd ++ List.replicate (ls.length * C - (i * C + j)) (wd 0)
theorem partE_zero (ls : List (List Int)) (C : Nat) (r : List Int) : partE ls C 0 0 r = List.replicate (ls.length * C) (wd 0):=by simp [partE]
theorem take_len {ls : List (List Int)} {C i : Nat} (h : ∀ l ∈ ls,l.length = C) (hi : i ≤ ls.length) : (ls.take i).flatten.length = i * C:=by
 rw [flat_len (C:=C) fun l hl=>h l (List.mem_of_mem_take hl),List.length_take,Nat.min_eq_left hi]
theorem idx_lt {R C i j : Nat} (hi : i < R) (hj : j < C) : i * C + j < R * C:=by
 have : (i + 1) * C ≤ R * C:=Nat.mul_le_mul_right C hi
 rw [Nat.succ_mul] at this
 omega
theorem partE_length {ls : List (List Int)} {C i j : Nat} {r : List Int} (h : ∀ l ∈ ls,l.length = C) (hi : i < ls.length) (hr : r.length = C) (hj : j ≤ C) : (partE ls C i j r).length = ls.length * C:=by
 have h1:=take_len h (Nat.le_of_lt hi)
 have h2 : i * C + j ≤ ls.length * C:=by
  have : (i + 1) * C ≤ ls.length * C:=Nat.mul_le_mul_right C hi
  rw [Nat.succ_mul] at this
  omega
 unfold partE
 rw [List.length_append,List.length_map,List.length_append,h1,List.length_take,List.length_replicate,hr,Nat.min_eq_left hj]
 omega
theorem partE_set {ls : List (List Int)} {C i j : Nat} {r : List Int} (h : ∀ l ∈ ls,l.length = C) (hi : i < ls.length) (hr : r.length = C) (hj : j < C) : (partE ls C i j r).set (i * C + j) (wd (r[j]'oM)) = partE ls C i (j + 1) r:=by
 have h1:=take_len h (Nat.le_of_lt hi)
 have hlt:=idx_lt hi hj
 unfold partE
 rw [show ls.length * C - (i * C + j) = (ls.length * C - (i * C + (j + 1))) + 1 by omega,List.replicate_succ]
 rw [set_mid (by rw [List.length_map,List.length_append,h1,List.length_take,hr]; omega)]
 rw [tS (by omega : j < r.length)]
 simp only [List.map_append,List.map_cons,List.map_nil,List.append_assoc,List.cons_append,List.nil_append]
theorem partE_row {ls : List (List Int)} {C i : Nat} (h : ∀ l ∈ ls,l.length = C) (hi : i < ls.length) (r : List Int) : partE ls C i C ls[i] = partE ls C (i + 1) 0 r:=by
 unfold partE
 rw [tL (l:=ls[i]) (by rw [h _ (gM hi)]; exact lR _),tS hi,List.flatten_append]
 simp [Nat.succ_mul]
theorem partE_all {ls : List (List Int)} {C : Nat} (h : ∀ l ∈ ls,l.length = C) (r : List Int) : partE ls C ls.length 0 r = ls.flatten.map wd:=by
 unfold partE
 simp
theorem of_mat (E : World) (g : PH) (s : Own) (v : Value) (ls : List (List Int)) (C : Nat) (hv : Lists g v ls) (h : Rows ls C) :
  Ctr Tryz.prog E 72 #[v] g s (fun x g' s'=>s = s' ∧ Le g g' ∧ MatR g' x (ls.length,C,ls.flatten)):=by
 obtain ⟨rs,hrs,hall⟩:=hv
 have hrl:=hall.length
 have hpos:=h.pos
 have hR:=h.rows
 have hC:=h.cols
 have hm:=mul_le hR hC
 obtain ⟨p,c,rfl⟩:=SlA.form hrs
 rw [← hrl] at hrs ⊢
 refine Ctr.of (args:=[.slice p ls.length c]) func72 I ntmps72 (bE I) ?_
 refine SC.sR (SL.bx (aL zeroValue55) fun b2=>?_)
 refine SL.nT (SC.sR (lA I (SL.nT (sQ (SC.sR (lM I (lU (eN uT22 I) (lM I (SL.nT (bK ?_))))))))))
 refine oP (ι:=Nat) (fun i=>[(0,.slice p ls.length c),(2,pp b2 0),(3,vi (if i = 0 then 0 else (C : Int))),(11,.slice p ls.length c),(12,vi ls.length),(13,vi i)]) (fun _=>g) (fun _=>pt b2 (.cells #[vi 0,vi 0,.slice none 0 0] 55 (0,0)) :: s) (fun i=>i ≤ ls.length) (fun i=>ls.length - i) 0
  sB rfl rfl (Nat.zero_le _) ?_
 rintro i hi
 refine SC.sR (lU (lS I I) (SL.nT (sQ ?_)))
 refine iP I (fun hlt=>?_) (fun hlt=>?_)
 ·have hil : i < rs.length:=oM
  have hils : i < ls.length:=oM
  have hb1:=SlA.based hrs oM
  have hgx : rs[((i : Nat) : Int).toNat]? = some rs[i]:=gE hil
  have hrn : rs[i].n = C:=by rw [(hall.get (gE hils) (gE hil)).len]; exact h.len _ (gM hils)
  generalize rs[i] = r at *
  obtain ⟨rp,rn,rc⟩:=r
  dsimp only at hrn
  subst hrn
  refine kP (tN (sQ (bK (SC.sR (lU (iA uT22 zT27 I I hb1 oM sL) (lK (eB (u:=.slice rp rn rc) iT27 I (SlA.rd hrs) hgx I) (lA I (SL.nT (rG (lM I (lM I (lU (eN uT27 I) (lU (SU.eq (v':=vi (rn : Int)) (SU.maxI I I) (congrArg vi (by split <;> omega))) ?_)))))))))))))
  refine lA I (nL (bN (tN (rG (lU (aD I I oM) (lM I (nL ?_)))))))
  exact gA (i + 1) ⟨I,I,getVi I (by rw [if_neg oM]),I,I,I,trivial⟩ I I oM oM
 ·have hil : i = ls.length:=oM
  subst hil
  rw [if_neg (by omega : ¬ ls.length = 0)]
  refine xI (tX (tX (bX (tN (SC.sR (lM I (lU (eN uT22 I) (lM I (lW (cL call25 I (zero_own E g _ ls.length C hR hC)) ?_)))))))))
  rintro _ _ _ ⟨rfl,zp,zk,rfl,rfl⟩
  refine SL.bx (aL zeroValue55) fun b6=>?_
  refine SL.O2 (sK 0 zT55 I I I I I sB) ?_
  refine SL.nT (sQ (SC.sR (lU (fA uT55 I sizeOf53 I) (lK (qL isAgg53 I (cO 0 I I)) (lU (eN uT53 I) (lU (eQ I I) (SL.nT ?_)))))))
  refine iP I (fun hz=>?_) (fun hz=>?_)
  ·have hz0 : ls.length * C = 0:=oM
   have hfl:=flat_len h.len
   have hnil : ls.flatten = []:=List.eq_nil_of_length_eq_zero oM
   refine SC.to (fun w hw=>hw.perm (List.Perm.swap _ _ _)) (g':=g) (s':=rowA encW 94 (.slice zp (ls.length * C) zk) (List.replicate (ls.length * C) (wd 0)) :: pt b6 (.cells #[vi ls.length,vi C,.slice zp (ls.length * C) zk] 55 (0,0)) :: (pt b2 (.cells #[vi 0,vi 0,.slice none 0 0] 55 (0,0)) :: s)) ?_
   refine fS fun g1 hle1 hs1=>?_
   refine SC.sR (lK (qV 0 iT55 zT55 I I I) (SL.O2 (sK 1 zT55 I I I I I sB) ?_))
   refine SL.nT (rE (tR ?_))
   exact ST.retCD 1 s (.inl rfl) results72 rfl iT55 zT55 rfl rfl (.cons _ (.cons _ (.refl _))) ⟨rfl,hle1,zp,zk,by dsimp only; rw [hfl]; rfl,by
    dsimp only
    have : SlA encW g1 (.slice zp (ls.length * C) zk) (List.replicate (ls.length * C) (wd 0)):=hs1
    rw [hz0] at this
    rw [hnil]
    exact this⟩
  ·have hCp : 0 < C:=Nat.pos_of_ne_zero fun e=>hz (by rw [e]; simp)
   refine kP (tN (sQ (SC.sR (lM I (lU (eN uT22 I) (lM I (SL.nT (bK ?_))))))))
   refine SC.to (fun w hw=>hw.perm (List.Perm.swap _ _ _)) (g':=g) (s':=rowA encW 94 (.slice zp (ls.length * C) zk) (List.replicate (ls.length * C) (wd 0)) :: pt b6 (.cells #[vi ls.length,vi C,.slice zp (ls.length * C) zk] 55 (0,0)) :: (pt b2 (.cells #[vi 0,vi 0,.slice none 0 0] 55 (0,0)) :: s)) ?_
   refine oP (ι:=PH × Nat) (fun i=>[(0,.slice p ls.length c),(2,pp b2 0),(3,vi (C : Int)),(6,pp b6 0),(31,.slice p ls.length c),(32,vi ls.length),(33,vi i.2)]) (fun i=>i.1) (fun i=>rowA encW 94 (.slice zp (ls.length * C) zk) (partE ls C i.2 0 []) :: pt b6 (.cells #[vi ls.length,vi C,.slice zp (ls.length * C) zk] 55 (0,0)) :: (pt b2 (.cells #[vi 0,vi 0,.slice none 0 0] 55 (0,0)) :: s)) (fun i=>Le g i.1 ∧ i.2 ≤ ls.length) (fun i=>ls.length - i.2) (g,0)
    sB rfl (by dsimp only; rw [partE_zero]) ⟨Le.refl g,Nat.zero_le _⟩ ?_
   rintro ⟨g1,i⟩ ⟨hle1,hi1⟩
   dsimp only at hle1 hi1 ⊢
   refine SC.sR (lU (lS I I) (SL.nT (sQ ?_)))
   refine iP I (fun hlt2=>?_) (fun hlt2=>?_)
   ·have hils : i < ls.length:=oM
    have hil : i < rs.length:=oM
    have hb1:=SlA.based hrs oM
    have hgx : rs[((i : Nat) : Int).toNat]? = some rs[i]:=gE hil
    have hrow : ListR g ls[i] rs[i]:=hall.get (gE hils) (gE hil)
    have hrlen:=h.len _ (gM hils)
    have hsm:=h.small _ (gM hils)
    have hnext:=partE_row h.len hils []
    have hp0 : partE ls C i 0 [] = partE ls C i 0 ls[i]:=by simp [partE]
    rw [hp0]
    generalize hx : ls[i] = x at *
    generalize rs[i] = r at *
    obtain ⟨rp,rn,rc⟩:=r
    have hrn : rn = C:=by rw [← hrlen]; exact hrow.len
    subst hrn
    have hxs : Ints g (.slice rp rn rc) x:=hrow
    refine kP (tN (sQ (bK (SC.sR (lM I (lU (iA uT22 zT27 I I hb1 oM sL) (lK (eB (u:=.slice rp rn rc) iT27 I (SlA.rd (SlA.mono hrs hle1)) hgx I) (lA I (lA I (SL.nT (SC.sR (lM I (lU (eN uT27 I) (lM I (SL.nT (bK ?_))))))))))))))))
    refine oP (ι:=PH × Nat) (fun k=>[(2,pp b2 0),(3,vi (rn : Int)),(6,pp b6 0),(7,vi i),(0,.slice p ls.length c),(31,.slice p ls.length c),(32,vi ls.length),(33,vi i),(38,.slice rp rn rc),(39,vi rn),(40,vi k.2)]) (fun k=>k.1) (fun k=>rowA encW 94 (.slice zp (ls.length * rn) zk) (partE ls rn i k.2 x) :: pt b6 (.cells #[vi ls.length,vi rn,.slice zp (ls.length * rn) zk] 55 (0,0)) :: (pt b2 (.cells #[vi 0,vi 0,.slice none 0 0] 55 (0,0)) :: s)) (fun k=>Le g k.1 ∧ k.2 ≤ rn) (fun k=>rn - k.2) (g1,0)
     sB rfl rfl ⟨hle1,Nat.zero_le _⟩ ?_
    rintro ⟨g2,j⟩ ⟨hle2,hj⟩
    dsimp only at hle2 hj ⊢
    refine SC.sR (lU (lS I I) (SL.nT (sQ ?_)))
    refine iP I (fun hlt3=>?_) (fun hlt3=>?_)
    ·have hjl : j < rn:=oM
     have hjx : j < x.length:=oM
     have hb2:=SlA.based hxs oM
     have hgj : x[((j : Nat) : Int).toNat]? = some x[j]:=gE hjx
     have hbd:=hsm x[j] (gM hjx)
     have hset:=partE_set h.len hils hrlen hjl
     have hpl:=partE_length h.len hils hrlen (Nat.le_of_lt hjl)
     have hidx:=idx_lt hils hjl
     generalize x[j] = z at *
     refine SC.facts fun ⟨w0,hw0⟩=>?_
     have hbE : based (.slice zp (ls.length * rn) zk) = true:=by
      obtain ⟨b0,c0,he⟩:=rowA_based (i:=0) hw0 rfl oM
      rw [he]; rfl
     clear hw0 w0
     refine kP (tN (sQ (bK (SC.sR (lM I (lU (iA uT27 zT3 I I hb2 oM sL) (lK (eB iT3 I (SlA.rd (SlA.mono hxs hle2)) hgj I) (lA I (lA I (SL.nT ?_))))))))))
     refine dW [10] [(0,2),(1,1),(2,2),(3,2),(4,2),(5,2),(6,2),(7,2),(8,0),(9,2),(10,0)] Tryz.mixed (by kernel_rfl) ?_
     refine pU I (fA uT55 I sizeOf53 I) (pK I (qL (v:=.slice zp (ls.length * rn) zk) isAgg53 I (cO 1 I I)) (pU I (mV I) (pU I (mV I) (pU I (SU.eq (v':=vi ((i * rn : Nat))) (SU.mulW I I) (congrArg vi (by rw [← Int.natCast_mul]; exact IntWalk.i64_in _ (by have:=Nat.mul_le_mul (Nat.le_of_lt hils) (lR rn); omega)))) ?_))))
     refine pU I (mV I) (pU I (SU.eq (v':=vi ((i * rn + j : Nat))) (SU.addW I I) (congrArg vi (by rw [← Int.natCast_add]; exact IntWalk.i64_in _ oM))) ?_)
     refine pU rfl (mV rfl) (SP.o rfl (cL call127 rfl (from_spec E g2 _ z hbd.1 hbd.2)) dC (.inr (by rintro _ g3 _ ⟨rfl,rfl,hle3⟩; exact ⟨by assumption,(by exact .refl _)⟩)) ?_)
     rintro _ g3 _ ⟨rfl,rfl,hle3⟩
     refine pU I (iA uT53 zT94 I I hbE oM sL) (SP.on I (sT (a:=wd z) 0 zT94 I I I oM (wideN_cells z)) (.inl dC) ?_)
     rintro _ _ _ ⟨rfl,rfl⟩
     refine pN (bN (tN (rG (lU (aD I I oM) (lM I (nL ?_))))))
     exact gA (g3,j + 1) sB rfl (by dsimp only; rw [← hset]; rfl) ⟨hle2.trans hle3,by dsimp only; omega⟩ (by dsimp only; omega)
    ·have hjn : j = rn:=oM
     subst hjn
     rw [hnext]
     refine xI (tX (tX (bX (bN (tN (rG (lU (aD I I oM) (lM I (nL ?_)))))))))
     exact gA (g2,i + 1) sB I I ⟨hle2,by dsimp only; omega⟩ (by dsimp only; omega)
   ·have hin : i = ls.length:=oM
    subst hin
    rw [partE_all h.len]
    refine fS fun g2 hle2 hs2=>?_
    have hfl:=flat_len h.len
    refine xI (tX (tX (bX (tN (SC.sR (lK (qV 0 iT55 zT55 I I I) (SL.O2 (sK 1 zT55 I I I I I sB) ?_)))))))
    refine SL.nT (rE ?_)
    exact ST.retCD 1 s (.inl rfl) results72 rfl iT55 zT55 rfl rfl (.cons _ (.cons _ (.refl _))) ⟨rfl,hle1.trans hle2,zp,zk,by dsimp only; rw [hfl]; rfl,by dsimp only; rw [hfl]; exact hs2⟩
theorem SU.idxT {P : Program} {N : Nat} {f : Fr} {dst : Option Tmp} {ty : TypeId} {pos : String} {af : Array Edge} {gd : Option (Nat × Bool)} {x : Operand} {T : TypeId} {b : UInt8} {r : List UInt8} (hT : P.underlying T = some .string) (hx : ev f x = some (txt (b :: r))) :
  SU P N ⟨dst,.index T x (.const (vi 0)),ty,pos,af,gd⟩ f (.int .u8 b.toNat):=fun a w ha=>by
 have h1 : (Instr.index T (txt (b :: r)) (vi 0)).run P w = .ok (.int .u8 b.toNat) w:=by
  unfold txt
  rw [run_index_string (w:=w) T _ .i64 0 hT]
  rw [dif_pos (by simp [ByteArray.size])]
  rfl
 have h2 : a.eval (.const (vi 0)) = vi 0:=rfl
 simp only [execOp,ha.ev hx,h2,Sem.run_bind,h1,Result.andThen_ok]
 rfl
def CanW (p : Bool × List UInt8) : Prop:=(p.2 = [] → p.1 = false) ∧ ∀ x r,p.2 = x :: r → x ≠ 0
theorem dropZ_head {l : List UInt8} {x : UInt8} {r : List UInt8} (h : dropZ l = x :: r) : x ≠ 0:=by
 induction l with
 | nil=>cases h
 | cons a t ih =>
  unfold dropZ at *
  rw [List.dropWhile_cons] at h
  by_cases ha : (a == 0) = true
  ·rw [if_pos ha] at h; exact ih h
  ·rw [if_neg ha] at h
   injection h with h1 h2
   subst h1
   simpa using ha
theorem can_wd (n : Int) : CanW (wd n):=⟨fun h=>by unfold wd at *; dsimp only at h ⊢; rw [h]; simp,fun _ _ h=>dropZ_head h⟩
def MatOk (m : Nat × Nat × List Int) : Prop:=m.1 ≤ 200 ∧ m.2.1 ≤ 200 ∧ m.2.2.length = m.1 * m.2.1
theorem wideNeq (x y : Bool × List UInt8) (w : World) : (binOp .neq 94 (.agg (encW.enc x).toArray) (.agg (encW.enc y).toArray)).run Tryz.prog w = .ok (.bool (decide (x ≠ y))) w:=by
 have hu : Tryz.prog.underlying 94 = some (.struct (Tryz.prog.fieldsOf 94)):=by kernel_rfl
 rw [run_neq_struct,run_equalIn_agg w 9999 94 _ _ hu stoodInHeld94]
 have hfs : ∃ f1 f2,(Tryz.prog.fieldsOf 94).toList = [f1,f2] ∧ f1.name ≠ "_" ∧ f2.name ≠ "_" ∧ f1.type = 4 ∧ f2.type = 9 ∧ f1.offset = 0 ∧ f2.offset = 1:=⟨_,_,rfl,by decide,by decide,rfl,rfl,rfl,rfl⟩
 obtain ⟨f1,f2,e,n1,n2,t1,t2,o1,o2⟩:=hfs
 obtain ⟨a,b⟩:=x
 obtain ⟨c,d⟩:=y
 rw [e]
 have h1:=run_equalIn_bool (P:=Tryz.prog) w 9998 4 a c uT4
 have h2:=run_equalIn_string (P:=Tryz.prog) w 9998 9 ⟨b.toArray⟩ ⟨d.toArray⟩ uT9
 rw [txt_list,txt_list] at h2
 simp only [Op.eqFields,n1,n2,t1,t2,o1,o2,encW,txt,part,ne_eq,not_false_eq_true,if_true,Sem.run_bind,isAgg4,isAgg9,Result.andThen_ok]
 simp [h1,h2]
 by_cases hac : a = c <;> by_cases hbd : b = d <;> simp [hac,hbd]
theorem SU.neqW {N : Nat} {f : Fr} {dst : Option Tmp} {ty : TypeId} {pos : String} {af : Array Edge} {gd : Option (Nat × Bool)} {x y : Operand} {a b : Bool × List UInt8} {U : TypeId} (hx : ev f x = some (.agg (encW.enc a).toArray)) (hy : ev f y = some (.agg (encW.enc b).toArray)) :
  SU Tryz.prog N ⟨dst,.binOp .neq 94 x y U,ty,pos,af,gd⟩ f (.bool (decide (a ≠ b))):=fun ac w ha=>by
 have hg:=run_eqGuard_agg (P:=Tryz.prog) w .neq 94 x y (encW.enc a).toArray (encW.enc b).toArray eqGuardType94
 simp only [execOp,ha.ev hx,ha.ev hy,Sem.run_bind,hg,Result.andThen_ok,wideNeq]
 rfl
theorem idsP (E : World) (g : PH) (b : Nat) (d : Int) (tl : List Cl) (hb : g b = some (.cells #[vi d] 3 (0,0))) : PredOk E (.func (.func 78) #[] #[pp b 0]) (fun c=>decide (c.dim = d)) tl g:=by
 intro g s c r hle hm hc
 refine CallV.mk (cap:=[pp b 0]) call78 ?_
 have hb':=hle _ _ hb
 obtain ⟨ri,rd,rsv⟩:=r
 have hd : rd = c.dim:=hc.2.1
 subst hd
 refine Ctr.of (args:=[rcv ⟨ri,c.dim,rsv⟩,pp b 0]) func78 I ntmps78 (bE I) ?_
 refine SC.sR (SL.bx (bO I) fun b2=>?_)
 refine lA I (SL.nT (SC.sR (lU (fA uT40 I zT3 I) (lK (qL (v:=vi c.dim) iT3 I (cO 0 I I)) (lK (qL iT3 I (cK hb' I)) (lU (eQ I I) (lA I (SL.nT (rE (dR (s':=s) (.cons _ (.refl _)) ?_))))))))))
 exact ST.ret1 (.inl I) results78 I ⟨I,I,I⟩
theorem ids_spec (E : World) (g : PH) (s : Own) (v : Value) (l : List Cl) (d : Int) (hv : Cells g v l) (hf : Fits l) :
  Ctr Tryz.prog E 23 #[.agg #[v],vi d] g s (fun r g' s'=>s = s' ∧ Le g g' ∧ Ints g' r (idsC l d)):=by
 refine Ctr.of (args:=[.agg #[v],vi d]) func23 I ntmps23 (bE I) ?_
 refine SC.sR (SL.bx (bO I) fun b2=>?_)
 refine SL.bx (bO I) fun b3=>?_
 refine SL.freeze fun g1 hle hb=>?_
 refine lA I (SL.nT (SC.sR (lK (qV 0 iT31 zT31 I I I) (lW (cL kT56 I (of_spec E g1 _ v l (hv.mono hle) hf)) ?_))))
 rintro tv g2 _ ⟨rfl,hle2,ht⟩
 refine lU (SU.mkFunc I) (lW (cL call68 I (names_spec E g2 _ tv _ _ _ ht (tabC_nodup l) (tabC_fits hf) (idsP E g2 b3 d _ (hle2 _ _ hb)))) ?_)
 rintro r8 g3 _ ⟨rfl,hle3,hr⟩
 refine lA I (SL.nT (rE (dR (s':=s) (.cons _ (.refl _)) ?_)))
 exact ST.ret1 (.inl I) results23 I ⟨I,hle.trans (hle2.trans hle3),hr⟩
theorem tab_asc (l : List Cl) : ((tabC l).map Cl.id).Pairwise (· < ·):=by
 have h1:=tabC_sorted l
 have h2:=tabC_nodup l
 have h3:=h1.and h2
 exact h3.imp fun h=>by omega
theorem ids_asc (l : List Cl) (d : Int) : (idsC l d).Pairwise (· < ·):=(tab_asc l).sublist ((List.filter_sublist ..).map _)
theorem ids_le (l : List Cl) (d : Int) : (idsC l d).length ≤ (tabC l).length:=by
 unfold idsC
 rw [List.length_map]
 exact List.length_filter_le _ _
def addAt (M : List (List Int)) (i k : Nat) (z : Int) : List (List Int):=M.modify i fun r=>r.modify k fun a=>IntKind.i64.wrap (a + z)
def colStep (rows : List Int) (k : Nat) (M : List (List Int)) (x : Side) : List (List Int):=if rows.contains x.cell then addAt M (lbI rows x.cell) k x.sign else M
def cellAt (tab : List Cl) (id : Int) : Cl:=(findT tab id).getD zeroC
def matTo (tab : List Cl) (rows cols : List Int) : Nat → List (List Int)
 | 0=>List.replicate rows.length (List.replicate cols.length 0)
 | k + 1=>(cellAt tab (cols.getD k 0)).sides.foldl (colStep rows k) (matTo tab rows cols k)
def Shape (M : List (List Int)) (R C : Nat) : Prop:=M.length = R ∧ ∀ r ∈ M,r.length = C ∧ ∀ n ∈ r,-9223372036854775808 ≤ n ∧ n < 9223372036854775808
theorem wrap_range (n : Int) : -9223372036854775808 ≤ IntKind.i64.wrap n ∧ IntKind.i64.wrap n < 9223372036854775808:=by rw [IntKind.wrap_i64]; omega
theorem mem_modify {α : Type} {f : α → α} {x : α} : ∀ {l : List α} {i : Nat},x ∈ l.modify i f → x ∈ l ∨ ∃ y ∈ l,x = f y
 | [],_,h=>by simp at h
 | a :: t,0,h=>by
  simp only [List.modify_cons,if_true,List.mem_cons] at h
  rcases h with h | h
  ·exact .inr ⟨a,by simp,h⟩
  ·exact .inl (by simp [h])
 | a :: t,i + 1,h=>by
  simp only [List.modify_cons,Nat.add_one_ne_zero,if_false,Nat.add_sub_cancel,List.mem_cons] at h
  rcases h with h | h
  ·exact .inl (by simp [h])
  ·rcases mem_modify h with h | ⟨y,hy,e⟩
   ·exact .inl (by simp [h])
   ·exact .inr ⟨y,by simp [hy],e⟩
theorem Shape.addAt {M : List (List Int)} {R C : Nat} (h : Shape M R C) (i k : Nat) (z : Int) : Shape (addAt M i k z) R C:=by
 refine ⟨by unfold Go.Proofs.YtkdibcicncjpdaaGreatDoor.addAt; rw [List.length_modify]; exact h.1,fun r hr=>?_⟩
 rcases mem_modify hr with hr | ⟨r0,hr0,rfl⟩
 ·exact h.2 r hr
 ·refine ⟨by rw [List.length_modify]; exact (h.2 r0 hr0).1,fun n hn=>?_⟩
  rcases mem_modify hn with hn | ⟨m,hm,rfl⟩
  ·exact (h.2 r0 hr0).2 n hn
  ·exact wrap_range _
theorem Shape.step {M : List (List Int)} {R C : Nat} (h : Shape M R C) (rows : List Int) (k : Nat) (x : Side) : Shape (colStep rows k M x) R C:=by
 unfold colStep
 split
 ·exact h.addAt _ _ _
 ·exact h
theorem Shape.fold {R C : Nat} (rows : List Int) (k : Nat) : ∀ (l : List Side) {M : List (List Int)},Shape M R C → Shape (l.foldl (colStep rows k) M) R C
 | [],_,h=>h
 | x :: l,_,h=>Shape.fold rows k l (h.step rows k x)
theorem matTo_shape (tab : List Cl) (rows cols : List Int) : ∀ k,Shape (matTo tab rows cols k) rows.length cols.length
 | 0=>⟨by simp [matTo],fun r hr=>by
  simp only [matTo] at hr
  obtain ⟨_,rfl⟩:=List.mem_replicate.1 hr
  refine ⟨by simp,fun n hn=>?_⟩
  obtain ⟨_,rfl⟩:=List.mem_replicate.1 hn
  decide⟩
 | k + 1=>Shape.fold rows k _ (matTo_shape tab rows cols k)
def matRes (tab : List Cl) (rows cols : List Int) : Nat × Nat × List Int :=
 if decide ((rows.length : Int) > 200) || decide ((cols.length : Int) > 200) then (0,0,[]) else if rows.length = 0 then (0,cols.length,[]) else (rows.length,cols.length,(matTo tab rows cols cols.length).flatten)
theorem Shape.rows {M : List (List Int)} {R C : Nat} (h : Shape M R C) (h0 : 0 < R) (h1 : R ≤ 200) (h2 : C ≤ 200) : Rows M C :=
 ⟨fun r hr=>(h.2 r hr).1,fun r hr=>(h.2 r hr).2,by rw [h.1]; exact h0,by rw [h.1]; exact h1,h2⟩
def rowI (v : Sv) (l : List Int) : Ent:=rowA encInt 3 (.slice v.p v.n v.c) l
def ownR : List Sv → List (List Int) → Own
 | v :: vs,l :: ls=>rowI v l :: ownR vs ls
 | _,_=>[]
theorem ownR_append : ∀ {vs : List Sv} {ls : List (List Int)} (v : Sv) (l : List Int),vs.length = ls.length → ownR (vs ++ [v]) (ls ++ [l]) = ownR vs ls ++ [rowI v l]
 | [],[],_,_,_=>rfl
 | x :: vs,y :: ls,v,l,h=>by
  simp only [List.cons_append,ownR]
  rw [ownR_append v l (by simpa using h)]
 | [],_ :: _,_,_,h=>by simp at h
 | _ :: _,[],_,_,h=>by simp at h
theorem ownR_get : ∀ {vs : List Sv} {ls : List (List Int)} {i : Nat} {v : Sv} {l : List Int},vs[i]? = some v → ls[i]? = some l → (ownR vs ls)[i]? = some (rowI v l)
 | x :: vs,y :: ls,0,v,l,h1,h2=>by simp at h1 h2; subst h1; subst h2; rfl
 | x :: vs,y :: ls,i + 1,v,l,h1,h2=>by simp at h1 h2; simpa [ownR] using ownR_get h1 h2
 | [],_,_,_,_,h1,_=>by simp at h1
 | _ :: _,[],_,_,_,_,h2=>by simp at h2
theorem ownR_length : ∀ {vs : List Sv} {ls : List (List Int)},vs.length = ls.length → (ownR vs ls).length = ls.length
 | [],[],_=>rfl
 | x :: vs,y :: ls,h=>by simp [ownR,ownR_length (vs:=vs) (ls:=ls) (by simpa using h)]
 | [],_ :: _,h=>by simp at h
 | _ :: _,[],h=>by simp at h
theorem ownR_set : ∀ {vs : List Sv} {ls : List (List Int)} {i : Nat} {v : Sv} (l : List Int),vs[i]? = some v → vs.length = ls.length → (ownR vs ls).set i (rowI v l) = ownR vs (ls.set i l)
 | x :: vs,y :: ls,0,v,l,h,_=>by simp at h; subst h; rfl
 | x :: vs,y :: ls,i + 1,v,l,h,hl=>by
  simp only [ownR,List.set_cons_succ]
  rw [ownR_set l (by simpa using h) (by simpa using hl)]
 | [],_,_,_,_,h,_=>by simp at h
 | _ :: _,[],_,_,_,_,h=>by simp at h
theorem freezeR {E : World} {s : Own} {w : World} : ∀ {vs : List Sv} {ls : List (List Int)} {g : PH},vs.length = ls.length → (∀ v ∈ vs,∀ l ∈ ls,v.n = l.length) → At E g (ownR vs ls ++ s) w → ∃ g',Le g g' ∧ At E g' s w ∧ All2 (ListR g') ls vs
 | [],[],g,_,_,h=>⟨g,Le.refl g,h,trivial⟩
 | v :: vs,l :: ls,g,h1,hn,h=>by
  obtain ⟨g1,hl1,ha1,hs1⟩:=At.freezeRow h
  obtain ⟨g2,hl2,ha2,hs2⟩:=freezeR (by simpa using h1) (fun v hv l hl=>hn v (by simp [hv]) l (by simp [hl])) ha1
  exact ⟨g2,hl1.trans hl2,ha2,SlA.mono hs1 hl2,hs2⟩
 | [],_ :: _,_,h1,_,_=>by simp at h1
 | _ :: _,[],_,h1,_,_=>by simp at h1
theorem freezeLs {E : World} {s : Own} {w : World} {vs : List Sv} {ls : List (List Int)} {g : PH} {u : Value} (h1 : vs.length = ls.length) (hn : ∀ v ∈ vs,∀ l ∈ ls,v.n = l.length) (h : At E g (rowA encSv 27 u vs :: (ownR vs ls ++ s)) w) : ∃ g',Le g g' ∧ At E g' s w ∧ Lists g' u ls:=by
 obtain ⟨g1,hl1,ha1,hs1⟩:=At.freezeRow h
 obtain ⟨g2,hl2,ha2,hs2⟩:=freezeR h1 hn ha1
 exact ⟨g2,hl1.trans hl2,ha2,vs,SlA.mono hs1 hl2,hs2⟩
theorem SC.freezeLs {P : Program} {N : Nat} {E : World} {Q : Exit → Act → World → Prop} {f : Fr} {g : PH} {s : Own} {o : Code} {vs : List Sv} {ls : List (List Int)} {u : Value} (h1 : vs.length = ls.length) (hn : ∀ v ∈ vs,∀ l ∈ ls,v.n = l.length) (h : ∀ g',Le g g' → Lists g' u ls → SC P N E o Q f g' s) : SC P N E o Q f g (rowA encSv 27 u vs :: (ownR vs ls ++ s)):=fun a w ha hw=>by
 obtain ⟨g',h2,h3,h4⟩:=Go.Proofs.YtkdibcicncjpdaaGreatDoor.freezeLs h1 hn hw
 exact h g' h2 h4 a w ha h3
end Go.Proofs.YtkdibcicncjpdaaGreatDoor
