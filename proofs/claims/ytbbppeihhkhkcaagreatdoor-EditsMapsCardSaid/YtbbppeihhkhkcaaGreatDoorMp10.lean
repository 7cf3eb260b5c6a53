/- 10 -/
import Derived.Test.YtbbppeihhkhkcaaGreatDoorMp09
import Derived.OrdersIn
import Derived.Test.YtbbppeihhkhkcaaGreatDoorMp06
import Derived.Test.YtbbppeihhkhkcaaGreatDoorMp05
import Derived.Laws.BytesString
import Derived.Laws.Strings
import Derived.Test.YtbbppeihhkhkcaaGreatDoorMp02
import Derived.Shelf.Strings.Trim
import Derived.Test.YtbbppeihhkhkcaaGreatDoorMp04
import Derived.Test.YtbbppeihhkhkcaaGreatDoorMp08
set_option linter.unusedSimpArgs false
set_option linter.unusedVariables false
namespace Go.Sy
open Go
section
variable {P:Program}{M:Md}{N:Nat}{E:World}{Q:Exit→Act→World→Prop}{f:Fr}{g:PH}{s:Own}{dst:Option Tmp}{ty:TypeId}{pos:String}{af:Array Edge}{gd:Option (Nat×Bool)}
def sf {κ:Type}{N:Nat}(E:World)(g:PH)(s:Own)(fb:κ→Fr)(X:κ→Own):Exit→Act→World→Prop:=fun e a' w'=>e = .normal∧∃ q,Okd [] N (fb q) a'∧At E g (X q++s) w'
theorem XT.assignEndA {κ:Type}{fb:κ→Fr}{X:κ→Own}{ro:Option Nat}{s0:Own}(q:κ)(hf:Sub (fb q) f)(hs:X q++s0=s):XT ⟨ro,[]⟩ N E (sf (N:=N) E g s0 fb X) .normal f g s:=fun _ _ ha hw=>⟨rfl,q,ha.sub hf,by rw[hs]; exact hw⟩
theorem XC.rangeFuncA {α ι κ:Type}{gop:Operand}{ps:Array Tmp}{assign body:Code}{gf:FuncId}{lb:List Value}{encs:α→List Value}{xs:List α}{g0:PH}(G:ι→PH)(S:ι→Own)(J:List α→ι→Prop)(i0:ι)(sx0:Own)(fa:α→Fr)(fb:List α→α→ι→κ→Fr)(X:α→κ→Own)
  (hro:M.ro=none) (hg:ev f gop=some (.func (.func gf) #[] lb.toArray)) (eg:∀ args w,(callFunc gf args).run P w = .ok (.enter gf args) w) (hps:∀ x,(encs x).length=ps.size)
  (hG:G i0=g) (hS:S i0++sx0=s) (hseq:C7 P E gf lb encs xs g0) (hmono:∀ pre i,J pre i→Le g0 (G i)) (h0:J [] i0)
  (hfa:∀ x a,Ok N f (ld a)→Ok N (fa x) { tmps:=(ps.zip (encs x).toArray).foldl (fun t (p,v)=>t.setIfInBounds p v) a.tmps,defers:=[] })
  (hassign:∀ l pre x i sx,J pre i→XC P ⟨some l,[]⟩ N E assign (sf (N:=N) E (G i) (S i++sx) (fb pre x i) (X x)) (fa x) (G i) (S i++sx))
  (hbody:∀ l pre x suf i sx q,(∃ (r:Loop) (k:Nat),sx[k]?=some (pt l (.loop r)))→xs=pre++x::suf→J pre i→XC P ⟨some l,[]⟩ N E body (s6 E G S J pre x sx) (fb pre x i q) (G i) (X x q++(S i++sx)))
  (hdone:∀ D j,J xs j→XT ⟨none,⟨.collected D,#[]⟩::M.ds⟩ N E Q .normal f (G j) (pt D (.deferred (some []))::(S j++sx0))):XC P M N E (.rangeFunc gop ps assign body) Q f g s:=by
 subst hG hS;intro a w ha hw;rw[hro];refine wpIn_rangeFunc ?_;intro fn _;obtain ⟨rec,hrec⟩:∃ rec:LoopState→Option Code→Loop,rec=fun st pe=>{ state:=st,pending:=pe,fn,tmps:=a.tmps,params:=ps,assign,body,defers:=w.heap.size }:=⟨_,rfl⟩;obtain ⟨L,hL⟩:∃ L,L=w.heap.size+1:=⟨_,rfl⟩;obtain ⟨D,hD⟩:∃ D,D=w.heap.size:=⟨_,rfl⟩;obtain ⟨W1,hW1⟩:∃ W1,(w.alloc (.deferred (some []))).alloc (.loop (rec .ready none))=W1:=⟨_,rfl⟩;have hA:At E (G i0) (pt L (.loop (rec .ready none))::pt D (.deferred (some []))::(S i0++sx0)) W1:=by
  rw[← hW1,hL,hD];have h1:At E (G i0) (pt w.heap.size (.deferred (some []))::(S i0++sx0)) (w.alloc (.deferred (some []))):=hw.alloc (e:=pt w.heap.size (.deferred (some []))) rfl rfl;have h2:=h1.alloc (e:=pt (w.alloc (.deferred (some []))).heap.size (.loop (rec .ready none))) rfl rfl;rw[World.size_alloc] at h2;exact h2
 obtain ⟨S2,hS2⟩:∃ S2:ι→Own,S2=fun i=>S i++(pt L (.loop (rec .ready none))::pt D (.deferred (some []))::sx0):=⟨_,rfl⟩;have hA2:At E (G i0) (S2 i0++[]) W1:=by
  rw[hS2,zc6];dsimp only;refine hA.perm ?_;have h1:(pt L (.loop (rec .ready none))::pt D (.deferred (some []))::(S i0++sx0))=[pt L (.loop (rec .ready none)),pt D (.deferred (some []))]++(S i0++sx0):=rfl;have h2:S i0++(pt L (.loop (rec .ready none))::pt D (.deferred (some []))::sx0)=S i0++([pt L (.loop (rec .ready none)),pt D (.deferred (some []))]++sx0):=rfl;rw[h1,h2,← zg8,← zg8];exact List.perm_append_comm.append_right _
 refine⟨L,[{ target:=.collected D,args:=#[] }],W1,{ target:=.fn (.func gf) lb.toArray,args:=#[.func (.yield L) #[] #[]] },W1,gf,(.func (.yield L) #[] #[]::lb).toArray,W1,?_,?_,fun _ _=>trivial,?_,fun h=>(by cases h),?_⟩
 ·rw[← hW1,hrec,hL,hD]; exact run_enterLoop_outer _ _ _ _ _
 ·have h1:a.eval gop = .func (.func gf) #[] lb.toArray:=ha.ev hg;simp only[resolve,h1];simp[go_sem]
 ·have:(#[.func (.yield L) #[] #[]]++lb.toArray:Array Value)=(.func (.yield L) #[] #[]::lb).toArray:=by simp
  simp[invoke,go_sem,eg]
 ·refine (callsIn_wide (n:=0 - 1)).2 ((hseq L ι G S2 J i0 h0 hmono ?_ [] W1 hA2).mono ?_)
  ·intro pre x suf i sx hxs hJ W hW;rw[hS2] at hW;simp only[zg8,List.cons_append] at hW;have hlen:(S i).length=(S i).length:=rfl;have gl:∀ (i:ι) (u u':Ent) (r:Own),(S i++u::u'::r)[(S i).length]?=some u:=fun i u u' r=>by simp
   have hl:=hW.here (gl i _ _ _);have hy:=run_yield (P:=P) (args:=(encs x).toArray) hl (by rw[hrec]; simpa using hps x);rw[hrec] at hy;refine⟨fn,_,assign,body,hy,roundIn_of_wpIn trivial ?_⟩;refine Code.wpIn_mono (fun e a1 w1 h1=>?_) (hassign L pre x i _ hJ { tmps:=(ps.zip (encs x).toArray).foldl (fun t (p,v)=>t.setIfInBounds p v) a.tmps,defers:=[] } W ⟨I,hfa x a ha.2⟩ hW);obtain ⟨rfl,q,ha1,hw1⟩:=h1;have glX:∀ (X:Own) (i:ι) (u u':Ent) (r:Own),(X++(S i++u::u'::r))[X.length+(S i).length]?=some u:=fun X i u u' r=>by rw[zh3 oM,Nat.add_sub_cancel_left]; exact gl i u u' r
   have hl1:=hw1.here (glX _ i _ _ _);refine⟨_,run_beginRound hl1 (by rw[hrec]),?_⟩;have hset:∀ (i:ι) (u u' v:Ent) (r:Own),(S i++u::u'::r).set (S i).length v=S i++v::u'::r:=fun i u u' v r=>by simp
   have hsetX:∀ (X:Own) (i:ι) (u u' v:Ent) (r:Own),(X++(S i++u::u'::r)).set (X.length+(S i).length) v=X++(S i++v::u'::r):=fun X i u u' v r=>by rw[List.set_append_right _ _ oM,Nat.add_sub_cancel_left,hset]
   have hw2:=hw1.obj (o':=.loop { rec .ready none with state:=.busy }) (glX _ i _ _ _);rw[hsetX] at hw2;refine Code.wpIn_mono (fun e a3 w3 h3=>?_) (hbody L pre x suf i _ q ⟨_,0,I⟩ hxs hJ a1 _ ha1 hw2);obtain ⟨rfl,j,hw3,hJ3⟩:=h3;have hl3:=hw3.here (gl j _ _ _);have he:=run_endRound (P:=P) none hl3;have hw4:=hw3.obj (o':=.loop { (rec .ready none) with state:=.ready,pending:=none }) (gl j _ _ _);rw[hset] at hw4;refine⟨_,_,he,.bool true,G j,S2 j++sx,I,?_,I,j,hJ3,I,I⟩;rw[hS2];simp only[zg8,List.cons_append];rw[hrec] at hw4 ⊢;exact hw4
  ·rintro e W2 ⟨v,g',s',rfl,hat,j,hJ,rfl,rfl⟩;rw[hS2,zc6] at hat;have gl:∀ (i:ι) (u u':Ent) (r:Own),(S i++u::u'::r)[(S i).length]?=some u:=fun i u u' r=>by simp
   have hl:=hat.here (gl j _ _ _);have he:=run_endLoop (P:=P) hl (by rw[hrec]; simp);have h2:=hat.obj (o':=.loop { (rec .ready none) with state:=.exhausted }) (gl j _ _ _);have hset:∀ (i:ι) (u u' v:Ent) (r:Own),(S i++u::u'::r).set (S i).length v=S i++v::u'::r:=fun i u u' v r=>by simp
   rw[hset] at h2;have hpn:(rec .ready none).pending=none:=by rw[hrec]
   refine⟨none,_,he.trans (ze2 (fun p=>Result.ok p _) hpn),?_⟩;refine hdone D j hJ _ _ ⟨by rw[← ha.1]; rfl,ha.2⟩ ?_;have h3:=(h2.sublist (s':=S j++pt D (.deferred (some []))::sx0) (by exact (zc3 _).append (zj1 _ _))).perm zk2;exact h3
end
end Go.Sy
namespace Go.Sy
open Go
def ext (ds:List Deferred)(b:Act):Act:={ b with defers:=b.defers++ds }
theorem mY (ds:List Deferred)(b:Act)(d:Option Tmp)(v:Value):ext ds (b.put d v)=(ext ds b).put d v:=by cases d <;> rfl
theorem Eb (ds:List Deferred)(b:Act):(ext ds b).eval=b.eval:=by funext x; cases x <;> rfl
def oY (ops:Array Oper):Bool:=ops.toList.all fun o=>match o.op with | .defer _=>false | _=>true
theorem zV {ops:Array Oper}(h:oY ops=true){i:Nat}{o:Oper}(hi:ops[i]?=some o):∀ c,o.op ≠ .defer c:=by
 intro c hc;unfold oY at h;rw[zj9] at h;have hm:o∈ops.toList:=by
  rw[Array.getElem?_eq_some_iff] at hi;obtain ⟨hlt,rfl⟩:=hi;simp
 have:=h o hm;rw[hc] at this;exact absurd this (by simp)
section
variable {P:Program}{ops:Array Oper}{ro:Option Nat}{ds:List Deferred}{Q Q0:Exit→Act→World→Prop}
theorem zq {o:Oper}{b:Act}{w:World}{K0 K:Act→World→Prop}(hno:∀ c,o.op ≠ .defer c)(hQ0:∀ e b w,Q0 e b w→e = .normal)(hK:∀ b' w',K0 b' w'→K (ext ds b') w')
  (h1:o.wp P b w K0 Q0):o.wpIn (wf ro) 0 P (ext ds b) w K Q:=by
 refine⟨fun _ _=>trivial,?_⟩;rw[Oper.semAt_eq _ _ _ hno,Eb];unfold Oper.wp at h1;generalize (execOp b.eval o).run P w=r at h1;cases r with
 | ok n w' =>
  cases n <;> simp only[Oper.upon] at h1 <;> first | exact h1.elim | skip
  ·have:=hK _ _ h1;rw[mY] at this;exact this
  ·have:=hK _ _ h1;rw[mY] at this;exact this
  ·refine⟨fun h=>(by cases h),(CallsIn.more (n:=0) ((callsIn_wide (n:=0)).2 (Calls.mono h1 (fun e w'' he=>?_))) (zf6 _))⟩;cases e with
   | returned v =>
    have:=hK _ _ he;rw[mY] at this;exact this
   | panicked c=>exact absurd (hQ0 _ _ _ he) (by simp)
   | outgrown =>
    obtain ⟨_,_,h2⟩:=he;exact absurd (hQ0 _ _ _ h2) (by simp)
  ·have:=hK _ _ h1;rw[mY] at this;exact this
  ·exact⟨fun h=>(by cases h),fun c cs _=>let ⟨v,w'',r,st⟩:=h1 c cs; ⟨v,w'',(by have:=hK _ _ r; rw[mY] at this; exact this),stepsIn_wide.2 st⟩⟩
 | halt x w' =>
  cases x <;> simp only[Oper.upon] at h1 <;> first | exact h1.elim | exact absurd (hQ0 _ _ _ h1) (by simp)
theorem qX {i:Nat}{b:Act}{w:World}{K0 K:Act→World→Prop}(hnd:oY ops=true)(hQ0:∀ e b w,Q0 e b w→e = .normal)(hK:∀ b' w',K0 b' w'→K (ext ds b') w')
  (h1:wpOp P ops Q0 i K0 b w):wpOpIn (wf ro) 0 P ops Q i K (ext ds b) w:=by
 unfold wpOp at h1;unfold wpOpIn;cases hi:ops[i]? with
 | none =>
  rw[hi] at h1;exact hK _ _ h1
 | some o =>
  rw[hi] at h1;dsimp only at h1 ⊢;have ht:(ext ds b).tmps=b.tmps:=rfl;rw[ht];split at h1
  ·rename_i hw;rw[zg1 hw]
   rcases h1 with h1 | ⟨_,a',w',h2⟩
   ·exact zq (zV hnd hi) hQ0 hK h1
   ·exact absurd (hQ0 _ _ _ h2) (by simp)
  ·rename_i hw;rw[zf9 hw];refine⟨fun _ _=>trivial,?_⟩;have:=hK _ _ h1;rw[mY] at this;exact this
theorem jR (hnd:oY ops=true)(hQ0:∀ e b w,Q0 e b w→e = .normal∧Q .normal (ext ds b) w):∀ (fuel:Nat) (L:Array Bool) (b:Act) (w:World),wpAny P .any ops Q0 fuel L b w→wpAnyIn (wf ro) 0 P .any ops Q fuel L (ext ds b) w
 | 0,_,_,_,h=>⟨h.1,(hQ0 _ _ _ h.2).2⟩
 | fuel+1,L,b,w,h=>⟨fun hr=>(hQ0 _ _ _ (h.1 hr)).2,fun i hi=>qX hnd (fun e b w h=>(hQ0 e b w h).1) (fun b' w' hb=>jR hnd hQ0 fuel _ b' w' hb) (h.2 i hi)⟩
end
section
variable {P:Program}{M:Md}{N:Nat}{E:World}{Q:Exit→Act→World→Prop}{f:Fr}{g:PH}{s:Own}{ops:Array Oper}
def Qx (ds:List Deferred)(Q:Exit→Act→World→Prop):Exit→Act→World→Prop:=fun e b w=>e = .normal∧Q .normal (ext ds b) w
instance (ds:List Deferred):Quiet (Qx ds Q):=⟨fun _ _ _ _ _ h=>absurd h.1 (by simp)⟩
theorem ST.ofXT (h:XT M N E Q .normal f g s):ST N E (Qx M.ds Q) .normal f g s:=fun a w ha hw=>⟨rfl,h _ _ ⟨by simp[ext,ha.defers],by
 have:ld (ext M.ds a)=a:=by
  obtain ⟨t,d⟩:=a;have hd:d=[]:=ha.defers;subst hd;rfl
 rw[this]; exact ha⟩ hw⟩
theorem XC.draw {id:Nat}(tail:List Nat)(plan:List (Nat×Nat))(hm:P.follows .mixedOrders=true)(hok:qS ops tail plan=true)(hnd:oY ops=true)
  (h:SP P N E ops (Qx M.ds Q) g s tail plan f g s):XC P M N E (.region id ops true) Q f g s:=by
 intro a w ha hw;have hx:a=ext M.ds (ld a):=by
  obtain ⟨t,d⟩:=a;have hd:d=M.ds:=ha.1;subst hd;simp[ext,ld]
 unfold qS at hok;simp only[zj3,beq_iff_eq] at hok;rw[hx];refine wpIn_region_any hm (jR hnd (fun e b w h=>h) _ _ _ _ (i6 _ _ _ _ (S:=At E g s) (tail:=tail) ?_));have:=h (Array.replicate ops.size false) (ld a) { w with drawn:=w.drawn+1 } hok.1.1 (jB _) hok.2 ha.2 (hw.drew _ (Nat.le_succ _)) (fun _=>hw.drew _ (Nat.le_succ _));rw[hok.1.2] at this;exact this
end
end Go.Sy
namespace Go.Proofs.YtbbppeihhkhkcaaGreatDoor
open _root_.Go.Proofs.Tryz _root_.Go.Proofs.YtbbppeihhkhkcaaGreatDoor.Tryz
open Go Go.Sy Go.Pl Go.Proofs
set_option maxRecDepth 100000
set_option maxHeartbeats 1000000
theorem pz {α β:Type}{l:List α}{k:Nat}(h:k<l.length)(p:α→Bool)(f:α→β):((l.take (k+1)).filter p).map f=((l.take k).filter p).map f++(if p l[k] then [f l[k]] else []):=by
 rw[tS h,zh6,zg5];congr 1;simp only[zi7,List.filter_nil];split <;> rfl
theorem vX {α β:Type}(l:List α)(k:Nat)(p:α→Bool)(f:α→β):(((l.take k).filter p).map f).length≤k:=by
 rw[ze6];refine zk8 (zc5 _ _) ?_;rw[ze4]; omega
theorem Tryz.buildE56 (w:World):(Instr.build 56 #[]).run Tryz.prog w = .ok (.agg #[vi 0,vi 0,.slice none 0 0]) w:=by
 simp[Instr.build,Instr.fill];rfl
def De (l:List Cl)(d:Int):List Int:=((ak l).filter fun c=>decide (c.dim=d)).map Cl.id
theorem SU.maxI {P:Program}{N:Nat}{f:Fr}{dst:Option Tmp}{ty:TypeId}{pos:String}{af:Array Edge}{gd:Option (Nat×Bool)}{x y:Operand}{T U:TypeId}{m n:Int}(hx:ev f x=some (vi m))(hy:ev f y=some (vi n)) :
  SU P N ⟨dst,.call ⟨.builtin .max,#[x,y],#[T,U]⟩,ty,pos,af,gd⟩ f (vi (max m n)):=fun a w ha=>by
 have h:=run_max_int2 (P:=P) (w:=w) #[T,U] ty .i64 .i64 m n;have h2:(if m<n then n else m)=max m n:=by split <;> omega
 rw[h2] at h;simp[execOp,resolve,invoke,builtin,ha.ev hx,ha.ev hy,h]
theorem qh (E:World)(g:PH)(s:Own)(v:Value)(l:List Cl)(d:Int)(hv:ar g v l)(hf:ci l) :
  Ctr Tryz.prog E 45 #[.agg #[v],vi d] g s (fun r g' s'=>s=s'∧Le g g'∧eG g' r (De l d)):=by
 have hft:=dv hf;have hfl:=hft.1;obtain ⟨p,c,rfl⟩:=hv.form;refine zb2 (args:=[.agg #[.slice p l.length c],vi d]) func45 I ntmps45 (bE I) ?_;refine rZ (bW (bO I) fun b2=>?_);refine aT I (rZ (aT I (rZ (lK (qV 0 ba aC I I I) (lW (cL call96 I (dU E g _ _ l hv hf)) ?_)))));rintro v9 g1 _ ⟨rfl,hle,hc⟩;obtain ⟨rs,hrs,hall⟩:=hc;obtain ⟨q,dd,rfl⟩:=hrs.form;refine aT I (sQ (rZ (aT I (bK ?_))));have hrl:=hall.length;unfold De;generalize ak l=A at *;refine zb6 3 1 ?_;refine oP (ι:=Value×Nat) (fun i=>[(1,vi d),(5,i.1),(6,.slice q rs.length dd),(7,vi i.2)]) (fun _=>g1) (fun i=>rowA encInt 3 i.1 (((A.take i.2).filter fun c=>decide (c.dim=d)).map Cl.id)::pt b2 (.cells #[.slice p l.length c] 29 (0,0))::s)
  (fun i=>i.2≤A.length) (fun i=>A.length - i.2) (.slice none 0 0,0) sB rfl rfl (zf6 _) ?_
 rintro ⟨ov,k⟩ hk;dsimp only at hk ⊢;refine sQ (sW I (lM I (lU (eN aJ I) (yL I (tZ ?_)))));refine iP I (fun hlt=>?_) (fun hlt=>?_)
 ·have hkl:k<A.length:=oM;have hkr:k<rs.length:=oM;have hb1:=hrs.based oM;have hcr:=hall.get (gE hkl) (gE hkr);have hgr:rs[((k:Nat):Int).toNat]?=some rs[k]:=gE hkr;have hsucc:=pz hkl (fun c=>decide (c.dim=d)) Cl.id;have hlek:=vX A k (fun c=>decide (c.dim=d)) Cl.id;have hxl:=hft.2 _ (gM hkl);generalize A[k]=x at *;generalize rs[k]=r at *;refine kP (tN (sQ (bK (sW I (lM I (lU (iA aJ aq I I hb1 oM sL) (lU (fC au I zT3 I hb1) (lK (aZ (e:=encCell) (o:=1) (u:=vi x.dim) iT3 I hrs.rd hgr (by rw[← hcr.2.1]; rfl)) ?_))))))));refine lM I (yE I (tZ ?_));refine iP I (fun hd=>?_) (fun hd=>?_)
  ·refine rG (lM I (lM I (lM I (lU (iA aJ aq I I hb1 oM sL) (lU (fC au I zT3 I hb1) (lK (aZ (e:=encCell) (o:=0) (u:=vi x.id) iT3 I hrs.rd hgr (by rw[← hcr.1]; rfl)) ?_))))));refine lW (bS sty52 I I I (ae sB) dC) ?_;rintro _ _ _ ⟨b29,rfl,rfl,rfl⟩;refine lW (aP (e:=encInt) 0 x.id sty52 I I I I I oM oM) ?_;rintro ov' _ _ ⟨rfl,rfl⟩;refine lA I (nL (bN (tN (rG (lM I (yD I (lA I (nL ?_))))))));refine ST.to (fun w hw=>?_) (g':=g1) (s':=rowA encInt 3 ov' (((A.take (k+1)).filter fun c=>decide (c.dim=d)).map Cl.id)::pt b2 (.cells #[.slice p l.length c] 29 (0,0))::s) ?_
   ·rw[hsucc,zg1 (zf8 hd)]; exact hw
   exact ST.again (ov',k+1) sB I I (by dsimp only; omega) lN
  ·refine kP (bN (tN (rG (lM I (yD I (lA I (nL ?_)))))));refine ST.to (fun w hw=>?_) (g':=g1) (s':=rowA encInt 3 ov (((A.take (k+1)).filter fun c=>decide (c.dim=d)).map Cl.id)::pt b2 (.cells #[.slice p l.length c] 29 (0,0))::s) ?_
   ·rw[hsucc,zf9 (by rw[zf7 hd]; simp),zc6]; exact hw
   exact ST.again (ov,k+1) sB I I (by dsimp only; omega) lN
 ·have hkk:A.take k=A:=tL oM;rw[hkk];refine xI (tX (tX (bX (tN (sW I (aT I (rE (fT fun g2 hle2 hs2=>?_))))))));refine dR (s':=s) uR ?_;exact za8 (.inl I) results45 I ⟨I,hle.trans hle2,hs2⟩
theorem wQ (E:World)(g:PH)(s:Own)(c:Cl)(r:Rc)(id:Int)(hc:aw g c r)(hl:c.sides.length<1099511627776) :
  Ctr Tryz.prog E 175 #[rcv r,vi id] g s (fun x g' s'=>x=vb (oa c id)∧g=g'∧s=s'):=by
 obtain ⟨ri,rd,⟨rp,rn,rc⟩⟩:=r;have hs:SlA encSide g (.slice rp rn rc) c.sides:=hc.2.2;have hn:rn=c.sides.length:=zc2 hs;subst hn;refine zb2 (args:=[rcv ⟨ri,rd,⟨rp,c.sides.length,rc⟩⟩,vi id]) func175 I ntmps175 (bE I) ?_;refine rZ (bW (bO I) fun b2=>?_);refine aT I (sQ (rZ (aT I (bK ?_))));refine oP (ι:=Nat) (fun k=>[(1,vi id),(2,pp b2 0),(5,vi k)]) (fun _=>g) (fun _=>pt b2 (.cells #[vi ri,vi rd,.slice rp c.sides.length rc] 56 (0,0))::s)
  (fun k=>k≤c.sides.length∧(c.sides.take k).any (fun x=>decide (x.cell=id))=false) (fun k=>c.sides.length - k) 0 sB rfl rfl ⟨zf6 _,rfl⟩ ?_
 rintro k ⟨hk,hno⟩;refine sQ (sW I (lU (fA au I bQ I) (lK (qL (v:=.slice rp c.sides.length rc) cZ I (cO 0 I I)) (lU (eN aY I) (yL I (tZ ?_))))));refine iP I (fun hlt=>?_) (fun hlt=>?_)
 ·have hkl:k<c.sides.length:=oM;have hb1:=hs.based oM;have hgk:c.sides[((k:Nat):Int).toNat]?=some c.sides[k]:=gE hkl;have htk:(c.sides.take (k+1)).any (fun x=>decide (x.cell=id))=((c.sides.take k).any (fun x=>decide (x.cell=id))||decide (c.sides[k].cell=id)):=by
   rw[tS hkl,List.any_append]; simp
  have hmem:c.sides[k]∈c.sides:=gM hkl;generalize c.sides[k]=x at *;refine kP (tN (sQ (bK (rZ (lU (fA au I bQ I) (lK (qL (v:=.slice rp c.sides.length rc) cZ I (cO 0 I I)) (lM I (lU (iA aY aI I I hb1 oM sL) (lU (fC dw I zT3 I hb1) (lK (aZ (e:=encSide) (o:=0) (u:=vi x.cell) iT3 I hs.rd hgk I) (lM I (yE I (tZ ?_)))))))))))));refine iP I (fun he=>?_) (fun he=>?_)
  ·refine rZ (aT I (rE (bR (tR (tR (bR (tR (dR (s':=s) uR ?_))))))));exact za8 (.inl I) results175 I ⟨by rw[show oa c id=true from zj8.2 ⟨x,hmem,zf8 he⟩],I,I⟩
  ·refine kP (bN (tN (rG (lM I (yD I (lA I (nL ?_)))))));exact ST.again (k+1) sB I I ⟨oM,by rw[htk,hno,zf7 he]; rfl⟩ oM
 ·have hkk:c.sides.take k=c.sides:=tL oM;rw[hkk] at hno;refine xI (tX (tX (bX (tN (rZ (aT I (rE (dR (s':=s) uR ?_))))))));exact za8 (.inl I) results175 I ⟨by rw[show oa c id=false from hno],I,I⟩
theorem mL (E:World)(g:PH)(s:Own)(v:Value)(l:List Cl)(id:Int)(hv:ar g v l)(hf:ci l) :
  Ctr Tryz.prog E 116 #[.agg #[v],vi id] g s (fun r g' s'=>s=s'∧Le g g'∧eG g' r (aj l id)):=by
 have hft:=dv hf;have hfl:=hft.1;obtain ⟨p,c,rfl⟩:=hv.form;refine zb2 (args:=[.agg #[.slice p l.length c],vi id]) func116 I ntmps116 (bE I) ?_;refine rZ (bW (bO I) fun b2=>?_);refine aT I (rZ (aT I (rZ (lK (qV 0 ba aC I I I) (lW (cL call96 I (dU E g _ _ l hv hf)) ?_)))));rintro v9 g1 _ ⟨rfl,hle,hc⟩;obtain ⟨rs,hrs,hall⟩:=hc;obtain ⟨q,dd,rfl⟩:=hrs.form;refine aT I (sQ (rZ (aT I (bK ?_))));have hrl:=hall.length;unfold aj;generalize ak l=A at *;refine zb6 3 1 ?_;refine oP (ι:=Value×Nat) (fun i=>[(1,vi id),(5,i.1),(6,.slice q rs.length dd),(7,vi i.2)]) (fun _=>g1) (fun i=>rowA encInt 3 i.1 (((A.take i.2).filter fun c=>oa c id).map Cl.id)::pt b2 (.cells #[.slice p l.length c] 29 (0,0))::s)
  (fun i=>i.2≤A.length) (fun i=>A.length - i.2) (.slice none 0 0,0) sB rfl rfl (zf6 _) ?_
 rintro ⟨ov,k⟩ hk;dsimp only at hk ⊢;refine sQ (sW I (lM I (lU (eN aJ I) (yL I (tZ ?_)))));refine iP I (fun hlt=>?_) (fun hlt=>?_)
 ·have hkl:k<A.length:=oM;have hkr:k<rs.length:=oM;have hb1:=hrs.based oM;have hcr:=hall.get (gE hkl) (gE hkr);have hgr:rs[((k:Nat):Int).toNat]?=some rs[k]:=gE hkr;have hsucc:=pz hkl (fun c=>oa c id) Cl.id;have hlek:=vX A k (fun c=>oa c id) Cl.id;have hxl:=hft.2 _ (gM hkl);generalize A[k]=x at *;generalize rs[k]=r at *;refine kP (tN (sQ (bK (sW I (lM I (lU (iA aJ aq I I hb1 oM sL) (lK (eA dL aq I hrs.rd hgr) (lM I (lW (cL call175 I (wQ E g1 _ x r id hcr hxl)) ?_)))))))));rintro _ _ _ ⟨rfl,rfl,rfl⟩;refine tZ ?_;refine iQ I (fun hd=>?_) (fun hd=>?_)
  ·refine rG (lM I (lM I (lM I (lU (iA aJ aq I I hb1 oM sL) (lU (fC au I zT3 I hb1) (lK (aZ (e:=encCell) (o:=0) (u:=vi x.id) iT3 I hrs.rd hgr (by rw[← hcr.1]; rfl)) ?_))))));refine lW (bS sty52 I I I (ae sB) dC) ?_;rintro _ _ _ ⟨b28,rfl,rfl,rfl⟩;refine lW (aP (e:=encInt) 0 x.id sty52 I I I I I oM oM) ?_;rintro ov' _ _ ⟨rfl,rfl⟩;refine lA I (nL (bN (tN (rG (lM I (yD I (lA I (nL ?_))))))));refine ST.to (fun w hw=>?_) (g':=g1) (s':=rowA encInt 3 ov' (((A.take (k+1)).filter fun c=>oa c id).map Cl.id)::pt b2 (.cells #[.slice p l.length c] 29 (0,0))::s) ?_
   ·rw[hsucc,zg1 (hd)]; exact hw
   exact ST.again (ov',k+1) sB I I (by dsimp only; omega) lN
  ·refine kP (bN (tN (rG (lM I (yD I (lA I (nL ?_)))))));refine ST.to (fun w hw=>?_) (g':=g1) (s':=rowA encInt 3 ov (((A.take (k+1)).filter fun c=>oa c id).map Cl.id)::pt b2 (.cells #[.slice p l.length c] 29 (0,0))::s) ?_
   ·rw[hsucc,zf9 (by rw[hd]; simp),zc6]; exact hw
   exact ST.again (ov,k+1) sB I I (by dsimp only; omega) lN
 ·have hkk:A.take k=A:=tL oM;rw[hkk];refine xI (tX (tX (bX (tN (sW I (aT I (rE (fT fun g2 hle2 hs2=>?_))))))));refine dR (s':=s) uR ?_;exact za8 (.inl I) results116 I ⟨I,hle.trans hle2,hs2⟩
theorem ix (E:World)(g:PH)(s:Own)(v:Value)(l:List Cl)(id:Int)(hv:ar g v l)(hf:ci l) :
  Ctr Tryz.prog E 48 #[.agg #[v],vi id] g s (fun r g' s'=>s=s'∧Le g g'∧∃ x,r = .tuple #[rcv x,vb (findC l id).isSome]∧aw g' ((findC l id).getD cJ) x):=by
 have hft:=dv hf;have hfl:=hft.1;obtain ⟨p,c,rfl⟩:=hv.form;have hsrt:=ic l;have hnd:=nk l;refine zb2 (args:=[.agg #[.slice p l.length c],vi id]) func48 I ntmps48 (bE I) ?_;refine rZ (bW (bO I) fun b2=>?_);refine bW (aL zl4) fun b4=>?_;refine aT I (rZ (lK (qV 1 ba aC I I I) (lW (cL call96 I (dU E g _ _ l hv hf)) ?_)));rintro v9 g1 _ ⟨rfl,hle,hc⟩;obtain ⟨rs,hrs,hall⟩:=hc;have hcs:ar g1 _ (ak l):=⟨rs,hrs,hall⟩;obtain ⟨q,dd,rfl⟩:=hrs.form;refine aT I (sW I (lM I (lW (cL call101 I (ip E g1 _ _ (ak l) id hcs hfl hsrt)) ?_)));rintro _ _ _ ⟨rfl,rfl,rfl⟩;refine aT I (sQ (sW I (yL I (tZ ?_))));have hrl:=hall.length;unfold findC;generalize ak l=A at *;have haf:=sw hsrt id;refine iP I (fun hneg=>?_) (fun hneg=>?_)
 ·rcases haf with ⟨h1,h2⟩ | ⟨x,k,h1,h2,h3⟩
  ·have hno:(A.find? fun c=>decide (c.id=id))=none:=h1;refine rZ (lU (za3 I (buildE56)) (oZ (sK 0 aq I I I I I sB) ?_));refine aT I (rE (tR ?_));exact ST.retCD1 0 s (.inl I) results48 I I dL aq I I uR ⟨I,hle,vk,by rw[hno]; rfl,by rw[hno]; exact AJ g1⟩
  ·rw[h2] at hneg; omega
 ·rcases haf with ⟨h1,h2⟩ | ⟨x,k,h1,h2,h3⟩
  ·rw[h2] at hneg; omega
  ·have hyes:(A.find? fun c=>decide (c.id=id))=some x:=h1;rw[h2];have hkl:k<A.length:=(zf5.1 h3).1;have hkr:k<rs.length:=oM;have hb1:=hrs.based oM;have hcr:=hall.get h3 (gE hkr);have hgr:rs[((k:Nat):Int).toNat]?=some rs[k]:=gE hkr;generalize rs[k]=r at *;obtain ⟨ri,rd,⟨rp,rn,rc⟩⟩:=r;refine kP (tN (sW I (lM I (lU (iA aJ aq I I hb1 oM sL) (lK (eA dL aq I hrs.rd hgr) (oZ (sK 0 aq I I I I I sB) ?_))))));refine aT I (rE ?_);exact ST.retCD1 0 s (.inl I) results48 I I dL aq I I uR ⟨I,hle,⟨ri,rd,⟨rp,rn,rc⟩⟩,by rw[hyes]; rfl,by rw[hyes]; exact hcr⟩
end Go.Proofs.YtbbppeihhkhkcaaGreatDoor
namespace Go.Sy
open Go
section
variable {α:Type}{k:Nat}{P:Program}{N:Nat}{E:World}{f:Fr}{g:PH}{s:Own}{dst:Option Tmp}{ty:TypeId}{pos:String}{af:Array Edge}{gd:Option (Nat×Bool)}
theorem SO.makeC {x y:Operand}{t T:TypeId}{bytes n:Nat}{z:Value}(e:Enc α k)(hT:STy P t T k bytes z)(hx:ev f x=some (vi 0))(hy:ev f y=some (vi n))(hb:n * bytes≤140737488355328)(hlen:n≤4611686018427387904) :
  SO P N E ⟨dst,.makeSlice t x y,ty,pos,af,gd⟩ f g s fun v' g' s'=>g=g'∧s'=rowA e T v' []::s :=
 SO.of_run fun ac w ha hw=>by
  obtain ⟨ti,ht1,ht2,ht3,ht4⟩:=hT.info;have hbi:(ti.bytes:Int) * ((n:Nat):Int)≤281474976710656:=by
   rw[ht4,← Int.natCast_mul,Nat.mul_comm]; omega
  have h5:=run_make (P:=P) w t T ti z hT.und ht1 ht2 .i64 .i64 0 n oM oM hbi oM;simp only[Int.toNat_natCast] at h5;rw[ht3] at h5;have hrun:(execOp ac.eval ⟨dst,.makeSlice t x y,ty,pos,af,gd⟩).run P w = .ok (.value (.slice (some ⟨w.heap.size,0,none⟩) 0 n)) (w.alloc (.cells (madeCells z.cells (n * k)) T)):=by
   simp[execOp,ha.ev hx,ha.ev hy,h5]
  have hnew:(w.alloc (.cells (madeCells z.cells (n * k)) T)).heap[w.heap.size]?=some (.cells (madeCells z.cells (n * k)) T (0,0)):=heap_alloc_new w _;refine⟨_,_,g,_,hrun,?_,I,I⟩;cases n with
  | zero =>
   have h6:=hw.emptyRow T k (some ⟨w.heap.size,0,none⟩);have h7:=h6.alloc (e:=pt w.heap.size (.cells (madeCells z.cells (0 * k)) T (0,0))) (o:=.cells (madeCells z.cells (0 * k)) T (0,0)) rfl rfl;exact h7.sublist (zj1 _ _)
  | succ n =>
   have hsz:(madeCells z.cells ((n+1) * k)).size=(n+1) * k:=by simp[madeCells]
   exact hw.alloc (e:=rowA e T (.slice (some ⟨w.heap.size,0,none⟩) 0 (n+1)) []) (o:=.cells (madeCells z.cells ((n+1) * k)) T (0,0)) I ⟨by simp,.inr ⟨_,n,_,I,I,by simp,by unfold maxLen; omega,hsz,by simp⟩⟩
def tm:Enc Int 1:=⟨fun n=>[.int .u8 n],fun _=>rfl,fun _ u hu=>by simp at hu; subst hu; rfl,by decide⟩
def gz:Enc Int 1:=⟨fun n=>[.int .u64 n],fun _=>rfl,fun _ u hu=>by simp at hu; subst hu; rfl,by decide⟩
def byt (l:List Int):List UInt8:=l.map fun n=>UInt8.ofNat n.toNat
def txt (l:List UInt8):Value:=.string ⟨l.toArray⟩
theorem CF (l:List Int):∀ s:ByteArray,l.foldl (fun r n=>r.push (UInt8.ofNat n.toNat)) s=⟨s.data++(byt l).toArray⟩:=by
 induction l with
 | nil=>intro s; simp[byt]
 | cons a t ih =>
  intro s;simp only[zi8];rw[ih];simp[byt,ByteArray.push]
theorem Af (l:List Int):l.flatMap tm.enc=l.map (Value.int .u8):=by
 induction l with
 | nil=>rfl
 | cons a t ih=>simp only[zh5,zg4,ih]; rfl
theorem SQ.bytesText {x:Operand}{S D e:TypeId}{p:Option Addr}{c:Nat}{l:List Int}(hs:P.underlying S=some (.slice e))(he:P.underlying e=some (.int .u8))(hd:P.underlying D=some .string)
  (hx:ev f x=some (.slice p l.length c)) (hr:Rd g s (.slice p l.length c) (l.flatMap tm.enc)) :
  SQ P N E ⟨dst,.convert S D x,ty,pos,af,gd⟩ f g s (txt (byt l)):=fun a w ha hw=>by
 have h1:(convert S D (.slice p l.length c)).run P w = .ok (txt (byt l)) w:=by
  rw[run_convert_bytes_string w S D e p l.length c hs he hd];rw[Af] at hr;cases l with
  | nil =>
   cases p with
   | none=>simp[Conv.bytesToString,txt,byt]; rfl
   | some a =>
    have h2:=run_bytesToString (P:=P) w a 0 c [] (by simp[loadCells]; exact cU (P:=P) (w:=w) (b:=a.block) (o:=a.off) 0 0 [] #[] I (fun j y hy=>by simp at hy));rw[zc4,h2];rfl
  | cons n t =>
   obtain ⟨q,n',c',he1,hsp,hc0⟩:=hr E w hw 0 (.int .u8 n) rfl;injection he1 with he1 he2 he3
   subst he1;obtain ⟨qb,qo,qs⟩:=q;dsimp only at hsp;subst hsp;have h2:=run_bytesToString (P:=P) w ⟨qb,qo,none⟩ (n::t).length c (n::t) (by
    have:=cU (P:=P) (w:=w) (b:=qb) (o:=qo) (n::t).length 0 ((n::t).map (Value.int .u8)) #[] (by simp) (fun j y hy=>by
     obtain ⟨q',n2,c2,he4,_,hc1⟩:=hr E w hw j y hy;injection he4 with he4
     injection he4 with he4
     subst he4;simpa using hc1)
    simpa [loadCells] using this)
   rw[h2,CF];simp[txt]
 simp[execOp,ha.ev hx,h1]
theorem xS (l:List UInt8):(⟨l.toArray⟩:ByteArray).toList=l:=by rw[ByteArray.toList_eq]
theorem SU.neqT {x y:Operand}{T U:TypeId}{l m:List UInt8}(hx:ev f x=some (txt l))(hy:ev f y=some (txt m)) :
  SU P N ⟨dst,.binOp .neq T x y U,ty,pos,af,gd⟩ f (.bool (decide (l≠m))):=fun ac w ha=>by
 have hg:(eqGuard .neq T x y (txt l) (txt m)).run P w = .ok () w:=by simp[eqGuard,txt]
 have hb:(binOp .neq T (txt l) (txt m)).run P w = .ok (.bool (decide (l≠m))) w:=by
  unfold txt;rw[binOp_string_neq,xS,xS];by_cases h:l=m <;> simp[h,bne] <;> rfl
 simp only[execOp,ha.ev hx,ha.ev hy,Sem.run_bind,hg,zd1,hb];rfl
end
end Go.Sy
namespace Go.Sy
open Go
section
variable {P:Program}{N:Nat}{f:Fr}{dst:Option Tmp}{ty:TypeId}{pos:String}{af:Array Edge}{gd:Option (Nat×Bool)}
theorem SU.or {x y:Operand}{T U:TypeId}{k:IntKind}{m n:Int}(hx:ev f x=some (.int k m))(hy:ev f y=some (.int k n)) :
  SU P N ⟨dst,.binOp .or T x y U,ty,pos,af,gd⟩ f (.int k (k.wrap (BitVec.ofInt k.bits m ||| BitVec.ofInt k.bits n).toNat)):=fun a w ha=>by
 simp only[execOp,ha.ev hx,ha.ev hy,eqGuard,binOp,ne_eq,not_true_eq_false,if_false,Op.intBits]; rfl
theorem SU.txtAt {x y:Operand}{T:TypeId}{l:List UInt8}{i:Int}{b:UInt8}(hT:P.underlying T=some .string)(hx:ev f x=some (txt l))(hy:ev f y=some (vi i))(h0:0≤i)(hb:l[i.toNat]?=some b) :
  SU P N ⟨dst,.index T x y,ty,pos,af,gd⟩ f (.int .u8 b.toNat):=fun a w ha=>by
 have h1:(⟨l.toArray⟩:ByteArray)[i.toNat]?=some b:=by
  obtain ⟨hlt,he⟩:=zf5.1 hb;rw[getElem?_pos _ _ (by simpa [ByteArray.size] using hlt)];exact ze2 some he
 simp only[execOp,ha.ev hx,ha.ev hy,Instr.index,Sem.run_bind,asIntOf,Sem.run_pure,zd1,run_underlying hT,txt,zg1 h0,h1]
theorem SU.lenTxt {x:Operand}{T:TypeId}{l:List UInt8}(hT:P.underlying T=some .string)(hx:ev f x=some (txt l)) :
  SU P N ⟨dst,.call ⟨.builtin .len,#[x],#[T]⟩,ty,pos,af,gd⟩ f (vi l.length):=fun a w ha=>by
 have hs:(⟨l.toArray⟩:ByteArray).size=l.length:=List.size_toArray;have h1:=ha.ev hx;unfold txt at h1;simp[execOp,resolve,invoke,builtin,h1,Builtin.len_,run_underlying hT,goInt,hs]
end
end Go.Sy
namespace Go.Proofs.YtbbppeihhkhkcaaGreatDoor
open _root_.Go.Proofs.Tryz _root_.Go.Proofs.YtbbppeihhkhkcaaGreatDoor.Tryz
open Go Go.Sy Go.Pl Go.Proofs Go.Shelf
set_option maxRecDepth 100000
set_option maxHeartbeats 1000000
theorem E9 {f:Fr}{t:Nat}{a b:Int}(h:bh f t=some (vi a))(e:a=b):bh f t=some (vi b):=e ▸ h
theorem Tryz.sty222:STy Tryz.prog 222 145 1 8 (.int .u64 0):=⟨underlying222,⟨t145,by kernel_rfl,by kernel_rfl,by kernel_rfl,by kernel_rfl⟩,rfl,by decide⟩
theorem Tryz.sty208:STy Tryz.prog 208 5 1 1 (.int .u8 0):=⟨underlying208,⟨t5,by kernel_rfl,by kernel_rfl,by kernel_rfl,by kernel_rfl⟩,rfl,by decide⟩
def dq (l:List Int):List Int:=(l.reverse.dropWhile (· == 0)).reverse
theorem rA {m:List Int}(h:0<m.length)(h0:m.getD (m.length - 1) 1=0):dq (m.take (m.length - 1))=dq m:=by
 rcases List.eq_nil_or_concat m with rfl | ⟨a,x,rfl⟩
 ·simp at h
 ·have hx:x=0:=by simpa [zh1] using h0
  subst hx;simp[dq]
theorem rz {m:List Int}(h:(decide ((m.length:Int)>0)&&decide (m.getD (m.length - 1) 1=0))=false):dq m=m:=by
 rcases List.eq_nil_or_concat m with rfl | ⟨a,x,rfl⟩
 ·rfl
 ·have hx:x≠0:=by simpa [zh1] using h
  simp[dq,hx]
theorem jZ (E:World)(g:PH)(s:Own)(v:Value)(l:List Int)(hv:SlA gz g v l)(hl:l.length<1099511627776) :
  Ctr Tryz.prog E 232 #[v] g s (fun r g' s'=>g=g'∧s=s'∧SlA gz g r (dq l)):=by
 refine zb2 (args:=[v]) func232 I ntmps232 (bE I) ?_;refine rZ (aT I (sQ (bK ?_)));refine oP (ι:=Value×List Int) (fun i=>[(0,i.1)]) (fun _=>g) (fun _=>s) (fun i=>SlA gz g i.1 i.2∧dq i.2=dq l∧i.2.length≤l.length) (fun i=>i.2.length) (v,l) ⟨I,trivial⟩ I I ⟨hv,I,lR _⟩ ?_;rintro ⟨v1,m⟩ ⟨hm,htr,hle⟩;dsimp only at hm htr hle ⊢;obtain ⟨p,c,rfl⟩:=za4 hm;have hcap:=(SlA.cap hm).2;have f1:(m.length:Int)>0→(decide ((m.length:Int)>0)&&decide (m.getD (m.length - 1) 1=0))=decide (m.getD (m.length - 1) 1=0):=fun h=>by rw[zf8 h,Bool.true_and]
 have f2:¬ (m.length:Int)>0→(decide ((m.length:Int)>0)&&decide (m.getD (m.length - 1) 1=0))=false:=fun h=>by simp only[h,decide_false,Bool.false_and]
 have hgl:(m.length:Int)>0→m[((m.length:Int) - 1).toNat]?=some (m.getD (m.length - 1) 1):=fun h=>by
  have h1:((m.length:Int) - 1).toNat=m.length - 1:=oM;have h2:m.length - 1<m.length:=oM;rw[h1,zh1,gE h2]; rfl
 have hbs:(m.length:Int)>0→based (.slice p m.length c)=true:=fun h=>za6 hm oM;refine sQ ?_;refine SC.cutB 14 ((decide ((m.length:Int)>0)&&decide (m.getD (m.length - 1) 1=0))) ?_ ?_
 ·refine rG (lM I (lU (eN bo I) (lU (gR I I) (lM I ?_))));refine sP ?_ ?_
  ·intro h6;refine yC I (yC I (lY I I I (eN bo I) (lY I I I (sU I I oM) (lY I I I (iA bo dH I I (hbs h6) oM sL) (SL.gq (gT I I I dC) (eB iS I (za7 hm) (hgl h6) I) dC (lY I I I (eQ I I) (yP I (nL ?_))))))));exact zb1 (by (rw[f1 h6]; rfl)) mI
  ·intro h6;refine yA I (yA I (yA I (yA I (yA I (yA I (yA I (yF I (nL ?_))))))));exact zb1 (by (rw[f2 h6]; rfl)) mI
 refine iQ I (fun hc=>?_) (fun hc=>?_)
 ·rw[zj3,zj6,zj6] at hc;obtain ⟨hpos,hlast⟩:=hc;have h1:((m.length:Int) - 1).toNat=m.length - 1:=oM;refine kP (tN (bK (rG (lM I (lM I (lU (eN bo I) (lU (sU I I oM) (lU (SU.sliceH bo dH I I oM oM) (lA I (nL (bN ?_)))))))))));refine ST.again (sliced p 0 ((m.length:Int) - 1).toNat c 1,m.take (m.length - 1)) ⟨I,trivial⟩ I I ⟨?_,?_,?_⟩ (by dsimp only; rw[ze4]; omega)
  ·have:=SlA.cut hm (l:=0) (m:=m.length - 1) (zf6 _) oM;dsimp only;rw[h1];simpa using this
  ·dsimp only; rw[rA oM hlast]; exact htr
  ·dsimp only; rw[ze4]; omega
 ·refine xI (tX (tX (bX (tN (sW I (aT I (rE ?_)))))));exact za8 (.inl I) results232 I ⟨I,I,by rw[← htr,rz hc]; exact hm⟩
theorem vF (E:World)(g:PH)(s:Own)(v:Value)(l:List Int)(hv:SlA encInt g v l)(hl:l.length<1099511627776) :
  Ctr Tryz.prog E 164 #[v] g s (fun r g' s'=>g=g'∧s=s'∧SlA encInt g r (dq l)):=by
 refine zb2 (args:=[v]) func164 I ntmps164 (bE I) ?_;refine rZ (aT I (sQ (bK ?_)));refine oP (ι:=Value×List Int) (fun i=>[(0,i.1)]) (fun _=>g) (fun _=>s) (fun i=>SlA encInt g i.1 i.2∧dq i.2=dq l∧i.2.length≤l.length) (fun i=>i.2.length) (v,l) ⟨I,trivial⟩ I I ⟨hv,I,lR _⟩ ?_;rintro ⟨v1,m⟩ ⟨hm,htr,hle⟩;dsimp only at hm htr hle ⊢;obtain ⟨p,c,rfl⟩:=za4 hm;have hcap:=(SlA.cap hm).2;have f1:(m.length:Int)>0→(decide ((m.length:Int)>0)&&decide (m.getD (m.length - 1) 1=0))=decide (m.getD (m.length - 1) 1=0):=fun h=>by rw[zf8 h,Bool.true_and]
 have f2:¬ (m.length:Int)>0→(decide ((m.length:Int)>0)&&decide (m.getD (m.length - 1) 1=0))=false:=fun h=>by simp only[h,decide_false,Bool.false_and]
 have hgl:(m.length:Int)>0→m[((m.length:Int) - 1).toNat]?=some (m.getD (m.length - 1) 1):=fun h=>by
  have h1:((m.length:Int) - 1).toNat=m.length - 1:=oM;have h2:m.length - 1<m.length:=oM;rw[h1,zh1,gE h2]; rfl
 have hbs:(m.length:Int)>0→based (.slice p m.length c)=true:=fun h=>za6 hm oM;refine sQ ?_;refine SC.cutB 14 ((decide ((m.length:Int)>0)&&decide (m.getD (m.length - 1) 1=0))) ?_ ?_
 ·refine rG (lM I (lU (eN aH I) (lU (gR I I) (lM I ?_))));refine sP ?_ ?_
  ·intro h6;refine yC I (yC I (lY I I I (eN aH I) (lY I I I (sU I I oM) (lY I I I (iA aH zT3 I I (hbs h6) oM sL) (SL.gq (gT I I I dC) (eB iT3 I (za7 hm) (hgl h6) I) dC (lY I I I (eQ I I) (yP I (nL ?_))))))));exact zb1 (by (rw[f1 h6]; rfl)) mI
  ·intro h6;refine yA I (yA I (yA I (yA I (yA I (yA I (yA I (yF I (nL ?_))))))));exact zb1 (by (rw[f2 h6]; rfl)) mI
 refine iQ I (fun hc=>?_) (fun hc=>?_)
 ·rw[zj3,zj6,zj6] at hc;obtain ⟨hpos,hlast⟩:=hc;have h1:((m.length:Int) - 1).toNat=m.length - 1:=oM;refine kP (tN (bK (rG (lM I (lM I (lU (eN aH I) (lU (sU I I oM) (lU (SU.sliceH aH zT3 I I oM oM) (lA I (nL (bN ?_)))))))))));refine ST.again (sliced p 0 ((m.length:Int) - 1).toNat c 1,m.take (m.length - 1)) ⟨I,trivial⟩ I I ⟨?_,?_,?_⟩ (by dsimp only; rw[ze4]; omega)
  ·have:=SlA.cut hm (l:=0) (m:=m.length - 1) (zf6 _) oM;dsimp only;rw[h1];simpa using this
  ·dsimp only; rw[rA oM hlast]; exact htr
  ·dsimp only; rw[ze4]; omega
 ·refine xI (tX (tX (bX (tN (sW I (aT I (rE ?_)))))));exact za8 (.inl I) results164 I ⟨I,I,by rw[← htr,rz hc]; exact hm⟩
theorem tK (E:World)(g:PH)(s:Own)(v:Value)(hv:v.cells = #[v]) :
  Ctr Tryz.prog E 233 #[v] g s (fun r g' s'=>s=s'∧Le g g'∧∃ b,r = .func (.func 271) #[] #[pp b 0]∧g' b=some (.cells #[v] 222 (0,0))):=by
 refine zb2 (args:=[v]) func233 I ntmps233 (bE I) ?_;refine rZ (bW (bO I) fun b1=>?_);refine aT I (rZ (lU (SU.mkFunc I) (aT I (rE ?_))));rw[hv];refine ST.freeze fun g1 hle hb=>?_;exact za8 (.inl I) results233 I ⟨I,hle,_,I,hb⟩
def tT (l:List Int):List (Nat×Int):=(l.zipIdx.map fun p=>(p.2,p.1)).reverse
theorem qf (l:List Int):(tT l).length=l.length:=by simp[tT]
theorem DE {l:List Int}{k:Nat}(h:k<l.length):(tT l)[l.length - 1 - k]?=some (k,l[k]):=by
 unfold tT;rw[List.getElem?_reverse (by simp; omega)];simp only[ze6,List.length_zipIdx];rw[show l.length - 1 - (l.length - 1 - k)=k by omega];simp[h]
theorem rm (E:World)(g0:PH)(b:Nat)(v:Value)(l:List Int)(hb:g0 b=some (.cells #[v] 222 (0,0)))(hv:SlA gz g0 v l)(hl:l.length<1099511627776) :
  C7 Tryz.prog E 271 [pp b 0] (fun x:Nat×Int=>[vi x.1,.int .u64 x.2]) (tT l) g0:=by
 intro k ι G S J i0 h0 hmono hY sx;obtain ⟨p,c,rfl⟩:=za4 hv;refine Ctr.ofX (args:=[.func (.yield k) #[] #[],pp b 0]) func271 I ntmps271 (bE I) ?_;refine XC.seq ?_;refine XC.region ?_;refine XL.q (qL (v:=.slice p l.length c) isAgg222 I (cK (hmono _ _ h0 _ _ hb) I)) dC ?_;refine XL.u (eN bo I) dC ?_;refine XL.u (sU I I oM) dC ?_;refine XL.u (aS I) dC ?_;refine XL.nil ?_;refine XT.thenN ?_;refine XC.block ?_;refine XC.loop (ι:=ι×Nat) (fun i=>[(0,.func (.yield k) #[] #[]),(1,pp b 0),(3,vi ((i.2:Int) - 1))]) (fun i=>G i.1) (fun i=>S i.1++sx) (fun i=>i.2≤l.length∧J ((tT l).take (l.length - i.2)) i.1) (fun i=>i.2) (i0,l.length)
  sB rfl rfl ⟨lR _,by simpa using h0⟩ ?_
 rintro ⟨j,n⟩ ⟨hn,hJ⟩;dsimp only at hn hJ ⊢;have hle:=hmono _ _ hJ;refine XC.seq ?_;refine XC.seq ?_;refine XC.region ?_;refine XL.u (mV I) dC ?_;refine XL.u (gQ I I) dC ?_;refine XL.nil ?_;refine XT.thenN ?_;refine XC.ifP I (fun hge=>?_) (fun hge=>?_)
 ·have hn1:n - 1<l.length:=oM;have hv':=za5 hv hle;have hb1:=za6 hv' oM;have hgx:l[((n:Int) - 1).toNat]?=some l[n - 1]:=by rw[show ((n:Int) - 1).toNat=n - 1 by omega]; exact gE hn1
  have hrg:=DE hn1;rw[show l.length - 1 - (n - 1)=l.length - n by omega] at hrg;have hsp:tT l=(tT l).take (l.length - n)++(n - 1,l[n - 1])::(tT l).drop (l.length - n+1):=by
   obtain ⟨h1,h2⟩:=zf5.1 hrg;rw[← h2,List.getElem_cons_drop,zj2]
  have hy:=hY _ _ _ j sx hsp hJ;have htk:(tT l).take (l.length - (n - 1))=(tT l).take (l.length - n)++[(n - 1,l[n - 1])]:=by
   obtain ⟨h1,h2⟩:=zf5.1 hrg;rw[show l.length - (n - 1)=l.length - n+1 by omega,tS h1,h2]
  generalize l[n - 1]=x at *;have hvn:vi ((n - 1:Nat):Int)=vi ((n:Int) - 1):=ze2 vi oM;dsimp only at hy;rw[hvn] at hy;refine XC.skip ?_;refine XT.thenN ?_;refine XC.seq ?_;refine XC.block ?_;refine XC.seq ?_;refine XC.region ?_;refine XL.u (mV I) dC ?_;refine XL.u (mV I) dC ?_;refine XL.q (qL (v:=.slice p l.length c) isAgg222 I (cK (hle _ _ hb) I)) dC ?_;refine XL.u (mV I) dC ?_;refine XL.u (iA bo dH I I hb1 oM sL) dC ?_;refine XL.q (eB iS I (za7 hv') hgx I) dC ?_;refine XL.x (XO.yield I I hy) dC ?_;rintro _ _ _ ⟨rfl,j',hJ',rfl,rfl⟩;refine XL.u (SU.not I) dC ?_;refine XL.nil ?_;refine XT.thenN ?_;refine XC.condF I ?_;refine XC.skip ?_;refine XT.blockN ?_;refine XT.thenN ?_;refine XC.region ?_;refine XL.u (mV I) dC ?_;refine XL.u (sU I I oM) dC ?_;refine XL.u (aS I) dC ?_;refine XL.nil ?_;exact XT.again (j',n - 1) ⟨I,I,E9 I oM,trivial⟩ I I ⟨by dsimp only; omega,by dsimp only; rw[htk]; exact hJ'⟩ (by dsimp only; omega)
 ·have hn0:n=0:=oM;subst hn0;refine XC.exit ?_;refine XT.thenX ?_;refine XT.thenX ?_;refine XT.blockX ?_;exact XT.leave0 (.inr I) (ST.ret0 (.inr I) results271 ⟨j,by have:=hJ; rwa [tL (by rw[qf]; omega)] at this,I,I⟩)
def xj:Ren :=
 {
  f:=fun x =>
   match x with
   | 161=>234
   | 231=>272
   | 227=>273
   | 233=>274
   | 235=>275
   | 228=>293
   | 197=>294
   | 151=>295
   | 260=>302
   | 152=>303
   | 137=>305
   | 119=>306
   | 224=>307
   | 225=>308
   | 217=>309
   | 266=>310
   | n=>n,
  t:=fun x =>
   match x with
   | 9=>9
   | 4=>4
   | 3=>3
   | 5=>5
   | 117=>284
   | 116=>283
   | 0=>0
   | 124=>287
   | 105=>301
   | 21=>21
   | 119=>310
   | 46=>203
   | 139=>313
   | 138=>312
   | n=>n,
  g:=fun x =>
   match x with
   | 3=>0
   | 4=>1
   | n=>n }
theorem Tryz.lays161:Lays.n161 Tryz.prog xj :=
  {
  mixed:=Eq.refl true,f119:=zb8 func306 (ze2 some kR),
  f137:=zb8 func305 (ze2 some kR),
  f151:=zb8 func295 (ze2 some kR),
  f152:=zb8 func303 (ze2 some kR),
  f161:=zb8 func234 (ze2 some kR),
  f197:=zb8 func294 (ze2 some kR),
  f217:=zb8 func309 (ze2 some kR),
  f224:=zb8 func307 (ze2 some kR),
  f225:=zb8 func308 (ze2 some kR),
  f227:=zb8 func273 (ze2 some kR),
  f228:=zb8 func293 (ze2 some kR),
  f231:=zb8 func272 (ze2 some kR),
  f233:=zb8 func274 (ze2 some kR),
  f235:=zb8 func275 (ze2 some kR),
  f260:=zb8 func302 (ze2 some kR),
  f266:=zb8 func310 (ze2 some kR),t0:=uT0,
  a0:=isAgg0,z0:=sizeOf0,v0:=zl2,t3:=uT3,a3:=iT3,
  z3:=zT3,v3:=zl1,t4:=uT4,a4:=iT4,z4:=zT4,
  v4:=zl9,t5:=uT5,a5:=isAgg5,z5:=sizeOf5,v5:=zeroValue5,
  t9:=uT9,a9:=isAgg9,z9:=sizeOf9,v9:=zeroValue9,t21:=underlying21,
  a21:=isAgg21,z21:=sizeOf21,v21:=zeroValue21,t46:=fV,a46:=isAgg203,
  z46:=sizeOf203,v46:=zeroValue203,t105:=underlying301,a105:=isAgg301,
  z105:=sizeOf301,v105:=zeroValue301,t116:=underlying283,a116:=isAgg283,
  z116:=sizeOf283,t117:=underlying284,a117:=isAgg284,z117:=sizeOf284,
  v117:=zeroValue284,t119:=underlying310,a119:=isAgg310,z119:=sizeOf310,
  t124:=underlying287,a124:=isAgg287,z124:=sizeOf287,v124:=zeroValue287,
  t138:=underlying312,a138:=isAgg312,z138:=sizeOf312,v138:=zeroValue312,
  t139:=underlying313,a139:=isAgg313,z139:=sizeOf313,v139:=zeroValue313,
  g3:=kR,g4:=kR }
def kW (l:List UInt8):List UInt8:=l.dropWhile (· == 0)
theorem tu (E:World)(g:PH)(s:Own)(l:List UInt8) :
  Ctr Tryz.prog E 234 #[txt l,txt [0]] g s (fun r g' s'=>r=txt (kW l)∧g=g'∧s=s'):=by
 intro w hw;refine (Any.strings_TrimLeft_one lays161 ⟨l.toArray⟩ 0 dC w).mono ?_;rintro e w' ⟨rfl,rfl⟩;exact⟨_,g,s,I,hw,I,I,I⟩
def by4 (x:Int):List Int:=[IntKind.u8.wrap (x.fdiv (2 ^ min (24:Int).toNat IntKind.u64.bits)),IntKind.u8.wrap (x.fdiv (2 ^ min (16:Int).toNat IntKind.u64.bits)),IntKind.u8.wrap (x.fdiv (2 ^ min (8:Int).toNat IntKind.u64.bits)),IntKind.u8.wrap x]
def byP (x:Nat×Int):List Int:=by4 x.2
theorem Aq (l:List (Nat×Int)):(l.flatMap byP).length=4 * l.length:=by
 induction l with
 | nil=>rfl
 | cons a t ih=>simp only[zh5,ze5,ih,ze8,byP,by4,zc4]; omega
theorem xU (l:List Int):(dq l).length≤l.length:=by
 unfold dq;rw[List.length_reverse];have:=(List.dropWhile_sublist (l:=l.reverse) (· == 0)).length_le;simpa using this
def gV (l:List Int):List UInt8:=kW (byt ((tT (dq l)).flatMap byP))
def qJ (neg:Bool)(bs:List UInt8):Value:=.agg #[vb (neg&&decide (bs≠[])),txt bs]
theorem Tryz.build80 (a:Bool)(l:List UInt8)(w:World):(Instr.build 80 #[(0,vb a),(1,txt l)]).run Tryz.prog w = .ok (.agg #[vb a,txt l]) w:=by
 have h1:(vb a).cells = #[vb a]:=rfl;have h2:(txt l).cells = #[txt l]:=rfl;simp[Instr.build,Instr.fill,h1,h2];rfl
theorem ge (E:World)(g:PH)(s:Own)(v:Value)(l:List Int)(neg:Bool)(hv:SlA gz g v l)(hl:l.length<1099511627776) :
  Ctr Tryz.prog E 187 #[v,vb neg] g s (fun r g' s'=>r=qJ neg (gV l)∧s=s'∧Le g g'):=by
 have htl:=xU l;refine Ctr.ofX (args:=[v,vb neg]) func187 I ntmps187 (bE I) ?_;refine XC.seq ?_;refine XC.region ?_;refine XL.o (aL zl8) dC ?_;rintro _ _ _ ⟨b4,rfl,rfl,rfl⟩;refine XL.nil ?_;refine XT.thenN ?_;refine XC.seq ?_;refine XC.region ?_;refine XL.u (mV I) dC ?_;refine XL.o (cL call232 I (jZ E g _ v l hv hl)) dC ?_;rintro v10 _ _ ⟨rfl,rfl,hm⟩;obtain ⟨q,d,rfl⟩:=za4 hm;refine XL.u (aS I) dC ?_;refine XL.nil ?_;refine XT.thenN ?_;refine XC.seq ?_;refine XC.region ?_;refine XL.u (mV I) dC ?_;refine XL.u (eN bo I) dC ?_;refine XL.u (SU.eq (v':=vi ((4 * (dq l).length:Nat))) (SU.mul I I oM) (ze2 vi oM)) dC ?_;refine XL.o (SO.makeC tm sty208 I I oM oM) dC ?_;rintro v14 _ _ ⟨rfl,rfl⟩;refine XL.facts fun ⟨w0,hw0⟩=>?_;obtain ⟨p14,c14,rfl⟩:=ag (i:=0) hw0 rfl;clear hw0 w0;refine XL.o (aL zeroValue208) dC ?_;rintro _ _ _ ⟨b5,rfl,rfl,rfl⟩;refine XL.on (sK 0 sizeOf208 I I I I I sB) ?_;rintro _ _ _ ⟨rfl,rfl⟩;refine XL.nil ?_;refine XT.thenN ?_;refine XC.seq ?_;refine XC.seq ?_;refine XC.region ?_;refine XL.u (mV I) dC ?_;refine XL.o (cL call233 I (tK E _ _ _ I)) dC ?_;rintro _ g1 _ ⟨rfl,hle,bb,rfl,hbb⟩;refine XL.nil ?_;refine XT.thenN ?_;refine XC.block ?_;refine XC.to (g':=g1) (s':=rowA tm 5 (.slice p14 0 c14) []::pt b5 (.cells #[.slice p14 0 c14] 208 (0,0))::pt b4 (.cells #[vb false,txt []] 80 (0,0))::s) (fun w hw=>hw.perm (zk1 _ _ _)) ?_;refine XC.rangeFunc (α:=Nat×Int) (ι:=Value×List Int) (encs:=fun x=>[vi x.1,.int .u64 x.2]) (xs:=tT (dq l)) (g0:=g1) (fun _=>g1) (fun i=>rowA tm 5 i.1 i.2::pt b5 (.cells #[i.1] 208 (0,0))::pt b4 (.cells #[vb false,txt []] 80 (0,0))::[]) (fun pre i=>i.2=pre.flatMap byP) (.slice p14 0 c14,[]) s
  (fun x=>[(18,.int .u64 x.2),(17,vi x.1),(5,pp b5 0)]) (fun _ x _=>[(7,.int .u64 x.2),(5,pp b5 0)]) rfl rfl call271 (fun _=>rfl) rfl rfl (rm E g1 bb _ _ hbb (za5 hm hle) oM) (fun _ _ _=>zb9 _) rfl
  (fun x a h=>A6 (h.sub (g:=[(5,pp b5 0)]) ⟨rfl,trivial⟩) dC dC) ?_ ?_ ?_
 ·intro k pre x i sx hJ;refine XC.region ?_;refine XL.u (aS I) dC ?_;refine XL.nil ?_;exact XT.assignEnd sB
 ·rintro k pre ⟨xi,x⟩ suf ⟨bv,bs⟩ sx hxs hJ;dsimp only at hJ ⊢;have hpl:pre.length<(dq l).length:=by
   have:=ze2 List.length hxs;rw[qf,ze5,ze8] at this;omega
  have hbl:bs.length=4 * pre.length:=by rw[hJ,Aq]
  refine XC.facts fun ⟨w0,hw0⟩=>?_;obtain ⟨q2,d2,rfl⟩:=ag (i:=0) hw0 rfl;clear hw0 w0;refine XC.block ?_;refine XC.region ?_;refine XL.q (qL (v:=.slice q2 bs.length d2) isAgg208 I (cO 1 I I)) dC ?_;refine XL.u (mV I) dC ?_;refine XL.u (SU.shr I I dC) dC ?_;refine XL.u (zd9 mO uT5 I) dC ?_;refine XL.u (mV I) dC ?_;refine XL.u (SU.shr I I dC) dC ?_;refine XL.u (zd9 mO uT5 I) dC ?_;refine XL.u (mV I) dC ?_;refine XL.u (SU.shr I I dC) dC ?_;refine XL.u (zd9 mO uT5 I) dC ?_;refine XL.u (mV I) dC ?_;refine XL.u (zd9 mO uT5 I) dC ?_;refine XL.o (bS sty208 I I I (ae sB) dC) dC ?_;rintro _ _ _ ⟨b31,rfl,rfl,rfl⟩;refine XL.to (fun w hw=>At.litRow (e:=tm) (l:=by4 x) (n:=3) hw I I dC) ?_;refine XL.o (SO.appendE (m:=4) 1 (bs++by4 x).length ((bs++by4 x).flatMap tm.enc) sty208 I I I I I (zb7 0 I) (tm.length (by4 x)) (tm.ones _) (by simp[by4]) (by simp) (by simp[by4]; omega) (by simp[by4]; omega)) dC ?_;rintro v32 _ _ ⟨rfl,rfl⟩;refine XL.facts fun ⟨w0,hw0⟩=>?_;obtain ⟨q3,d3,rfl⟩:=ag (e:=tm) (l:=bs++by4 x) (i:=1) hw0 rfl;clear hw0 w0;refine XL.on (sK 2 sizeOf208 I I I I I sB) ?_;rintro _ _ _ ⟨rfl,rfl⟩;refine XL.nil ?_;refine XT.blockN ?_;refine XT.drop (zj1 _ _) ?_;exact XT.roundEnd (.slice q3 (bs++by4 x).length d3,bs++by4 x) I I (by dsimp only; rw[List.flatMap_append,hJ]; simp[byP])
 ·rintro D ⟨bv,bs⟩ hJ;dsimp only at hJ ⊢;refine XT.facts fun ⟨w0,hw0⟩=>?_;obtain ⟨q2,d2,rfl⟩:=ag (i:=1) hw0 rfl;clear hw0 w0;refine XT.blockN ?_;refine XT.thenN ?_;refine XC.seq ?_;refine XC.region ?_;refine XL.q (qL (v:=.slice q2 bs.length d2) isAgg208 I (cO 2 I I)) dC ?_;refine XL.q (SQ.bytesText underlying208 uT5 uT9 I (zb7 1 I)) dC ?_;refine XL.o (cL call234 I (tu E g1 _ (byt bs))) dC ?_;rintro _ _ _ ⟨rfl,rfl,rfl⟩;refine XL.u (aS I) dC ?_;refine XL.nil ?_;refine XT.thenN ?_;have hbs:kW (byt bs)=gV l:=by unfold gV; rw[hJ]
  rw[hbs];generalize gV l=T at *;cases neg
  ·refine XC.seq ?_;refine XC.region ?_;refine XL.u (mV I) dC ?_;refine XL.u (mV I) dC ?_;refine XL.off (gZ I I I dC) dC ?_;refine XL.off (gZ I I I dC) dC ?_;refine XL.u (wF I I) dC ?_;refine XL.u (mV I) dC ?_;refine XL.u (za3 I (build80 _ _)) dC ?_;refine XL.on (sK 3 gP I I I I I sB) ?_;rintro _ _ _ ⟨rfl,rfl⟩;refine XL.nil ?_;refine XT.thenN ?_;refine XC.ret ?_;exact XT.leave1 (.inl I) (ST.retCD 2 s (.inl I) results187 I mi gP I I (.cons _ (.cons _ (.cons _ (.refl _)))) ⟨I,I,hle⟩)
  ·refine XC.seq ?_;refine XC.region ?_;refine XL.u (mV I) dC ?_;refine XL.u (mV I) dC ?_;refine XL.gu (gT I I I dC) (mV I) dC ?_;refine XL.gu (gT I I I dC) (SU.neqT I I) dC ?_;refine XL.u (wT I I) dC ?_;refine XL.u (mV I) dC ?_;refine XL.u (za3 I (build80 _ _)) dC ?_;refine XL.on (sK 3 gP I I I I I sB) ?_;rintro _ _ _ ⟨rfl,rfl⟩;refine XL.nil ?_;refine XT.thenN ?_;refine XC.ret ?_;exact XT.leave1 (.inl I) (ST.retCD 2 s (.inl I) results187 I mi gP I I (.cons _ (.cons _ (.cons _ (.refl _)))) ⟨I,I,hle⟩)
open Go Go.Sy Go.Pl Go.Proofs
theorem SU.negK {P:Program}{N:Nat}{f:Fr}{dst:Option Tmp}{ty:TypeId}{pos:String}{af:Array Edge}{gd:Option (Nat×Bool)}{x:Operand}{T:TypeId}{k:IntKind}{n:Int}(hx:ev f x=some (.int k n)):SU P N ⟨dst,.unOp .neg T x,ty,pos,af,gd⟩ f (.int k (k.wrap (0 - n))):=fun a w ha=>by
 simp only[execOp,ha.ev hx]; rfl
theorem tQ (n:Int):IntKind.u64.wrap n=n % 18446744073709551616:=by simp[IntKind.wrap,IntKind.bits,IntKind.signed]
theorem qR (m:Nat)(h:m<18446744073709551616):IntKind.u64.wrap (BitVec.ofInt IntKind.u64.bits (m:Int) &&& BitVec.ofInt IntKind.u64.bits 4294967295).toNat=((m % 4294967296:Nat):Int):=by
 have h1:(BitVec.ofInt IntKind.u64.bits (m:Int) &&& BitVec.ofInt IntKind.u64.bits 4294967295).toNat=m % 4294967296:=by
  have hb:IntKind.u64.bits=64:=rfl;rw[hb,BitVec.toNat_and];have e1:(BitVec.ofInt 64 (m:Int)).toNat=m:=by
   rw[BitVec.toNat_ofInt];omega
  have e2:(BitVec.ofInt 64 4294967295).toNat=2 ^ 32 - 1:=by decide
  rw[e1,e2,Nat.and_two_pow_sub_one_eq_mod]
 rw[h1];exact IntWalk.u64_in _ oM
theorem GR (m:Nat):((m:Nat):Int).fdiv (2 ^ min (32:Int).toNat IntKind.u64.bits)=((m / 4294967296:Nat):Int):=by
 have h1:((2:Int) ^ min (32:Int).toNat IntKind.u64.bits)=4294967296:=by decide
 rw[h1,Int.fdiv_eq_ediv_of_nonneg _ dC];omega
theorem Tryz.buildE80 (w:World):(Instr.build 80 #[]).run Tryz.prog w = .ok (.agg #[vb false,txt []]) w:=by
 simp[Instr.build,Instr.fill];rfl
def vm (n:Int):List Int:=[((n.natAbs % 4294967296:Nat):Int),((n.natAbs / 4294967296:Nat):Int)]
theorem D3 (E:World)(g:PH)(s:Own)(n:Int)(h0 : -9223372036854775808≤n)(h1:n<9223372036854775808) :
  Ctr Tryz.prog E 129 #[vi n] g s (fun r g' s'=>r=qJ (decide (n<0)) (gV (vm n))∧s=s'∧Le g g'):=by
 refine zb2 (args:=[vi n]) func129 I ntmps129 (bE I) ?_;refine rZ (bW (aL zl8) fun b2=>?_);refine tZ (sW I (lU (zd9 uT3 mO I) (aT I ?_)));refine SC.cut (ι:=Unit) (fun _=>[(0,vi n),(2,pp b2 0),(3,.int .u64 (n.natAbs:Int))]) (fun _=>g) (fun _=>pt b2 (.cells #[vb false,txt []] 80 (0,0))::s) (fun _=>True) ?_ ?_
 ·refine sW I (yL I (tZ ?_));refine iP I (fun hn=>?_) (fun hn=>?_)
  ·have hw:IntKind.u64.wrap (0 - IntKind.u64.wrap n)=(n.natAbs:Int):=by
    rw[tQ,tQ]; omega
   refine rG (lM I (lU (SU.negK I) (lA I (nL ?_))));exact za9 () ⟨I,I,by rw[← hw]; rfl,trivial⟩ rfl rfl trivial
  ·have hw:IntKind.u64.wrap n=(n.natAbs:Int):=by
    rw[tQ]; omega
   refine kP ?_;exact za9 () ⟨I,I,by rw[← hw]; rfl,trivial⟩ rfl rfl trivial
 rintro _ -;try dsimp only
 refine sW I (lU (SU.eq (v':=.int .u64 ((n.natAbs % 4294967296:Nat):Int)) (SU.and I I) (ze2 _ (qR _ oM))) (lM I (lU (SU.eq (v':=.int .u64 ((n.natAbs / 4294967296:Nat):Int)) (SU.shr I I dC) (ze2 _ (GR _))) (lW (bS sty222 I I I (ae sB) dC) ?_))));rintro _ _ _ ⟨b14,rfl,rfl,rfl⟩;refine zb5 fun g1 hle1 hb=>?_;refine lM I (yL I (lW (cL call187 I (ge E g1 _ _ (vm n) _ (SlA.lit hb I I) (by simp[vm]))) ?_));rintro _ g2 _ ⟨rfl,rfl,hle2⟩;refine oZ (sK 0 gP I I I I I sB) ?_;refine tZ (rE ?_);exact ST.retCD 0 s (.inl I) results129 I mi gP I I uR ⟨I,I,hle1.trans hle2⟩
def hiB (x:Int):Int:=IntKind.u8.wrap (IntKind.i64.wrap (x.tdiv 256))
def loB (x:Int):Int:=IntKind.u8.wrap (x.tmod 256)
def e6:List Int→List Int
 | []=>[]
 | x::D=>e6 D++((if decide (D≠[])||decide (x≥256) then [hiB x] else [])++[loB x])
theorem uU:∀ D:List Int,(e6 D).length≤2 * D.length
 | []=>by simp[e6]
 | x::D=>by
  have:=uU D;simp only[e6,ze5,ze8,zc4];split <;> simp <;> omega
theorem vE (E:World)(g:PH)(s:Own)(v:Value)(neg:Bool)(l:List Int)(hv:SlA encInt g v l)(hl:l.length<1099511627776) :
  Ctr Tryz.prog E 97 #[vb neg,v] g s (fun r g' s'=>r = .agg #[vb (neg&&decide (dq l≠[])),txt (byt (e6 (dq l)))]∧s=s'∧Le g g'):=by
 have htl:=xU l;refine zb2 (args:=[vb neg,v]) func97 I ntmps97 (bE I) ?_;refine rZ (bW (aL zl8) fun b4=>?_);refine tZ (sW I (lW (cL call164 I (vF E g _ v l hv hl)) ?_));rintro v8 _ _ ⟨rfl,rfl,hm⟩;obtain ⟨q,d,rfl⟩:=za4 hm;refine aT I (sQ (sW I (lU (eN aH I) (yE I (tZ ?_)))));generalize dq l=t at *;refine iP I (fun hz=>?_) (fun hz=>?_)
 ·have ht0:t=[]:=zf4 oM;subst ht0;refine rZ (lU (za3 I (buildE80)) (oZ (sK 0 gP I I I I I sB) ?_));refine tZ (rE (tR ?_));exact ST.retCD 0 s (.inl I) results97 I mi gP I I uR ⟨by cases neg <;> rfl,I,zb9 g⟩
 ·refine kP (tN (rZ (aT I (sQ (sW I (lU (eN aH I) (lU (sU I I oM) (aT I (bK (zb6 5 1 ?_))))))))));refine oP (ι:=Nat×Value) (fun i=>[(0,vb neg),(1,.slice q t.length d),(4,pp b4 0),(5,i.2),(6,vi ((i.1:Int) - 1))]) (fun _=>g) (fun i=>rowA tm 5 i.2 (e6 (t.drop i.1))::pt b4 (.cells #[vb false,txt []] 80 (0,0))::s) (fun i=>i.1≤t.length) (fun i=>i.1) (t.length,.slice none 0 0)
   sB rfl (by dsimp only; rw[List.drop_length]; rfl) (lR _) ?_
  rintro ⟨n,bv⟩ hn;dsimp only at hn ⊢;refine sQ (sW I (lU (gQ I I) (tZ ?_)));refine iP I (fun hge=>?_) (fun hge=>?_)
  ·have hn1:n - 1<t.length:=oM;have hb1:=za6 hm oM;have hgx:t[((n:Int) - 1).toNat]?=some t[n - 1]:=by rw[show ((n:Int) - 1).toNat=n - 1 by omega]; exact gE hn1
   have hdr:t.drop (n - 1)=t[n - 1]::t.drop n:=by
    have:=zg6 hn1;rwa [show n - 1+1=n by omega] at this
   have hne:decide (t.drop n≠[])=decide ((n:Int) - 1<(t.length:Int) - 1):=by
    rw[decide_eq_decide];constructor
    ·intro h;have:=List.length_pos_iff.2 h;rw[ze9] at this;omega
    ·intro h e;have:=ze2 List.length e;rw[ze9,zc4] at this;omega
   have hlb:=uU (t.drop n);rw[ze9] at hlb;generalize t[n - 1]=x at *;have hst:e6 (t.drop (n - 1))=e6 (t.drop n)++((if decide ((n:Int) - 1<(t.length:Int) - 1)||decide (x≥256) then [hiB x] else [])++[loB x]):=by rw[hdr,e6,hne]
   generalize e6 (t.drop n)=B at *;have f1:(n:Int) - 1<(t.length:Int) - 1→(decide ((n:Int) - 1<(t.length:Int) - 1)||decide (x≥256))=true:=fun h=>by rw[zf8 h,Bool.true_or]
   have f2:¬ (n:Int) - 1<(t.length:Int) - 1→(decide ((n:Int) - 1<(t.length:Int) - 1)||decide (x≥256))=decide (x≥256):=fun h=>by rw[zf7 h,Bool.false_or]
   refine kP (tN (sQ (bK ?_)));refine SC.cut (ι:=Value) (fun i=>[(0,vb neg),(1,.slice q t.length d),(4,pp b4 0),(5,i),(6,vi ((n:Int) - 1))]) (fun _=>g) (fun i=>rowA tm 5 i (B++(if decide ((n:Int) - 1<(t.length:Int) - 1)||decide (x≥256) then [hiB x] else []))::pt b4 (.cells #[vb false,txt []] 80 (0,0))::s) (fun _=>True) ?_ ?_
   ·refine SC.cutB 31 ((decide ((n:Int) - 1<(t.length:Int) - 1)||decide (x≥256))) ?_ ?_
    ·refine rG (lM I (lM I (lU (eN aH I) (lU (sU I I oM) (yL I (lM I ?_))))));refine sP ?_ ?_
     ·intro h25;refine yA I (yA I (yA I (yA I (yA I (yP I (nL ?_))))));exact zb1 (by (rw[f1 h25]; rfl)) mI
     ·intro h25;refine yC I (yC I (lY I I I (iA aH zT3 I I hb1 oM sL) (SL.gq (gT I I I dC) (eB iT3 I (za7 hm) hgx I) dC (lY I I I (gQ I I) (yF I (nL ?_))))));exact zb1 (by (rw[f2 h25]; rfl)) mI
    refine iQ I (fun hc=>?_) (fun hc=>?_)
    ·refine rG (lM I (lM I (lM I (lU (iA aH zT3 I I hb1 oM sL) (lK (eB iT3 I (za7 hm) hgx I) (lU (SU.quo I I dC) (lU (SU.eq (v':=.int .u8 (hiB x)) (zd9 uT3 uT5 I) I) (lW (bS sty208 I I I (ae sB) dC) ?_))))))));rintro _ _ _ ⟨b39,rfl,rfl,rfl⟩;refine lW (aP (e:=tm) 0 (hiB x) sty208 I I I I I oM oM) ?_;rintro bv' _ _ ⟨rfl,rfl⟩;refine lA I (nL ?_);exact za9 bv' sB I (by rw[zg1 hc]; rfl) trivial
    ·refine kP ?_;exact za9 bv sB I (by rw[zf9 (by rw[hc]; simp),zc6]) trivial
   rintro bv2 -;try dsimp only
   have hB2:(B++(if decide ((n:Int) - 1<(t.length:Int) - 1)||decide (x≥256) then [hiB x] else [])).length≤B.length+1:=by
    rw[ze5]; split <;> simp
   rw[← zg8] at hst;generalize (B++(if decide ((n:Int) - 1<(t.length:Int) - 1)||decide (x≥256) then [hiB x] else []))=B2 at *;refine rG (lM I (lM I (lM I (lU (iA aH zT3 I I hb1 oM sL) (lK (eB iT3 I (za7 hm) hgx I) (lU (zd8 I I dC) (lU (SU.eq (v':=.int .u8 (loB x)) (zd9 uT3 uT5 I) I) (lW (bS sty208 I I I (ae sB) dC) ?_))))))));rintro _ _ _ ⟨b48,rfl,rfl,rfl⟩;refine lW (aP (e:=tm) 0 (loB x) sty208 I I I I I oM oM) ?_;rintro bv3 _ _ ⟨rfl,rfl⟩;refine lA I (nL (bN (tN (rG (lM I (lU (sU I I oM) (lA I (nL ?_))))))));exact ST.again (n - 1,bv3) ⟨I,I,I,I,E9 I oM,trivial⟩ I (by dsimp only; rw[hst]; rfl) (by dsimp only; omega) (by dsimp only; omega)
  ·have hn0:n=0:=oM;subst hn0;refine SC.facts fun ⟨w0,hw0⟩=>?_;obtain ⟨q2,d2,rfl⟩:=ag (i:=0) hw0 rfl;clear hw0 w0;rw[List.drop_zero] at *;refine xI (tX (tX (bX (tN (sW I (lM I (lK (SQ.bytesText underlying208 uT5 uT9 I (zb7 0 I)) (lU (za3 I (build80 _ _)) (oZ (sK 1 gP I I I I I sB) ?_)))))))));refine tZ (rE ?_);exact ST.retCD 1 s (.inl I) results97 I mi gP I I uR ⟨by rw[show decide (t≠[])=true from zf8 (fun e:t=[]=>hz (by rw[e]; rfl)),Bool.and_true]; rfl,rfl,zb9 g⟩
def m7 (m:Nat):List Int:=if h:m=0 then [] else ((m % 65536:Nat):Int)::m7 (m / 65536)
termination_by m
decreasing_by omega
theorem fq:m7 0=[]:=by unfold m7; rfl
theorem gt {m:Nat}(h:m≠0):m7 m=((m % 65536:Nat):Int)::m7 (m / 65536):=by rw[m7,dif_neg h]
theorem qx:∀ (k m:Nat),m<65536 ^ k→(m7 m).length≤k
 | 0,m,h=>by
  have:m=0:=by simpa using h
  subst this; rw[fq]; simp
 | k+1,m,h=>by
  by_cases h0:m=0
  ·subst h0; rw[fq]; simp
  ·rw[gt h0,ze8];have:=qx k (m / 65536) (by rw[Nat.div_lt_iff_lt_mul dC]; rwa [Nat.pow_succ] at h);omega
theorem CO (m:Nat):dq (m7 m)=m7 m:=by
 have key:∀ m,m7 m=[]∨∃ a x,m7 m=a++[x]∧x≠0:=by
  intro m;induction m using Nat.strongRecOn with
  | _ m ih =>
   by_cases h0:m=0
   ·left; subst h0; exact fq
   ·right;rw[gt h0]
    rcases ih (m / 65536) oM with h | ⟨a,x,h,hx⟩
    ·refine⟨[],_,by rw[h]; rfl,?_⟩;by_cases h1:m / 65536=0
     ·omega
     ·rw[gt h1] at h; cases h
    ·exact⟨_::a,x,by rw[h]; rfl,hx⟩
 rcases key m with h | ⟨a,x,h,hx⟩
 ·rw[h]; rfl
 ·rw[h]; simp[dq,hx]
theorem wR (E:World)(g:PH)(s:Own)(n:Int)(h0 : -9223372036854775808≤n)(h1:n<9223372036854775808) :
  Ctr Tryz.prog E 31 #[vi n] g s (fun r g' s'=>r = .agg #[vb (decide (n<0)&&decide (m7 n.natAbs≠[])),txt (byt (e6 (m7 n.natAbs)))]∧s=s'∧Le g g'):=by
 have hdl:=qx 4 n.natAbs oM;refine zb2 (args:=[vi n]) func31 I ntmps31 (bE I) ?_;refine rZ (bW (aL zl8) fun b2=>?_);refine tZ (rZ (aT I (sW I (lU (zd9 uT3 mO I) (aT I ?_)))));refine SC.cut (ι:=Unit) (fun _=>[(0,vi n),(2,pp b2 0),(3,.slice none 0 0),(4,.int .u64 (n.natAbs:Int))]) (fun _=>g) (fun _=>pt b2 (.cells #[vb false,txt []] 80 (0,0))::s) (fun _=>True) ?_ ?_
 ·refine sW I (yL I (tZ ?_));refine iP I (fun hn=>?_) (fun hn=>?_)
  ·have hw:IntKind.u64.wrap (0 - IntKind.u64.wrap n)=(n.natAbs:Int):=by
    rw[tQ,tQ]; omega
   refine rG (lM I (lU (SU.negK I) (lA I (nL ?_))));exact za9 () ⟨I,I,I,by rw[← hw]; rfl,trivial⟩ rfl rfl trivial
  ·have hw:IntKind.u64.wrap n=(n.natAbs:Int):=by
    rw[tQ]; omega
   refine kP ?_;exact za9 () ⟨I,I,I,by rw[← hw]; rfl,trivial⟩ rfl rfl trivial
 rintro _ -;try dsimp only
 refine sQ (bK (zb6 3 1 ?_));refine oP (ι:=Nat×Value×List Int) (fun i=>[(0,vi n),(2,pp b2 0),(3,i.2.1),(4,.int .u64 (i.1:Int))]) (fun _=>g) (fun i=>rowA encInt 3 i.2.1 i.2.2::pt b2 (.cells #[vb false,txt []] 80 (0,0))::s) (fun i=>i.2.2++m7 i.1=m7 n.natAbs∧i.1≤n.natAbs) (fun i=>i.1) (n.natAbs,.slice none 0 0,[])
  sB rfl rfl ⟨rfl,lR _⟩ ?_
 rintro ⟨m,bv,D⟩ ⟨hD,hm⟩;dsimp only at hD hm ⊢;have hDl:D.length≤4:=by have:=ze2 List.length hD; rw[ze5] at this; omega
 refine sQ (sW I (lU (gR I I) (tZ ?_)));refine iP I (fun hpos=>?_) (fun hpos=>?_)
 ·have hm0:m≠0:=oM;have hds:=gt hm0;refine kP (tN (bK (sW I (lM I (lU (zd8 I I dC) (lU (SU.eq (v':=vi ((m % 65536:Nat):Int)) (zd9 mO uT3 I) (ze2 vi (by rw[show ((m:Int)).tmod 65536=((m % 65536:Nat):Int) by rw[Int.tmod_eq_emod_of_nonneg oM]; omega]; exact zk9 _ oM))) ?_))))));refine lW (bS sty52 I I I (ae sB) dC) ?_;rintro _ _ _ ⟨b17,rfl,rfl,rfl⟩;refine lW (aP (e:=encInt) 0 ((m % 65536:Nat):Int) sty52 I I I I I oM oM) ?_;rintro bv' _ _ ⟨rfl,rfl⟩;refine aT I (rG (lM I (lU (SU.eq (v':=.int .u64 ((m / 65536:Nat):Int)) (SU.quo I I dC) (ze2 _ (by rw[show ((m:Int)).tdiv 65536=((m / 65536:Nat):Int) by rw[Int.tdiv_eq_ediv_of_nonneg oM]; omega]; exact IntWalk.u64_in _ oM))) ?_)));refine lA I (nL (bN ?_));exact ST.again (m / 65536,bv',D++[((m % 65536:Nat):Int)]) sB I I ⟨by dsimp only; rw[← hD,hds]; simp,by dsimp only; omega⟩ (by dsimp only; omega)
 ·have hm0:m=0:=oM;subst hm0;rw[fq,zc6] at hD;subst hD;refine xI (tX (tX (bX (tN (sQ (fS fun g1 hle1 hs1=>?_))))));refine rG (lM I (yL I (lM I (lW (cL call97 I (vE E g1 _ bv _ (m7 n.natAbs) hs1 oM)) ?_))));rintro _ g2 _ ⟨rfl,rfl,hle2⟩;refine oZ (sK 0 gP I I I I I sB) ?_;refine tZ (rE ?_);exact ST.retCD 0 s (.inl I) results31 I mi gP I I uR ⟨by rw[CO]; rfl,rfl,hle1.trans hle2⟩
theorem jy {a b:Nat}(h:a % 256=b % 256):UInt8.ofNat a=UInt8.ofNat b:=by
 apply UInt8.toNat.inj;simpa using h
theorem u8w (k:Nat):IntKind.u8.wrap (k:Int)=((k % 256:Nat):Int):=by simp[IntKind.wrap,IntKind.bits,IntKind.signed]
theorem sI (k:Nat):UInt8.ofNat (IntKind.u8.wrap (k:Int)).toNat=UInt8.ofNat k:=by
 rw[u8w,Int.toNat_natCast]; exact jy oM
theorem oE (k e:Nat):(k:Int).fdiv ((e:Nat):Int)=((k / e:Nat):Int):=by
 rw[Int.fdiv_eq_ediv_of_nonneg _ oM]; simp
theorem Bs (k:Nat):byt (by4 (k:Int))=[UInt8.ofNat (k / 16777216),UInt8.ofNat (k / 65536),UInt8.ofNat (k / 256),UInt8.ofNat k]:=by
 have h1:((2:Int) ^ min (24:Int).toNat IntKind.u64.bits)=((16777216:Nat):Int):=by decide
 have h2:((2:Int) ^ min (16:Int).toNat IntKind.u64.bits)=((65536:Nat):Int):=by decide
 have h3:((2:Int) ^ min (8:Int).toNat IntKind.u64.bits)=((256:Nat):Int):=by decide
 unfold by4;rw[h1,h2,h3,oE,oE,oE];simp only[byt,zg4,List.map_nil,sI]
def beK:Nat→Nat→List UInt8
 | 0,_=>[]
 | k+1,m=>beK k (m / 65536)++[UInt8.ofNat (m / 256),UInt8.ofNat m]
def eJ (m:Nat):List UInt8:=kW (beK 4 m)
theorem oJ:∀ k,kW (beK k 0)=[]
 | 0=>rfl
 | k+1=>by
  have ih:=oJ k;unfold kW at *;rw[beK,List.dropWhile_append,ih];rfl
theorem yh {a:Nat}(h0:a≠0)(h:a<256):UInt8.ofNat a≠0:=fun e=>by
 have:=ze2 UInt8.toNat e;simp at this;omega
theorem ny:∀ (k m:Nat),m<65536 ^ k→byt (e6 (m7 m))=kW (beK k m)
 | 0,m,h=>by
  have:m=0:=by simpa using h
  subst this; rw[fq]; rfl
 | k+1,m,h=>by
  by_cases h0:m=0
  ·subst h0; rw[fq,oJ]; rfl
  ·have ih:=ny k (m / 65536) (by rw[Nat.div_lt_iff_lt_mul dC]; rwa [Nat.pow_succ] at h);rw[gt h0,beK];have hlo:UInt8.ofNat (loB ((m % 65536:Nat):Int)).toNat=UInt8.ofNat m:=by
    unfold loB;rw[show (((m % 65536:Nat):Int)).tmod 256=((m % 65536 % 256:Nat):Int) by rw[Int.tmod_eq_emod_of_nonneg oM]; omega,sI];exact jy oM
   have hhi:UInt8.ofNat (hiB ((m % 65536:Nat):Int)).toNat=UInt8.ofNat (m % 65536 / 256):=by
    unfold hiB;rw[show (((m % 65536:Nat):Int)).tdiv 256=((m % 65536 / 256:Nat):Int) by rw[Int.tdiv_eq_ediv_of_nonneg oM]; omega,zk9 _ oM,sI]
   by_cases h1:m / 65536=0
   ·rw[h1,fq];have hz:=oJ k;unfold kW at *;rw[List.dropWhile_append,hz];have hm:m % 65536=m:=oM;rw[hm] at hlo hhi ⊢;simp only[e6,List.nil_append,ne_eq,not_true_eq_false,decide_false,Bool.false_or,List.isEmpty_nil,if_true];by_cases h2:(m:Int)≥256
    ·have hne:(UInt8.ofNat (m / 256) == 0)=false:=by simpa using yh (a:=m / 256) oM oM
     rw[zf8 h2,zg1 rfl,List.dropWhile_cons,hne];simp only[byt,zg5,zg4,List.map_nil,hlo,hhi];rfl
    ·have hq:m / 256=0:=oM;have hne:(UInt8.ofNat m == 0)=false:=by simpa using yh (a:=m) h0 oM
     rw[zf7 h2,zf9 (by simp),hq,List.dropWhile_cons,show (UInt8.ofNat 0 == 0)=true from rfl,zg1 rfl,List.dropWhile_cons,hne];simp only[byt,List.nil_append,zg4,List.map_nil,hlo];rfl
   ·have hD:m7 (m / 65536)≠[]:=by rw[gt h1]; simp
    have hne:byt (e6 (m7 (m / 65536)))≠[]:=by
     rw[gt h1];simp[byt,e6]
    have hq:UInt8.ofNat (m % 65536 / 256)=UInt8.ofNat (m / 256):=jy oM;rw[ih] at hne;unfold kW at *;rw[List.dropWhile_append];have he:(List.dropWhile (fun x=>x == 0) (beK k (m / 65536))).isEmpty=false:=by simpa using hne
    rw[he];simp only[e6,Bool.false_eq_true,if_false];rw[zf8 hD,Bool.true_or,zg1 rfl];rw[← ih];simp only[byt,zg5,zg4,List.map_nil,hlo,hhi,hq];rfl
theorem Gl {a:Int}(h:a≠0):dq [a,0]=[a]:=by simp[dq,h]
theorem Gk {a b:Int}(h:b≠0):dq [a,b]=[a,b]:=by simp[dq,h]
theorem pM (n:Int)(h:n.natAbs<18446744073709551616):gV (vm n)=eJ n.natAbs:=by
 obtain ⟨m,hm⟩:∃ m,m=n.natAbs:=⟨_,rfl⟩;unfold vm;rw[← hm] at h ⊢;have hlo:=Bs (m % 4294967296);have hhi:=Bs (m / 4294967296);have hbe:beK 4 m=[UInt8.ofNat (m / 4294967296 / 16777216),UInt8.ofNat (m / 4294967296 / 65536),UInt8.ofNat (m / 4294967296 / 256),UInt8.ofNat (m / 4294967296),UInt8.ofNat (m % 4294967296 / 16777216),UInt8.ofNat (m % 4294967296 / 65536),UInt8.ofNat (m % 4294967296 / 256),UInt8.ofNat (m % 4294967296)]:=by
  simp only[beK,List.nil_append,List.cons_append];refine congr (ze2 List.cons ?_) (congr (ze2 List.cons ?_) (congr (ze2 List.cons ?_) (congr (ze2 List.cons ?_) (congr (ze2 List.cons ?_) (congr (ze2 List.cons ?_) (congr (ze2 List.cons ?_) (congr (ze2 List.cons ?_) I)))))))
  all_goals exact jy oM
 unfold eJ gV;rw[hbe];by_cases h1:m / 4294967296=0
 ·by_cases h2:m % 4294967296=0
  ·rw[h1,h2]; rfl
  ·have ht:dq [((m % 4294967296:Nat):Int),((m / 4294967296:Nat):Int)]=[((m % 4294967296:Nat):Int)]:=by
    rw[h1];exact Gl oM
   rw[ht];show kW (byt (by4 _++[]))=_;rw[zc6,hlo,h1];rfl
 ·have ht:dq [((m % 4294967296:Nat):Int),((m / 4294967296:Nat):Int)]=[((m % 4294967296:Nat):Int),((m / 4294967296:Nat):Int)]:=by
   exact Gk oM
  rw[ht];show kW (byt (by4 _++(by4 _++[])))=_;rw[zc6];have:byt (by4 ((m / 4294967296:Nat):Int)++by4 ((m % 4294967296:Nat):Int))=byt (by4 ((m / 4294967296:Nat):Int))++byt (by4 ((m % 4294967296:Nat):Int)):=by simp[byt]
  rw[this,hhi,hlo];rfl
def dK (n:Int):Value:=qJ (decide (n<0)) (eJ n.natAbs)
theorem px (E:World)(g:PH)(s:Own)(n:Int)(h0 : -9223372036854775808≤n)(h1:n<9223372036854775808) :
  Ctr Tryz.prog E 129 #[vi n] g s (fun r g' s'=>r=dK n∧s=s'∧Le g g') :=
 (D3 E g s n h0 h1).mono fun _ _ _ ⟨h2,h3⟩=>⟨by rw[h2,pM _ oM]; rfl,h3⟩
theorem Ee (m:Nat):decide (m7 m≠[])=decide (m≠0):=by
 rw[decide_eq_decide];by_cases h:m=0
 ·subst h; rw[fq]; simp
 ·rw[gt h]; simp[h]
theorem DP {m:Nat}(h:m<18446744073709551616):decide (eJ m≠[])=decide (m≠0):=by
 rw[show eJ m=byt (e6 (m7 m)) from (ny 4 m oM).symm,decide_eq_decide];by_cases h0:m=0
 ·subst h0; rw[fq]; simp[e6,byt]
 ·rw[gt h0]; simp[h0,e6,byt]
theorem vH (E:World)(g:PH)(s:Own)(n:Int)(h0 : -9223372036854775808≤n)(h1:n<9223372036854775808) :
  Ctr Tryz.prog E 31 #[vi n] g s (fun r g' s'=>r=dK n∧s=s'∧Le g g') :=
 (wR E g s n h0 h1).mono fun _ _ _ ⟨h2,h3⟩=>⟨by
  rw[h2,ny 4 _ oM,Ee];unfold dK qJ;rw[DP oM];rfl,h3⟩
def beN (l:List UInt8):Nat:=l.foldl (fun a b=>a * 256+b.toNat) 0
theorem oI (l:List UInt8)(b:UInt8):beN (l++[b])=beN l * 256+b.toNat:=by simp[beN]
theorem CW (l:List UInt8):beN (kW l)=beN l:=by
 induction l with
 | nil=>rfl
 | cons b t ih =>
  unfold kW at *;rw[List.dropWhile_cons];split
  ·rename_i h;have hb:b=0:=by simpa using h
   subst hb;rw[ih];rfl
  ·rfl
theorem qk (k:Nat):(UInt8.ofNat k).toNat=k % 256:=by simp
theorem Bw:∀ (k m:Nat),m<65536 ^ k→beN (beK k m)=m
 | 0,m,h=>by
  have:m=0:=by simpa using h
  subst this;rfl
 | k+1,m,h=>by
  have ih:=Bw k (m / 65536) (by rw[Nat.div_lt_iff_lt_mul dC]; rwa [Nat.pow_succ] at h);rw[beK,show beK k (m / 65536)++[UInt8.ofNat (m / 256),UInt8.ofNat m]=(beK k (m / 65536)++[UInt8.ofNat (m / 256)])++[UInt8.ofNat m] by simp,oI,oI,ih,qk,qk];omega
theorem jr {m:Nat}(h:m<18446744073709551616):beN (eJ m)=m:=by
 unfold eJ;rw[CW];exact Bw 4 m h
theorem lQ {m:Nat}(h:m<4294967296):(eJ m).length≤4:=by
 have h1:m / 65536 / 65536=0:=oM;have h2:beK 4 m=beK 2 0++([UInt8.ofNat (m / 65536 / 256),UInt8.ofNat (m / 65536)]++[UInt8.ofNat (m / 256),UInt8.ofNat m]):=by
  rw[beK,beK,h1,zg8]
 unfold eJ;rw[h2];have h3:=oJ 2;unfold kW at *;rw[List.dropWhile_append,h3];simp only[List.isEmpty_nil,if_true];exact zk8 ((List.dropWhile_sublist _).length_le) (by simp)
def eV (n:Nat):List Int:=if n=0 then [] else [(n:Int)]
def fE (l:List Cl):List Int:=l.flatMap fun c=>c.sides.map Side.cell
theorem wL (A:List Cl)(k:Int):(fE A).contains k=ln A k:=by
 rw[Bool.eq_iff_iff];simp[fE,ln,oa]
theorem vD {A:List Cl}{k:Nat}(h:k<A.length):fE (A.take (k+1))=fE (A.take k)++A[k].sides.map Side.cell:=by
 unfold fE;rw[tS h,List.flatMap_append];simp only[zh5,List.flatMap_nil,zc6]
theorem D7 {A:List Cl}{id:Int}(h:am A id=none)(m:List Int):gI A (m++[id])=gI A m:=by
 unfold gI;refine zc8 fun c hc=>?_;have:=List.find?_eq_none.1 h c hc;simp only[zj5] at this;simp[this]
theorem Ci {ss:List Side}{j:Nat}(h:j<ss.length)(m:List Int):m++(ss.take (j+1)).map Side.cell=(m++(ss.take j).map Side.cell)++[ss[j].cell]:=by
 rw[tS h,zg5,zg8]; rfl
theorem vG (E:World)(g:PH)(s:Own)(v:Value)(l:List Cl)(hv:ar g v l)(hf:ci l) :
  Ctr Tryz.prog E 49 #[.agg #[v]] g s (fun r g' s'=>s=s'∧Le g g'∧eG g' r (wu l)):=by
 have hft:=dv hf;have hfl:=hft.1;have hsrt:=ic l;have hnd:=nk l;refine zb2 (args:=[.agg #[v]]) func49 I ntmps49 (bE I) ?_;refine rZ (bW (bO I) fun b1=>?_);refine aT I (rZ (aT I (rZ (lK (qV 0 ba aC I I I) (lW (cL call96 I (dU E g _ _ l hv hf)) ?_)))));rintro v11 g1 _ ⟨rfl,hle,hc⟩;obtain ⟨rs,hrs,hall⟩:=hc;have hcs:ar g1 _ (ak l):=⟨rs,hrs,hall⟩;obtain ⟨q,dd,rfl⟩:=hrs.form;have hrl:=hall.length;refine aT I (sW I (lU (eN aJ I) (lW (mK ji false sty161 I I I oM oM) ?_)));rintro _ _ _ ⟨b14,rfl,rfl,rfl⟩;refine aT I (sQ (rZ (aT I (bK ?_))));unfold wu;generalize ak l=A at *;refine SC.to (g':=g1) (s':=rowA ji 4 (.slice (some ⟨b14,0,none⟩) rs.length rs.length) (gI A (fE (A.take 0)))::pt b1 (.cells #[v] 29 (0,0))::s) (fun w hw=>by rw[show fE (A.take 0)=[] from I,CH,hrl]; exact hw) ?_;refine oP (ι:=Nat) (fun i=>[(3,.slice none 0 0),(4,.slice q rs.length dd),(5,.slice (some ⟨b14,0,none⟩) rs.length rs.length),(6,vi i)]) (fun _=>g1)
  (fun i=>rowA ji 4 (.slice (some ⟨b14,0,none⟩) rs.length rs.length) (gI A (fE (A.take i)))::pt b1 (.cells #[v] 29 (0,0))::s)
  (fun i=>i≤A.length) (fun i=>A.length - i) 0 sB rfl rfl (zf6 _) ?_
 intro k hk;refine sQ (sW I (lM I (lU (eN aJ I) (yL I (tZ ?_)))));refine iP I (fun hlt=>?_) (fun hlt=>?_)
 ·have hkl:k<A.length:=oM;have hkr:k<rs.length:=oM;have hb1:=hrs.based oM;have hcr:=hall.get (gE hkl) (gE hkr);have hgr:rs[((k:Nat):Int).toNat]?=some rs[k]:=gE hkr;have hsucc:=vD hkl;have hxl:=hft.2 _ (gM hkl);generalize A[k]=x at *;generalize rs[k]=r at *;generalize fE (A.take k)=m at *;obtain ⟨ri,rd,rp,rn,rc⟩:=r;have hsv:SlA encSide g1 (.slice rp rn rc) x.sides:=hcr.2.2;have hxn:rn=x.sides.length:=by obtain ⟨q,cc,hq⟩:=za4 hsv; simp at hq; exact hq.2.1
  subst hxn;refine kP (tN (sQ (bK (rZ (aT I (bK ?_))))));refine oP (ι:=Nat) (fun j=>[(3,.slice none 0 0),(4,.slice q rs.length dd),(5,.slice (some ⟨b14,0,none⟩) rs.length rs.length),(6,vi k),(7,vi j)]) (fun _=>g1)
   (fun j=>rowA ji 4 (.slice (some ⟨b14,0,none⟩) rs.length rs.length) (gI A (m++(x.sides.take j).map Side.cell))::pt b1 (.cells #[v] 29 (0,0))::s)
   (fun j=>j≤x.sides.length) (fun j=>x.sides.length - j) 0 sB rfl (by simp) (zf6 _) ?_
  intro j hj;refine sQ (sW I (lM I (lM I (lU (iA aJ aq I I hb1 oM sL) (lU (fC au I bQ I hb1) (lK (aZ (e:=encCell) (o:=2) (u:=.slice rp x.sides.length rc) cZ I hrs.rd hgr I) (lU (eN aY I) (yL I (tZ ?_)))))))));refine iP I (fun hlt2=>?_) (fun hlt2=>?_)
  ·have hjl:j<x.sides.length:=oM;have hb2:=za6 hsv oM;have hgj:x.sides[((j:Nat):Int).toNat]?=some x.sides[j]:=gE hjl;have hms:=Ci hjl m;generalize m++(x.sides.take j).map Side.cell=m2 at *;generalize x.sides[j]=z at *;have hfl2:(gI A m2).length=A.length:=by simp[gI]
   rcases sw hsrt z.cell with ⟨hf0,hat⟩ | ⟨c,kk,hf0,hat,hck⟩
   ·refine kP (tN (sQ (bK (sW I (lM I (lM I (lU (iA aJ aq I I hb1 oM sL) (lU (fC au I bQ I hb1) (lK (aZ (e:=encCell) (o:=2) (u:=.slice rp x.sides.length rc) cZ I hrs.rd hgr I) (lM I (lU (iA aY aI I I hb2 oM sL) (lU (fC dw I zT3 I hb2) (lK (aZ (o:=0) (u:=vi z.cell) iT3 I hsv.rd hgj I) (lW (cL call101 I (ip E g1 _ _ A z.cell hcs hfl hsrt)) ?_))))))))))))));rintro _ _ _ ⟨rfl,rfl,rfl⟩;rw[hat];refine aT I (sW I (lU (SU.eq (v':=vb false) (gQ I I) (ze2 vb (zf7 oM))) (tZ (za1 I (kP (bN (tN (rG (lM I (yD I (lA I (nL ?_))))))))))));exact ST.again (j+1) sB I (by rw[hms,D7 hf0]) oM oM
   ·have hkl2:kk<A.length:=(zf5.1 hck).1;have hset:(gI A m2).set kk true=gI A (m2++[z.cell]):=by rw[CG hnd hck,(cw hf0).2]
    refine kP (tN (sQ (bK (sW I (lM I (lM I (lU (iA aJ aq I I hb1 oM sL) (lU (fC au I bQ I hb1) (lK (aZ (e:=encCell) (o:=2) (u:=.slice rp x.sides.length rc) cZ I hrs.rd hgr I) (lM I (lU (iA aY aI I I hb2 oM sL) (lU (fC dw I zT3 I hb2) (lK (aZ (o:=0) (u:=vi z.cell) iT3 I hsv.rd hgj I) (lW (cL call101 I (ip E g1 _ _ A z.cell hcs hfl hsrt)) ?_))))))))))))));rintro _ _ _ ⟨rfl,rfl,rfl⟩;rw[hat];refine aT I (sW I (lU (SU.eq (v':=vb true) (gQ I I) (ze2 vb (zf8 oM))) (tZ (za2 I (rG (lM I (lM I (lU (iA underlying161 zT4 I I I oM sL) (oZ (sT (e:=ji) (a:=true) 0 zT4 I I I (by rw[hfl2]; omega) I) ?_)))))))));refine nL (bN (tN (rG (lM I (yD I (lA I (nL ?_)))))));exact ST.again (j+1) sB I (by rw[hms,← hset]; rfl) oM oM
  ·have hjj:x.sides.take j=x.sides:=tL oM;rw[hjj,← hsucc];refine xI (tX (tX (bX (bN (tN (rG (lM I (yD I (lA I (nL ?_))))))))));exact ST.again (k+1) sB I I oM oM
 ·have hkk:A.take k=A:=tL oM;rw[hkk];refine xI (tX (tX (bX (tN (sQ (rZ (aT I (bK (cP (zk1 _ _ _) (cP (zk1 _ _ _) (zb6 3 1 ?_)))))))))));refine oP (ι:=Value×Nat) (fun i=>[(3,i.1),(4,.slice q rs.length dd),(5,.slice (some ⟨b14,0,none⟩) rs.length rs.length),(9,vi i.2)]) (fun _=>g1)
   (fun i=>rowA encInt 3 i.1 (((A.take i.2).filter fun c=>!ln A c.id).map Cl.id)::rowA ji 4 (.slice (some ⟨b14,0,none⟩) rs.length rs.length) (gI A (fE A))::pt b1 (.cells #[v] 29 (0,0))::s)
   (fun i=>i.2≤A.length) (fun i=>A.length - i.2) (.slice none 0 0,0) sB rfl rfl (zf6 _) ?_
  rintro ⟨ov,i⟩ hi;dsimp only at hi ⊢;refine sQ (sW I (lM I (lU (eN aJ I) (yL I (tZ ?_)))));refine iP I (fun hlt3=>?_) (fun hlt3=>?_)
  ·have hil:i<A.length:=oM;have hir:i<rs.length:=oM;have hb1:=hrs.based oM;have hcr:=hall.get (gE hil) (gE hir);have hgr:rs[((i:Nat):Int).toNat]?=some rs[i]:=gE hir;have hsucc:=pz hil (fun c=>!ln A c.id) Cl.id;have hlek:=vX A i (fun c=>!ln A c.id) Cl.id;have hgf:(gI A (fE A))[((i:Nat):Int).toNat]?=some (ln A A[i].id):=by rw[← wL]; exact CI (gE hil)
   generalize A[i]=x at *;generalize rs[i]=r at *;refine kP (tN (sQ (bK (sW I (lM I (lU (iA underlying161 zT4 I I I oM sL) (lK (eB (e:=ji) iT4 I (zb7 1 I) hgf I) (lU (SU.not I) (tZ ?_)))))))));refine iQ I (fun htop=>?_) (fun htop=>?_)
   ·refine rG (lM I (lM I (lM I (lU (iA aJ aq I I hb1 oM sL) (lU (fC au I zT3 I hb1) (lK (aZ (e:=encCell) (o:=0) (u:=vi x.id) iT3 I hrs.rd hgr (by rw[← hcr.1]; rfl)) ?_))))));refine lW (bS sty52 I I I (ae sB) dC) ?_;rintro _ _ _ ⟨b64,rfl,rfl,rfl⟩;refine lW (aP (e:=encInt) 0 x.id sty52 I I I I I oM oM) ?_;rintro ov' _ _ ⟨rfl,rfl⟩;refine lA I (nL (bN (tN (rG (lM I (yD I (lA I (nL ?_))))))));refine ST.to (fun w hw=>?_) (g':=g1) (s':=rowA encInt 3 ov' (((A.take (i+1)).filter fun c=>!ln A c.id).map Cl.id)::rowA ji 4 (.slice (some ⟨b14,0,none⟩) rs.length rs.length) (gI A (fE A))::pt b1 (.cells #[v] 29 (0,0))::s) ?_
    ·rw[hsucc,zg1 (by simpa using htop)]; exact hw
    exact ST.again (ov',i+1) sB I I (by dsimp only; omega) lN
   ·refine kP (bN (tN (rG (lM I (yD I (lA I (nL ?_)))))));refine ST.to (fun w hw=>?_) (g':=g1) (s':=rowA encInt 3 ov (((A.take (i+1)).filter fun c=>!ln A c.id).map Cl.id)::rowA ji 4 (.slice (some ⟨b14,0,none⟩) rs.length rs.length) (gI A (fE A))::pt b1 (.cells #[v] 29 (0,0))::s) ?_
    ·rw[hsucc,zf9 (by simpa using htop),zc6]; exact hw
    exact ST.again (ov,i+1) sB I I (by dsimp only; omega) lN
  ·have hii:A.take i=A:=tL oM;rw[hii];refine xI (tX (tX (bX (tN (sW I (aT I (rE (fT fun g2 hle2 hs2=>?_))))))));refine dR (s':=s) uR ?_;exact za8 (.inl I) results49 I ⟨I,hle.trans hle2,hs2⟩
open Go.ChangeShapes Go.WideShapes Go.ChangeAt Go.RowKit
set_option maxRecDepth 100000
section
variable {H:Type}{enc:TypeId×Value→H}{W:World}{base:Nat}{spare:Nat→Bool}{hd:Bool}
end
theorem Bf {α β:Type}{ka:α→Int}{kb:β→Int}{f:α→β}(h:∀ a,kb (f a)=ka a)(x:α):∀ l:List α,ins kb (f x) (l.map f)=(ins ka x l).map f
 | []=>rfl
 | y::r=>by
  simp only[zg4,ins,h];split
  ·rfl
  ·rw[Bf h x r]; rfl
theorem nq {α β:Type}{ka:α→Int}{kb:β→Int}{f:α→β}(h:∀ a,kb (f a)=ka a):∀ l:List α,sortBy kb (l.map f)=(sortBy ka l).map f
 | []=>rfl
 | x::r=>by
  simp only[zg4,sortBy];rw[nq h r,Bf h]
theorem j8 {α:Type}{key:α→Int}(l:List α):(sortBy key l).Perm l:=by
 induction l with
 | nil=>exact .refl _
 | cons x r ih =>
  have h:∀ m:List α,(ins key x m).Perm (x::m):=by
   intro m;induction m with
   | nil=>exact .refl _
   | cons y t iht =>
    simp only[ins];split
    ·exact .refl _
    ·exact (List.Perm.cons _ iht).trans (zk1 _ _ _)
  exact (h _).trans (List.Perm.cons _ ih)
theorem wG {α:Type}{key:α→Int}{l m:List α}(h:l.Perm m)(hn:(l.map key).Nodup):sortBy key l=sortBy key m:=by
 have hst:∀ q:List α,(q.map key).Nodup→(sortBy key q).Pairwise fun a b=>key a<key b:=fun q hq=>by
  have h1:=ck (key:=key) q;have h2:((sortBy key q).map key).Nodup:=((j8 q).map key).symm.nodup hq;have h3:(sortBy key q).Pairwise fun a b=>key a≠key b:=by
   rw[List.nodup_iff_pairwise_ne,zk5] at h2;exact h2
  exact (h1.and h3).imp fun h=>by omega
 have hm:(m.map key).Nodup:=(h.map key).nodup hn;refine List.Perm.eq_of_pairwise (le:=fun a b=>key a<key b) (fun a b _ _ h1 h2=>by omega) (hst l hn) (hst m hm) ?_;exact (j8 l).trans (h.trans (j8 m).symm)
theorem ShL.length {l m:List Cl}(h:ShL l m):l.length=m.length:=by
 obtain ⟨l1,hp,ha⟩:=h;rw[← hp.length_eq,ha.length]
theorem Gp (a b:Nat)(ha:a<18446744073709551616)(hb:b<18446744073709551616):IntKind.u64.wrap ((BitVec.ofInt 64 (a:Int) ||| BitVec.ofInt 64 (b:Int)).toNat:Int)=((a ||| b:Nat):Int):=by
 have h:(BitVec.ofInt 64 (a:Int) ||| BitVec.ofInt 64 (b:Int)).toNat=a ||| b:=by
  rw[BitVec.toNat_or,BitVec.ofInt_natCast,BitVec.ofInt_natCast,BitVec.toNat_ofNat,BitVec.toNat_ofNat,Nat.mod_eq_of_lt ha,Nat.mod_eq_of_lt hb]
 rw[h];have h2:a ||| b<18446744073709551616:=Nat.or_lt_two_pow (n:=64) ha hb;rw[tQ];omega
theorem Gq {A b j:Nat}(hb:b<256)(hj:j≤3)(hA:A * 256 ^ (j+1)<4294967296):IntKind.u64.wrap ((BitVec.ofInt 64 ((A * 256 ^ (j+1):Nat):Int) ||| BitVec.ofInt 64 ((b * 256 ^ j:Nat):Int)).toNat:Int)=(((A * 256+b) * 256 ^ j:Nat):Int):=by
 have e:256 ^ (j+1)=2 ^ (8 * (j+1)):=by rw[Nat.pow_mul]
 have hlt:b * 256 ^ j<256 ^ (j+1):=by
  rw[Nat.pow_succ,Nat.mul_comm (256 ^ j)];exact Nat.mul_lt_mul_of_pos_right hb (Nat.pow_pos dC)
 have hle:256 ^ (j+1)≤4294967296:=zk8 (Nat.pow_le_pow_right (n:=256) dC (show j+1≤4 by omega)) dC;have hor:A * 256 ^ (j+1) ||| b * 256 ^ j=A * 256 ^ (j+1)+b * 256 ^ j:=by
  rw[e] at hlt ⊢;rw[Nat.mul_comm A];exact (Nat.two_pow_add_eq_or_of_lt hlt A).symm
 have hsum:A * 256 ^ (j+1)+b * 256 ^ j=(A * 256+b) * 256 ^ j:=by
  rw[Nat.add_mul,Nat.pow_succ,Nat.mul_assoc,Nat.mul_comm 256]
 clear e;rw[Gp _ _ oM oM,hor,hsum]
theorem iV (n:Nat):dq [(n:Int)]=eV n:=by
 unfold eV;split
 ·rename_i h; subst h; rfl
 ·rename_i h;have:((n:Int) == 0)=false:=by simpa using h
  simp[dq,this]
def xR (B:List UInt8)(i:Nat):List Int:=List.replicate ((B.length+3) / 4) ((beN (B.take i) * 256 ^ (B.length - i):Nat):Int)
theorem CX (l:List UInt8):beN l<256 ^ l.length:=by
 obtain ⟨r,rfl⟩:∃ r,l=List.reverse r:=⟨l.reverse,by simp⟩;induction r with
 | nil=>exact Nat.zero_lt_one
 | cons b t ih =>
  rw[List.reverse_cons,oI,ze5,ze7,Nat.pow_succ];have:=b.toNat_lt;have h:(beN t.reverse+1) * 256≤256 ^ t.reverse.length * 256:=Nat.mul_le_mul_right _ ih;omega
theorem Gn {k:Nat}(h:k≤4):256 ^ k≤4294967296:=zk8 (Nat.pow_le_pow_right dC h) dC
theorem Ez {B:List UInt8}(h:B.length≤4):dq (xR B B.length)=eV (beN B):=by
 unfold xR;rw[List.take_length,Nat.sub_self,Nat.pow_zero,Nat.mul_one];by_cases h0:B=[]
 ·subst h0; rfl
 ·have h1:0<B.length:=List.length_pos_iff.2 h0;rw[show (B.length+3) / 4=1 by omega];exact iV _
theorem shlB (b j:Nat)(hb:b<256)(hj:j≤3):IntKind.u64.wrap ((b:Int) * 2 ^ min (8 * (j:Int)).toNat IntKind.u64.bits)=((b * 256 ^ j:Nat):Int):=by
 rcases (by omega:j=0∨j=1∨j=2∨j=3) with rfl | rfl | rfl | rfl
 ·rw[show (2:Int) ^ min (8 * ((0:Nat):Int)).toNat IntKind.u64.bits=1 by decide,show (256:Nat) ^ 0=1 by decide,tQ]; omega
 ·rw[show (2:Int) ^ min (8 * ((1:Nat):Int)).toNat IntKind.u64.bits=256 by decide,show (256:Nat) ^ 1=256 by decide,tQ]; omega
 ·rw[show (2:Int) ^ min (8 * ((2:Nat):Int)).toNat IntKind.u64.bits=65536 by decide,show (256:Nat) ^ 2=65536 by decide,tQ]; omega
 ·rw[show (2:Int) ^ min (8 * ((3:Nat):Int)).toNat IntKind.u64.bits=16777216 by decide,show (256:Nat) ^ 3=16777216 by decide,tQ]; omega
theorem l9 (E:World)(g:PH)(s:Own)(ng:Bool)(B:List UInt8)(hB:B.length≤4) :
  Ctr Tryz.prog E 185 #[.agg #[vb ng,txt B]] g s (fun r g' s'=>s=s'∧Le g g'∧SlA gz g' r (eV (beN B))):=by
 obtain ⟨q,hq⟩:∃ q,q=(B.length+3) / 4:=⟨_,rfl⟩;refine zb2 (args:=[.agg #[vb ng,txt B]]) func185 I ntmps185 (bE I) ?_;refine rZ (bW (bO I) fun b1=>?_);refine aT I (rZ (lU (fA tP I sizeOf9 I) (lK (qL isAgg9 I (cO 0 I I)) (lU (SU.lenTxt uT9 I) (yD I (lU (sU I I oM) (lU (SU.eq (v':=vi (q:Nat)) (SU.quo I I dC) (ze2 vi (by rw[Int.tdiv_eq_ediv_of_nonneg oM,zk9 _ oM]; omega))) ?_)))))));refine lW (mK gz 0 sty222 I I I oM oM) ?_;rintro _ _ _ ⟨b12,rfl,rfl,rfl⟩;refine aT I (sQ (rZ (lU (fA tP I sizeOf9 I) (lK (qL isAgg9 I (cO 1 I I)) (lU (SU.lenTxt uT9 I) (lM I (tZ (bK ?_))))))));refine oP (ι:=Nat) (fun i=>[(1,pp b1 0),(3,.slice (some ⟨b12,0,none⟩) q q),(15,vi B.length),(16,vi i)]) (fun _=>g) (fun i=>rowA gz 145 (.slice (some ⟨b12,0,none⟩) q q) (xR B i)::pt b1 (.cells #[vb ng,txt B] 80 (0,0))::s) (fun i=>i≤B.length) (fun i=>B.length - i) 0
  sB rfl (by unfold xR; rw[hq]; simp[beN]; rfl) (zf6 _) ?_
 intro i hi;refine rZ (yL I (tZ (sQ ?_)));refine iP I (fun hlt=>?_) (fun hlt=>?_)
 ·have hlt:i<B.length:=oM;have hq1:q=1:=oM;obtain ⟨k,hk⟩:∃ k,k=B.length - 1 - i:=⟨_,rfl⟩;have hk3:k≤3:=oM;have hx:B[((i:Nat):Int).toNat]?=some B[i]:=gE hlt;have hacc:xR B i=[((beN (B.take i) * 256 ^ (k+1):Nat):Int)]:=by
   unfold xR;rw[← hq,hq1,show B.length - i=k+1 by omega];rfl
  have hacc':xR B (i+1)=[(((beN (B.take i) * 256+B[i].toNat) * 256 ^ k:Nat):Int)]:=by
   unfold xR;rw[← hq,hq1,show B.length - (i+1)=k by omega,tS hlt,oI];rfl
  have hA:beN (B.take i) * 256 ^ (k+1)<4294967296:=by
   have h1:=CX (B.take i);rw[ze4,Nat.min_eq_left oM] at h1;have h2:beN (B.take i) * 256 ^ (k+1)<256 ^ i * 256 ^ (k+1):=Nat.mul_lt_mul_of_pos_right h1 (Nat.pow_pos dC);rw[← Nat.pow_add] at h2;exact Nat.lt_of_lt_of_le h2 (Gn oM)
  have hb:=B[i].toNat_lt;have hor:=Gq (A:=beN (B.take i)) (b:=B[i].toNat) hb hk3 hA;rw[hacc];generalize B[i]=b at *;subst hq1;refine kP (tN (sQ (bK (sW I (aT I (rZ (lU (fA tP I sizeOf9 I) (lK (qL isAgg9 I (cO 1 I I)) (lU (SU.lenTxt uT9 I) (lU (sU I I oM) (lM I (lU (SU.eq (v':=vi (k:Nat)) (sU I I oM) (ze2 vi oM)) (aT I ?_)))))))))))));refine dW [16] [(0,2),(1,2),(2,2),(3,2),(4,1),(5,2),(6,1),(7,2),(8,2),(9,2),(10,2),(11,2),(12,2),(13,2),(14,2),(15,2),(16,0)] ze3 kR ?_;refine yM I (yM I (pU I (SU.eq (v':=vi (0:Nat)) (SU.quo I I dC) (ze2 vi (by rw[Int.tdiv_eq_ediv_of_nonneg oM,zk9 _ oM]; omega))) ?_));refine pU I (iA bo dH I I I oM (by simp[slen])) ?_;refine pK I (eB iS I (zb7 0 I) (j:=0) I I) (pU I (fA tP I sizeOf9 I) (pK I (qL isAgg9 I (cO 1 I I)) (yM I (pU I (SU.txtAt uT9 I I oM hx) (pU I (SU.eq (v':=.int .u64 (b.toNat:Int)) (zd9 uT5 mO I) (ze2 (Value.int .u64) (by rw[tQ]; omega))) ?_)))));refine yM I (pU I (SU.eq (v':=vi (k:Nat)) (zd8 I I dC) (ze2 vi (by rw[Int.tmod_eq_emod_of_nonneg oM]; omega))) ?_);refine pU I (SU.mul I I oM) (pU I (SU.eq (v':=.int .u64 ((b.toNat * 256 ^ k:Nat):Int)) (SU.shl I I oM) (ze2 (Value.int .u64) (shlB _ _ hb hk3))) (pU I (SU.eq (v':=.int .u64 (((beN (B.take i) * 256+b.toNat) * 256 ^ k:Nat):Int)) (SU.or I I) (ze2 (Value.int .u64) hor)) (pU I (iA bo dH I I I oM (by simp[slen])) ?_)));refine SP.on I (sT (e:=gz) (a:=(((beN (B.take i) * 256+b.toNat) * 256 ^ k:Nat):Int)) (j:=0) 0 dH I I I (bE I) I) (.inl dC) ?_;rintro _ _ _ ⟨rfl,rfl⟩;refine pN (bN (tN (rG (yD I (lM I (nL ?_))))));exact ST.again (i+1) ⟨I,I,I,E9 I oM,trivial⟩ I (by rw[hacc']; rfl) oM oM
 ·have hi':i=B.length:=oM;subst hi';have hlen:(xR B B.length).length=q:=by unfold xR; rw[List.length_replicate,hq]
  refine xI (tX (tX (bX (tN (sQ (fS fun g1 hle hs=>?_))))));refine rG (lM I (lW (cL call232 I (jZ E g1 _ _ (xR B B.length) hs oM)) ?_));rintro v43 _ _ ⟨rfl,rfl,hm⟩;refine aT I (rE ?_);rw[Ez hB] at hm;refine dR (s':=s) uR ?_;exact za8 (.inl I) results185 I ⟨I,hle,hm⟩
theorem cd (n:Nat):eV n=[]∧n=0∨eV n=[(n:Int)]∧n≠0:=by
 unfold eV;split
 ·exact .inl ⟨I,by assumption⟩
 ·exact .inr ⟨I,by assumption⟩
theorem nh (n:Nat):dq [(n:Int),0]=eV n:=by
 rw[← iV n];simp[dq]
theorem jY (m:Nat)(k:Int)(hk:32≤k)(hk2:k≤64)(h:m<4294967296):(m:Int).fdiv (2 ^ min k.toNat IntKind.u64.bits)=0:=by
 have h1:min k.toNat IntKind.u64.bits=k.toNat:=Nat.min_eq_left (by simp only[IntKind.bits]; omega);have h2:(2:Int) ^ k.toNat=((2 ^ k.toNat:Nat):Int):=by simp
 rw[h1,h2,oE];have h3:2 ^ 32≤2 ^ k.toNat:=Nat.pow_le_pow_right dC oM;have h4:(2:Nat) ^ 32=4294967296:=by decide
 rw[h4] at h3;rw[Nat.div_eq_of_lt oM];rfl
theorem Da {n:Int}(h:0≤n∧n<18446744073709551616):IntKind.u64.wrap n=n:=by rw[tQ]; omega
def E3 (la:List Int)(n:Nat)(i:Nat):List Int:=if i=0 then List.replicate (la.length+1) 0 else [(n:Int),0]
theorem w8 (E:World)(g:PH)(s:Own)(v u:Value)(n m:Nat)(hv:SlA gz g v (eV n))(hu:SlA gz g u (eV m))(h:n+m<4294967296) :
  Ctr Tryz.prog E 229 #[v,u] g s (fun r g' s'=>s=s'∧Le g g'∧SlA gz g' r (eV (n+m))):=by
 obtain ⟨p1,c1,rfl⟩:=za4 hv;obtain ⟨p2,c2,rfl⟩:=za4 hu;have hl0:∀ k,(eV k).length≤1:=fun k=>by rcases cd k with ⟨h,-⟩ | ⟨h,-⟩ <;> rw[h] <;> simp
 have hl1:=hl0 n;have hl2:=hl0 m;refine zb2 (args:=[.slice p1 (eV n).length c1,.slice p2 (eV m).length c2]) func229 I ntmps229 (bE I) ?_;refine rZ (aT I ?_);refine SC.cut (ι:=Value×Value×Nat×Nat) (fun q=>[(0,q.1),(1,q.2.1)]) (fun _=>g) (fun _=>s) (fun q=>SlA gz g q.1 (eV q.2.2.1)∧SlA gz g q.2.1 (eV q.2.2.2)∧q.2.2.1+q.2.2.2=n+m∧(eV q.2.2.2).length≤(eV q.2.2.1).length) ?_ ?_
 ·refine sW I (lU (eN bo I) (lM I (lU (eN bo I) (yL I (tZ ?_)))));refine iP I (fun hlt=>?_) (fun hlt=>?_)
  ·refine rG (lM I (lM I (lA I (lA I (nL ?_)))));exact za9 (_,_,m,n) sB I I ⟨hu,hv,Nat.add_comm _ _,by dsimp only; omega⟩
  ·refine kP ?_;exact za9 (_,_,n,m) sB I I ⟨hv,hu,I,by dsimp only; omega⟩
 clear hv hu hl1 hl2 p1 p2 c1 c2;rintro ⟨v,u,a,b⟩ ⟨hv,hu,hab,hle⟩;dsimp only at hv hu hab hle ⊢;rw[← hab] at h ⊢;clear hab n m;obtain ⟨p1,c1,rfl⟩:=za4 hv;obtain ⟨p2,c2,rfl⟩:=za4 hu;have hl1:=hl0 a;have hl2:=hl0 b;have hca:=cd a;have hcb:=cd b;generalize eV a=la at *;generalize eV b=lb at *;refine sW I (lU (eN bo I) (lU (SU.eq (v':=vi ((la.length+1:Nat))) (aD I I oM) (ze2 vi oM)) (lW (mK gz 0 sty222 I I I oM oM) ?_)));rintro _ _ _ ⟨b19,rfl,rfl,rfl⟩;refine aT I (rZ (aT I (sQ (sW I (lU (eN bo I) (lM I (tZ (bK ?_))))))));refine oP (ι:=Nat) (fun i=>[(0,.slice p1 la.length c1),(1,.slice p2 lb.length c2),(5,.slice (some ⟨b19,0,none⟩) (la.length+1) (la.length+1)),(6,.int .u64 0),(21,vi la.length),(22,vi i)]) (fun _=>g) (fun i=>rowA gz 145 (.slice (some ⟨b19,0,none⟩) (la.length+1) (la.length+1)) (E3 la (a+b) i)::s) (fun i=>i≤la.length) (fun i=>la.length - i) 0
  sB rfl rfl (zf6 _) ?_
 intro i hi;refine rZ (yL I (tZ (sQ ?_)));refine iP I (fun hlt=>?_) (fun hlt=>?_)
 ·rcases hca with ⟨rfl,ha⟩ | ⟨rfl,ha⟩
  ·exact absurd hlt (by simp)
  obtain rfl:i=0:=by simp at hi hlt; omega
  have hb1:=za6 hv Nat.zero_lt_one;refine kP (tN (sQ (bK (sW I (aT I (sW I (lM I (lU (iA bo dH I I hb1 dC (by simp[slen])) ?_))))))));refine lK (eB iS I (za7 hv) (j:=0) I I) (lM I (lU (SU.eq (v':=.int .u64 (a:Int)) (ze1 I I) (ze2 (Value.int .u64) (by rw[Da oM]; omega))) ?_));refine aT I (sQ (sW I (lM I (lU (eN bo I) (yL I (tZ ?_))))));refine iP I (fun hl=>?_) (fun hl=>?_)
  ·rcases hcb with ⟨rfl,hb⟩ | ⟨rfl,hb⟩
   ·exact absurd hl (by simp)
   have hb2:=za6 hu Nat.zero_lt_one;refine rG (lM I (lM I (lM I (lU (iA bo dH I I hb2 dC (by simp[slen])) ?_))));refine lK (eB iS I (za7 hu) (j:=0) I I) (lU (SU.eq (v':=.int .u64 ((a+b:Nat):Int)) (ze1 I I) (ze2 (Value.int .u64) (by rw[Da oM]; omega))) ?_);refine aT I (rG (lM I (lM I (lM I (lU (SU.eq (v':=.int .u64 ((a+b:Nat):Int)) (SU.and I I) (ze2 (Value.int .u64) (by rw[qR _ oM,Nat.mod_eq_of_lt h]))) ?_)))));refine lM I (lU (SU.eq (v':=.int .u64 0) (SU.shr I I dC) (ze2 (Value.int .u64) (jY _ _ dC dC h))) (lU (iA bo dH I I I dC (by simp[slen])) ?_));refine oZ (sT (e:=gz) (a:=((a+b:Nat):Int)) (j:=0) 0 dH I I I (bE I) I) (lA I (nL (bN (tN (rG (yD I (lM I (nL ?_))))))));exact ST.again 1 sB I I (lR _) Nat.zero_lt_one
  ·rcases hcb with ⟨rfl,hb⟩ | ⟨rfl,hb⟩
   rotate_left
   ·exact absurd hl (by simp)
   subst hb;rw[Nat.add_zero] at h ⊢;refine kP (tN (rG (lM I (lM I (lM I (lU (SU.eq (v':=.int .u64 ((a:Nat):Int)) (SU.and I I) (ze2 (Value.int .u64) (by rw[qR _ oM,Nat.mod_eq_of_lt h]))) ?_))))));refine lM I (lU (SU.eq (v':=.int .u64 0) (SU.shr I I dC) (ze2 (Value.int .u64) (jY _ _ dC dC h))) (lU (iA bo dH I I I dC (by simp[slen])) ?_));refine oZ (sT (e:=gz) (a:=((a:Nat):Int)) (j:=0) 0 dH I I I (bE I) I) (lA I (nL (bN (tN (rG (yD I (lM I (nL ?_))))))));exact ST.again 1 sB I I (lR _) Nat.zero_lt_one
 ·obtain rfl:i=la.length:=oM;have hlen:(E3 la (a+b) la.length).length=la.length+1:=by
   unfold E3;split
   ·simp
   ·simp; omega
  have hfin:dq ((E3 la (a+b) la.length).set la.length 0)=eV (a+b):=by
   rcases hca with ⟨rfl,ha⟩ | ⟨rfl,ha⟩
   ·rcases hcb with ⟨rfl,hb⟩ | ⟨rfl,hb⟩
    ·subst ha hb; rfl
    ·simp at hle
   ·exact nh _
  refine xI (tX (tX (bX (tN (sW I (lM I (lU (eN bo I) (lM I (lU (iA bo dH I I I oM sL) (oZ (sT (e:=gz) (a:=0) (j:=la.length) 0 dH I I I oM I) (tZ (sQ ?_))))))))))));refine SC.to (g':=g) (s':=rowA gz 145 (.slice (some ⟨b19,0,none⟩) (la.length+1) (la.length+1)) ((E3 la (a+b) la.length).set la.length 0)::s) (fun w hw=>hw) ?_;refine fS fun g1 hle1 hs1=>?_;refine rG (lM I (lW (cL call232 I (jZ E g1 _ _ ((E3 la (a+b) la.length).set la.length 0) (by unfold SlA; rw[zi3,hlen]; rw[zi3,hlen] at hs1; exact hs1) (by rw[zi3]; omega))) ?_));rintro v55 _ _ ⟨rfl,rfl,hm⟩;refine aT I (rE ?_);rw[hfin] at hm;exact za8 (.inl I) results229 I ⟨I,hle1,hm⟩
def C4 (a b:Nat):Int:=if a<b then -1 else if b<a then 1 else 0
theorem w4 (E:World)(g:PH)(s:Own)(v u:Value)(n m:Nat)(hv:SlA gz g v (eV n))(hu:SlA gz g u (eV m)) :
  Ctr Tryz.prog E 230 #[v,u] g s (fun r g' s'=>r=vi (C4 n m)∧g=g'∧s=s'):=by
 obtain ⟨p1,c1,rfl⟩:=za4 hv;obtain ⟨p2,c2,rfl⟩:=za4 hu
 rcases cd n with ⟨h1,ha⟩ | ⟨h1,ha⟩
 ·rcases cd m with ⟨h2,hb⟩ | ⟨h2,hb⟩
  ·rw[h1] at hv ⊢;rw[h2] at hu ⊢;subst ha hb;refine zb2 (args:=[.slice p1 0 c1,.slice p2 0 c2]) func230 I ntmps230 (bE I) ?_;refine rZ (aT I (sQ (bK (sW I (lU (eN bo I) (lM I (lU (eN bo I) (yL I (aT I (za1 I (sW I (lU (eN bo I) (lM I (lU (eN bo I) (lU (gR I I) (aT I (za1 I (kP ?_))))))))))))))))));refine bN (tN (sQ (sW I (lU (eN bo I) (lU (sU I I oM) (aT I (bK ?_)))))));refine oP (ι:=Unit) (fun _=>[(5,vi (-1))]) (fun _=>g) (fun _=>s) (fun _=>True) (fun _=>0) () ⟨I,trivial⟩ I I trivial ?_;intro _ _;refine sQ (sW I (lU (gQ I I) (tZ (za1 I (xI (tX (tX (bX (tN (rZ (aT I (rE ?_))))))))))));exact za8 (.inl I) results230 I ⟨I,I,I⟩
  ·rw[h1] at hv ⊢;rw[h2] at hu ⊢;subst ha;refine zb2 (args:=[.slice p1 0 c1,.slice p2 1 c2]) func230 I ntmps230 (bE I) ?_;refine rZ (aT I (sQ (bK (sW I (lU (eN bo I) (lM I (lU (eN bo I) (yL I (aT I (za2 I (rZ (aT I (rE (bR (tR ?_)))))))))))))));exact za8 (.inl I) results230 I ⟨ze2 vi (by unfold C4; rw[zg1 oM]),I,I⟩
 ·rcases cd m with ⟨h2,hb⟩ | ⟨h2,hb⟩
  ·rw[h1] at hv ⊢;rw[h2] at hu ⊢;subst hb;refine zb2 (args:=[.slice p1 1 c1,.slice p2 0 c2]) func230 I ntmps230 (bE I) ?_;refine rZ (aT I (sQ (bK (sW I (lU (eN bo I) (lM I (lU (eN bo I) (yL I (aT I (za1 I (sW I (lU (eN bo I) (lM I (lU (eN bo I) (lU (gR I I) (aT I (za2 I (sQ ?_))))))))))))))))));refine rG (aT I (rE (bR (tR ?_))));exact za8 (.inl I) results230 I ⟨ze2 vi (by unfold C4; rw[zf9 oM,zg1 oM]),I,I⟩
  ·rw[h1] at hv ⊢;rw[h2] at hu ⊢;have hb1:=za6 hv Nat.zero_lt_one;have hb2:=za6 hu Nat.zero_lt_one;refine zb2 (args:=[.slice p1 1 c1,.slice p2 1 c2]) func230 I ntmps230 (bE I) ?_;refine rZ (aT I (sQ (bK (sW I (lU (eN bo I) (lM I (lU (eN bo I) (yL I (aT I (za1 I (sW I (lU (eN bo I) (lM I (lU (eN bo I) (lU (gR I I) (aT I (za1 I (kP ?_))))))))))))))))));refine bN (tN (sQ (sW I (lU (eN bo I) (lU (sU I I oM) (aT I (bK ?_)))))));refine oP (ι:=Nat) (fun i=>[(0,.slice p1 1 c1),(1,.slice p2 1 c2),(5,vi ((i:Int) - 1))]) (fun _=>g) (fun _=>s) (fun i=>i≤1∧(i=0→n=m)) (fun i=>i) 1 sB I I ⟨lR _,fun h=>absurd h dC⟩ ?_;rintro i ⟨hi,hz⟩;refine sQ (sW I (lU (gQ I I) (tZ ?_)));refine iP I (fun hge=>?_) (fun hge=>?_)
   ·obtain rfl:i=1:=oM;refine kP (tN (sQ (bK (bK (sQ ?_)))));refine dW [] [(0,2),(1,2),(2,2),(3,1),(4,2),(5,2),(6,2),(7,1),(8,2),(9,2)] ze3 kR ?_;refine yM I (yM I (pU I (iA bo dH I I hb1 dC (by simp[slen])) ?_));refine pK I (eB iS I (za7 hv) (j:=0) I I) (yM I (yM I (pU I (iA bo dH I I hb2 dC (by simp[slen])) ?_)));refine pK I (eB iS I (za7 hu) (j:=0) I I) (pU I (lS I I) (pU I (aS I) (pN (tN ?_))));refine iP I (fun hlt=>?_) (fun hlt=>?_)
    ·refine rZ (aT I (rE (bR (bR (tR (tR (bR (tR ?_))))))));exact za8 (.inl I) results230 I ⟨ze2 vi (by unfold C4; rw[zg1 oM]),I,I⟩
    ·refine sQ ?_;refine dW [] [(0,2),(1,2),(2,2),(3,1),(4,2),(5,2),(6,2),(7,1),(8,2),(9,2)] ze3 kR ?_;refine yM I (yM I (pU I (iA bo dH I I hb1 dC (by simp[slen])) ?_));refine pK I (eB iS I (za7 hv) (j:=0) I I) (yM I (yM I (pU I (iA bo dH I I hb2 dC (by simp[slen])) ?_)));refine pK I (eB iS I (za7 hu) (j:=0) I I) (pU I (gR I I) (pU I (aS I) (pN (tN ?_))));refine iP I (fun hgt=>?_) (fun hgt=>?_)
     ·refine rZ (aT I (rE (bR (bR (tR (tR (bR (tR ?_))))))));exact za8 (.inl I) results230 I ⟨ze2 vi (by unfold C4; rw[zf9 oM,zg1 oM]),I,I⟩
     ·refine kP (bN (bN (tN (rG (lM I (lU (sU I I oM) (lA I (nL ?_))))))));exact ST.again 0 sB I I ⟨by decide,fun _=>by omega⟩ dC
   ·refine xI (tX (tX (bX (tN (rZ (aT I (rE ?_)))))));have hnm:=hz oM;exact za8 (.inl I) results230 I ⟨ze2 vi (by unfold C4; rw[zf9 oM,zf9 oM]),I,I⟩
def FY (la:List Int)(n:Nat)(i:Nat):List Int:=if i=0 then List.replicate la.length 0 else [(n:Int)]
theorem qq (E:World)(g:PH)(s:Own)(v u:Value)(a b:Nat)(hv:SlA gz g v (eV a))(hu:SlA gz g u (eV b))(hab:b≤a)(h:a<4294967296) :
  Ctr Tryz.prog E 231 #[v,u] g s (fun r g' s'=>s=s'∧Le g g'∧SlA gz g' r (eV (a - b))):=by
 obtain ⟨p1,c1,rfl⟩:=za4 hv;obtain ⟨p2,c2,rfl⟩:=za4 hu;have hl0:∀ k,(eV k).length≤1:=fun k=>by rcases cd k with ⟨h,-⟩ | ⟨h,-⟩ <;> rw[h] <;> simp
 have hl1:=hl0 a;have hl2:=hl0 b;have hca:=cd a;have hcb:=cd b;generalize eV a=la at *;generalize eV b=lb at *;refine zb2 (args:=[.slice p1 la.length c1,.slice p2 lb.length c2]) func231 I ntmps231 (bE I) ?_;refine rZ (aT I (sW I (lU (eN bo I) (lW (mK gz 0 sty222 I I I oM oM) ?_))));rintro _ _ _ ⟨b11,rfl,rfl,rfl⟩;refine aT I (rZ (aT I (sQ (sW I (lU (eN bo I) (lM I (tZ (bK ?_))))))));refine oP (ι:=Nat) (fun i=>[(0,.slice p1 la.length c1),(1,.slice p2 lb.length c2),(5,.slice (some ⟨b11,0,none⟩) la.length la.length),(6,.int .u64 0),(13,vi la.length),(14,vi i)]) (fun _=>g) (fun i=>rowA gz 145 (.slice (some ⟨b11,0,none⟩) la.length la.length) (FY la (a - b) i)::s) (fun i=>i≤la.length) (fun i=>la.length - i) 0
  sB rfl rfl (zf6 _) ?_
 intro i hi;refine rZ (yL I (tZ (sQ ?_)));refine iP I (fun hlt=>?_) (fun hlt=>?_)
 ·rcases hca with ⟨rfl,ha⟩ | ⟨rfl,ha⟩
  ·exact absurd hlt (by simp)
  obtain rfl:i=0:=by simp at hi hlt; omega
  have hb1:=za6 hv Nat.zero_lt_one;refine kP (tN (sQ (bK (sW I (aT I (sW I (lM I (lU (iA bo dH I I hb1 dC (by simp[slen])) ?_))))))));refine lK (eB iS I (za7 hv) (j:=0) I I) (lM I (lU (SU.eq (v':=.int .u64 (a:Int)) (SU.subW I I) (ze2 (Value.int .u64) (by rw[Da oM]; omega))) ?_));refine aT I (sQ (sW I (lM I (lU (eN bo I) (yL I (tZ ?_))))));refine iP I (fun hl=>?_) (fun hl=>?_)
  ·rcases hcb with ⟨rfl,hb⟩ | ⟨rfl,hb⟩
   ·exact absurd hl (by simp)
   have hb2:=za6 hu Nat.zero_lt_one;have hs:a - b<4294967296:=oM;refine rG (lM I (lM I (lM I (lU (iA bo dH I I hb2 dC (by simp[slen])) ?_))));refine lK (eB iS I (za7 hu) (j:=0) I I) (lU (SU.eq (v':=.int .u64 ((a - b:Nat):Int)) (SU.subW I I) (ze2 (Value.int .u64) (by rw[Da oM]; omega))) ?_);refine aT I (rG (lM I (lM I (lM I (lU (SU.eq (v':=.int .u64 ((a - b:Nat):Int)) (SU.and I I) (ze2 (Value.int .u64) (by rw[qR _ oM,Nat.mod_eq_of_lt hs]))) ?_)))));refine lM I (lU (SU.eq (v':=.int .u64 0) (SU.shr I I dC) (ze2 (Value.int .u64) (jY _ _ dC dC hs))) (lU (iA bo dH I I I dC (by simp[slen])) ?_));refine oZ (sT (e:=gz) (a:=((a - b:Nat):Int)) (j:=0) 0 dH I I I (bE I) I) (lA I (nL (bN (tN (rG (yD I (lM I (nL ?_))))))));exact ST.again 1 sB I I (lR _) Nat.zero_lt_one
  ·rcases hcb with ⟨rfl,hb⟩ | ⟨rfl,hb⟩
   rotate_left
   ·exact absurd hl (by simp)
   subst hb;rw[Nat.sub_zero];refine kP (tN (rG (lM I (lM I (lM I (lU (SU.eq (v':=.int .u64 ((a:Nat):Int)) (SU.and I I) (ze2 (Value.int .u64) (by rw[qR _ oM,Nat.mod_eq_of_lt h]))) ?_))))));refine lM I (lU (SU.eq (v':=.int .u64 0) (SU.shr I I dC) (ze2 (Value.int .u64) (jY _ _ dC dC h))) (lU (iA bo dH I I I dC (by simp[slen])) ?_));refine oZ (sT (e:=gz) (a:=((a:Nat):Int)) (j:=0) 0 dH I I I (bE I) I) (lA I (nL (bN (tN (rG (yD I (lM I (nL ?_))))))));exact ST.again 1 sB I I (lR _) Nat.zero_lt_one
 ·obtain rfl:i=la.length:=oM;have hlen:(FY la (a - b) la.length).length=la.length:=by
   unfold FY;split
   ·simp
   ·simp; omega
  have hfin:dq (FY la (a - b) la.length)=eV (a - b):=by
   rcases hca with ⟨rfl,ha⟩ | ⟨rfl,ha⟩
   ·subst ha;rw[Nat.zero_sub]; rfl
   ·exact iV _
  refine xI (tX (tX (bX (tN (sQ (fS fun g1 hle1 hs1=>?_))))));refine rG (lM I (lW (cL call232 I (jZ E g1 _ _ (FY la (a - b) la.length) (by unfold SlA; rw[hlen]; rw[hlen] at hs1; exact hs1) oM)) ?_));rintro v42 _ _ ⟨rfl,rfl,hm⟩;refine aT I (rE ?_);rw[hfin] at hm;exact za8 (.inl I) results231 I ⟨I,hle1,hm⟩
end Go.Proofs.YtbbppeihhkhkcaaGreatDoor
