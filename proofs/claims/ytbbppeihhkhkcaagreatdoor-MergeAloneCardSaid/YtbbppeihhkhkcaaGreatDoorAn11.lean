/- 11 -/
import Derived.Test.YtbbppeihhkhkcaaGreatDoorAn10
import Derived.Scope
import Derived.Shelf.SlSortCmp.NoneTotal
set_option linter.unusedSimpArgs false
set_option linter.unusedVariables false
namespace Go.Sy
open Go
def Ey (P:Program)(E:World)(gf:FuncId)(lb:List Value){α:Type}(encs:α→List Value)(xs:List α)(g0:PH):Prop :=
 ∀ (l:Nat) (ι:Type) (G:ι→PH) (S:ι→Own) (J:List α→ι→Prop) (i0:ι),J [] i0→(∀ pre i,J pre i→Le g0 (G i))→(∀ pre i g',J pre i→Le (G i) g'→∃ i',J pre i'∧G i'=g'∧S i'=S i) →
  (∀ pre x suf i sx,xs=pre++x::suf→J pre i→wn P E l (encs x).toArray (G i) (S i++sx) (fun v g' s'=>v = .bool true∧∃ j,J (pre++[x]) j∧Le (G i) (G j)∧g'=G j∧s'=S j++sx)) →
  ∀ sx,Ctr P E gf (.func (.yield l) #[] #[]::lb).toArray (G i0) (S i0++sx) (fun _ g' s'=>∃ j,J xs j∧g'=G j∧s'=S j++sx)
section
variable {P:Program}{M:Md}{N:Nat}{E:World}{Q:Exit→Act→World→Prop}{f:Fr}{g:PH}{s:Own}{dst:Option Tmp}{ty:TypeId}{pos:String}{af:Array Edge}{gd:Option (Nat×Bool)}
def o4 {α ι:Type}(E:World)(G:ι→PH)(S:ι→Own)(J:List α→ι→Prop)(pre:List α)(x:α)(g:PH)(sx:Own):Exit→Act→World→Prop:=fun e _ w'=>e = .normal∧∃ j,At E (G j) (S j++sx) w'∧J (pre++[x]) j∧Le g (G j)
theorem XT.roundEnd2 {α ι:Type}{G:ι→PH}{S:ι→Own}{J:List α→ι→Prop}{pre:List α}{x:α}{g1:PH}{sx:Own}(j:ι)(hg:G j=g)(a:S j++sx=s)(b:J (pre++[x]) j)(hl:Le g1 (G j)):XT M N E (o4 E G S J pre x g1 sx) .normal f g s:=fun _ _ _ c=>⟨rfl,j,by rw[hg,a]; exact c,b,hl⟩
theorem XC.rangeFuncB {α ι κ:Type}{gop:Operand}{ps:Array Tmp}{assign body:Code}{gf:FuncId}{lb:List Value}{encs:α→List Value}{xs:List α}{g0:PH}(G:ι→PH)(S:ι→Own)(J:List α→ι→Prop)(i0:ι)(sx0:Own)(fa:α→Fr)(fb:List α→α→ι→κ→Fr)(X:α→κ→Own)
  (a0:M.ro=none) (hg:ev f gop=some (.func (.func gf) #[] lb.toArray)) (eg:∀ args w,(callFunc gf args).run P w = .ok (.enter gf args) w) (a4:∀ x,(encs x).length=ps.size)
  (hG:G i0=g) (hS:S i0++sx0=s) (T:Ey P E gf lb encs xs g0) (z:∀ b i,J b i→Le g0 (G i)) (a5:∀ b i g',J b i→Le (G i) g'→∃ i',J b i'∧G i'=g'∧S i'=S i) (h0:J [] i0)
  (a9:∀ x a,Ok N f (jH a)→Ok N (fa x) { tmps:=(ps.zip (encs x).toArray).foldl (fun t (p,v)=>t.setIfInBounds p v) a.tmps,defers:=[] })
  (o:∀ l b x i sx,J b i→XC P ⟨some l,[]⟩ N E assign (ne (N:=N) E (G i) (S i++sx) (fb b x i)<|X x) (fa x) (G i) (S i++sx))
  (A:∀ l b x suf i sx q,(∃ (r:Loop) (k:Nat),sx[k]?=some (pt l<|.loop r))→xs=b++x::suf→J b i→XC P ⟨some l,[]⟩ N E body (o4 E G S J b x (G i) sx) (fb b x i q) (G i) (X x q++(S i++sx)))
  (B:∀ D j,J xs j→XT ⟨none,⟨.collected D,#[]⟩::M.ds⟩ N E Q .normal f (G j) (pt D (.deferred<|some [])::(S j++sx0))):XC P M N E (.rangeFunc gop ps assign body) Q f g s:=by
 subst hG hS;intro a w ha hw;rw[a0];refine wpIn_rangeFunc ?_;intro fn _;obtain ⟨c,d⟩:∃ c:LoopState→Option Code→Loop,c=fun st pe=>{ state:=st,pending:=pe,fn,tmps:=a.tmps,params:=ps,assign,body,defers:=w.heap.size }:=⟨_,rfl⟩;obtain ⟨L,hL⟩:∃ L,L=w.heap.size+1:=⟨_,rfl⟩;obtain ⟨D,hD⟩:∃ D,D=w.heap.size:=⟨_,rfl⟩;obtain ⟨W1,U⟩:∃ W1,(w.alloc<|.deferred<|some []).alloc (.loop<|c .ready none)=W1:=⟨_,rfl⟩;have hA:At E (G i0) (pt L (.loop<|c .ready none)::pt D (.deferred<|some [])::(S i0++sx0)) W1:=by
  rw[← U,hL,hD];have C:At E (G i0) (pt w.heap.size (.deferred<|some [])::(S i0++sx0)) (w.alloc<|.deferred<|some []):=hw.alloc (e:=pt w.heap.size<|.deferred<|some []) rfl rfl;have F:=C.alloc (e:=pt (w.alloc<|.deferred<|some []).heap.size<|.loop<|c .ready none) rfl rfl;rw[World.size_alloc] at F;exact F
 obtain ⟨S2,y⟩:∃ S2:ι→Own,S2=fun i=>S i++(pt L (.loop<|c .ready none)::pt D (.deferred<|some [])::sx0):=⟨_,rfl⟩;have b0:At E (G i0) (S2 i0++[]) W1:=by
  rw[y,zc7];dsimp only;refine hA.perm ?_;have C:(pt L (.loop<|c .ready none)::pt D (.deferred<|some [])::(S i0++sx0))=[pt L<|.loop<|c .ready none,pt D<|.deferred<|some []]++(S i0++sx0):=rfl;have F:S i0++(pt L (.loop<|c .ready none)::pt D (.deferred<|some [])::sx0)=S i0++([pt L<|.loop<|c .ready none,pt D<|.deferred<|some []]++sx0):=rfl;rw[C,F,← zh1,← zh1];exact List.perm_append_comm.append_right _
 refine⟨L,[{ target:=.collected D,args:=#[] }],W1,{ target:=.fn (.func gf) lb.toArray,args:=#[.func (.yield L) #[] #[]] },W1,gf,(.func (.yield L) #[] #[]::lb).toArray,W1,?_,?_,fun _ _=>trivial,?_,fun h=>(by cases h),?_⟩
 ·rw[← U,d,hL,hD]; exact run_enterLoop_outer _ _ _ _ _
 ·have C:a.eval gop = .func (.func gf) #[] lb.toArray:=ha.ev hg;simp only[resolve,C];simp[go_sem]
 ·have:(#[.func (.yield L) #[] #[]]++lb.toArray:Array Value)=(.func (.yield L) #[] #[]::lb).toArray:=by simp
  simp[invoke,go_sem,eg]
 ·refine (callsIn_wide (n:=0 - 1)).2<|(T L ι G S2 J i0 h0 z (fun b i g' R hl=>by obtain ⟨i',a1,a2,a3⟩:=a5 b i g' R hl; exact⟨i',a1,a2,by rw[y]; dsimp only; rw[a3]⟩) ?_ [] W1 b0).mono ?_
  ·intro b x suf i sx b1 R W hW;rw[y] at hW;simp only[zh1,List.cons_append] at hW;have b8:(S i).length=(S i).length:=rfl;have gl:∀ (i:ι) (u u':Ent) (r:Own),(S i++u::u'::r)[(S i).length]?=some u:=fun i u u' r=>by simp
   have hl:=hW.here<|gl i _ _ _;have hy:=run_yield (P:=P) (args:=(encs x).toArray) hl (by rw[d]; simpa using a4 x);rw[d] at hy;refine⟨fn,_,assign,body,hy,roundIn_of_wpIn trivial ?_⟩;refine Code.wpIn_mono (fun e a1 w1 C=>?_)<|o L b x i _ R { tmps:=(ps.zip (encs x).toArray).foldl (fun t (p,v)=>t.setIfInBounds p v) a.tmps,defers:=[] } W ⟨I,a9 x a ha.2⟩ hW;obtain ⟨rfl,q,b2,V⟩:=C;have glX:∀ (X:Own) (i:ι) (u u':Ent) (r:Own),(X++(S i++u::u'::r))[X.length+(S i).length]?=some u:=fun X i u u' r=>by rw[zh5 oM,Nat.add_sub_cancel_left]; exact gl i u u' r
   have b3:=V.here<|glX _ i _ _ _;refine⟨_,run_beginRound b3 (by rw[d]),?_⟩;have m:∀ (i:ι) (u u' v:Ent) (r:Own),(S i++u::u'::r).set (S i).length v=S i++v::u'::r:=fun i u u' v r=>by simp
   have H:∀ (X:Own) (i:ι) (u u' v:Ent) (r:Own),(X++(S i++u::u'::r)).set (X.length+(S i).length) v=X++(S i++v::u'::r):=fun X i u u' v r=>by rw[List.set_append_right _ _ oM,Nat.add_sub_cancel_left,m]
   have Y:=V.obj (o':=.loop { c .ready none with state:=.busy })<|glX _ i _ _ _;rw[H] at Y;refine Code.wpIn_mono (fun e a3 w3 h3=>?_)<|A L b x suf i _ q ⟨_,0,I⟩ b1 R a1 _ b2 Y;obtain ⟨rfl,j,Z,b4,b5⟩:=h3;have b6:=Z.here<|gl j _ _ _;have he:=run_endRound (P:=P) none b6;have K:=Z.obj (o':=.loop { (c .ready none) with state:=.ready,pending:=none })<|gl j _ _ _;rw[m] at K;refine⟨_,_,he,.bool true,G j,S2 j++sx,I,?_,I,j,b4,b5,I,I⟩;rw[y];simp only[zh1,List.cons_append];rw[d] at K ⊢;exact K
  ·rintro e W2 ⟨v,g',s',rfl,O,j,R,rfl,rfl⟩;rw[y,zc7] at O;have gl:∀ (i:ι) (u u':Ent) (r:Own),(S i++u::u'::r)[(S i).length]?=some u:=fun i u u' r=>by simp
   have hl:=O.here<|gl j _ _ _;have he:=run_endLoop (P:=P) hl (by rw[d]; simp);have F:=O.obj (o':=.loop { (c .ready none) with state:=.exhausted })<|gl j _ _ _;have m:∀ (i:ι) (u u' v:Ent) (r:Own),(S i++u::u'::r).set (S i).length v=S i++v::u'::r:=fun i u u' v r=>by simp
   rw[m] at F;have b7:(c .ready none).pending=none:=by rw[d]
   refine⟨none,_,he.trans<|ze4 (fun p=>Result.ok p _) b7,?_⟩;refine B D j R _ _ ⟨by rw[← ha.1]; rfl,ha.2⟩ ?_;have h3:=(F.sublist (s':=S j++pt D (.deferred<|some [])::sx0)<|by exact (zc4 _).append<|zj3 _ _).perm List.perm_middle;exact h3
end
end Go.Sy
namespace Go.Proofs.YtbbppeihhkhkcaaGreatDoor
open _root_.Go.Proofs.Tryz _root_.Go.Proofs.YtbbppeihhkhkcaaGreatDoor.Tryz
open Go Go.Sy Go.Pl Go.Proofs
set_option maxRecDepth 100000
set_option maxHeartbeats 1000000
set_option maxHeartbeats 2000000
theorem vE (E:World)(g:PH)(s:Own)(v:Value)(l:List Cl)(a:ai g v l)(b:aJ l) :
  Ctr Tryz.prog E 41 #[.agg #[v]] g s (fun r g' s'=>r=vb (decide ((ap l).2=0))∧g=g'∧s=s'):=by
 obtain ⟨q,d,rfl⟩:=a.form;refine zb2 (args:=[.agg #[.slice q l.length d]]) func41 I ntmps41 (bE I)<|rZ (bW (bO I) fun b1=>?_);refine aT I<|rZ<|SL.K (qV 0 aj ae I I I)<|lW (SO.call call14 I<|m7 E g _ _ l a b) ?_;rintro _ _ _ ⟨rfl,rfl,rfl⟩;exact lM I<|yX I<|yX I<|lA I<|aT I<|sW I<|yE I<|aT I<|rE<|dR (s':=s) uR<|za8 (.inl I) results41 I ⟨I,I,I⟩
section
variable {P:Program}{N:Nat}{E:World}{f:Fr}{g:PH}{s:Own}{dst:Option Tmp}{ty:TypeId}{pos:String}{af:Array Edge}{gd:Option (Nat×Bool)}
variable {t kt et:TypeId}{z:Value}{b:Nat}{l:List (Int×Value)}{x y u:Operand}{k:Int}{v:Value}
theorem SO.insertK (i:Nat)(A:MTy P t kt et z)(B:ev f x=some (.map<|some b))(C:ev f y=some (vi k))(D:ev f u=some v)(j:s[i]?=some (mp b l)) :
  SO P N E ⟨dst,.insert t x y u,ty,pos,af,gd⟩ f g s fun _ g' s'=>g=g'∧s'=s.set i (mp b<|gr l k v) :=
 SO.of_skip fun a w m n=>by
  obtain ⟨es,clk,F,G⟩:=n.own _<|zg4 j;have hb:w.heap[b]?=some (.map es clk):=by simpa [mp] using F
  obtain ⟨d,c,hr,o⟩:=jc A hb G k v;have p:=n.fresh _ (zg4 j) b rfl;obtain ⟨e1,e2⟩:=MapKept.heap_set (o':=.map d c) hb;refine⟨_,g,s.set i<|mp b<|gr l k v,by simp[execOp,m.ev B,m.ev C,m.ev D,hr]; rfl,?_,rfl,rfl⟩;refine n.turn j I ⟨I,(by exact Nat.le_refl _)⟩ I (by simp) (fun q _ r=>e2 q<|fun e=>r<|by simp[mp,e]) ⟨d,c,by simpa [mp] using e1,o⟩ (fun b' h=>?_);simp only[mp,zg9] at h;subst h;exact⟨by simpa using p.2,.inl I⟩
end
def qv:List (Int×Value):=[(1,.func (.func 105) #[] #[]),(2,.func (.func 106) #[] #[]),(3,.func (.func 107) #[] #[]),(4,.func (.func 108) #[] #[]),(5,.func (.func 109) #[] #[])]
theorem Tryz.mtyKinds:∃ z,MTy Tryz.prog 93 3 91 z:=⟨_,rfl,rfl,fun _=>rfl⟩
theorem mY (E:World)(g:PH)(s:Own):Ctr Tryz.prog E 40 #[] g s (fun r g' s'=>s=s'∧Le g g'∧∃ b,r = .map (some b)∧Mp g' b qv):=by
 obtain ⟨z,a⟩:=Tryz.mtyKinds;refine zb2 (args:=[]) func40 I ntmps40 (bE I)<|rZ<|aT I<|rZ<|lW (SO.mkMap) ?_;rintro _ _ _ ⟨b1,rfl,rfl,rfl⟩;refine lO (SO.insertK 0 a I I I I) ?_;rintro _ _ _ ⟨rfl,rfl⟩;refine lO (SO.insertK 0 a I I I I) ?_;rintro _ _ _ ⟨rfl,rfl⟩;refine lO (SO.insertK 0 a I I I I) ?_;rintro _ _ _ ⟨rfl,rfl⟩;refine lO (SO.insertK 0 a I I I I) ?_;rintro _ _ _ ⟨rfl,rfl⟩;refine lO (SO.insertK 0 a I I I I) ?_;rintro _ _ _ ⟨rfl,rfl⟩;refine lM I<|aT I<|rE ?_;refine ST.to (g':=g) (s':=mp b1 qv::s) (fun w d=>d) ?_;refine ST.freezeMap fun g1 c hm=>?_;exact za8 (.inl I) results40 I ⟨I,c,b1,I,hm⟩
end Go.Proofs.YtbbppeihhkhkcaaGreatDoor
namespace Go.Sy
open Go Go.MapKept
def tU:List (Int×Value)→Int→List (Int×Value)
 | [],_=>[]
 | (a,v)::r,k=>if k=a then r else (a,v)::tU r k
theorem uk (k:Int):∀ (l:List (Int×Value)),(∀ p∈l,p.1≠k)→tU l k=l
 | [],_=>rfl
 | (a,u)::r,h=>by
  have b:k≠a:=fun e=>h (a,u) (by simp) e.symm;simp only[tU,b,if_false,uk k r (fun p c=>h p<|by simp[c])]
theorem Bh (k:Int):∀ (l:List (Int×Value)) (i:Nat),(fnd k l i=none∧∀ p∈l,p.1≠k)∨∃ j v,fnd k l i=some (i+j,v)∧j<l.length∧tU l k=l.eraseIdx j
 | [],_=>.inl ⟨rfl,by simp⟩
 | (a,v)::r,i=>by
  by_cases h:k=a
  ·subst h;exact .inr ⟨0,v,by simp[fnd],by simp,by simp[tU]⟩
  ·rcases Bh k r (i+1) with ⟨b,c⟩ | ⟨j,v',b,c,d⟩
   ·refine .inl ⟨by simp[fnd,h,b],fun p f=>?_⟩
    rcases zf3.1 f with e | e
    ·rw[e]; exact fun e2=>h e2.symm
    ·exact c p e
   ·exact .inr ⟨j+1,v',by simp[fnd,h,b]; omega,by simpa using c,by simp[tU,h,d]⟩
theorem oE {α β:Type}(f:α→β):∀ (l:List α) (j:Nat),(l.eraseIdx j).map f=(l.map f).eraseIdx j
 | [],_=>rfl
 | _::_,0=>rfl
 | x::l,j+1=>ze4 (List.cons<|f x)<|oE f l j
section
variable {P:Program}{w:World}{t kt et ty:TypeId}{z:Value}{b:Nat}{es:Array MapEntry}{clk:Nat}{l:List (Int×Value)}
theorem qC (c:MTy P t kt et z)(hb:w.heap[b]?=some (.map es clk))(hm:vO l es clk)(k:Int) :
  ∃ es' clk',(Builtin.delete_ #[t,kt] ty #[.map<|some b,vi k]).run P w = .ok (.tuple #[]) { w with heap:=w.heap.setIfInBounds b (.map es' clk') }∧vO (tU l k) es' clk':=by
 have i:=kF k es.toList l 0 hm.1;have d:=MapKept.run_findKey (w:=w) c.key i;have g:=MapKept.run_checkKey (P:=P) (w:=w) c.key (k:=vi k) rfl es.isEmpty 9999;have h:es.toList.length=l.length:=by have:=ze4 List.length hm.1; simpa using this
 rcases Bh k l 0 with ⟨hn,e⟩ | ⟨j,u,m,o,a⟩
 ·refine⟨es,clk,?_,?_⟩
  ·rw[hn] at d;simp[Builtin.delete_,run_underlying c.und,MapKept.run_getObj_map hb,g,d,MapKept.run_setObj_map _ hb,Result.andThen]
  ·rw[uk k l e];exact hm
 ·rw[m,Nat.zero_add] at d;refine⟨es.eraseIdxIfInBounds j,clk,?_,?_,stamped_erase hm.2 j⟩
  ·simp[Builtin.delete_,run_underlying c.und,MapKept.run_getObj_map hb,g,d,MapKept.run_setObj_map _ hb,Result.andThen]
  ·have f:j<es.size:=by
    have n:j<es.toList.length:=oM;simpa using n
   rw[a];unfold Array.eraseIdxIfInBounds;rw[dif_pos f,Array.toList_eraseIdx,oE,hm.1,← oE]
end
section
variable {P:Program}{N:Nat}{E:World}{ops:Array Oper}{Q:Exit→Act→World→Prop}{f:Fr}{g:PH}{s:Own}{dst:Option Tmp}{ty:TypeId}{pos:String}{af:Array Edge}{gd:Option (Nat×Bool)}
variable {t kt et:TypeId}{z:Value}{b:Nat}{l:List (Int×Value)}{x y:Operand}{k:Int}
theorem SO.delete (i:Nat)(u:MTy P t kt et z)(v:ev f x=some (.map<|some b))(A:ev f y=some (vi k))(j:s[i]?=some (mp b l)) :
  SO P N E ⟨dst,.call ⟨.builtin .delete,#[x,y],#[t,kt]⟩,ty,pos,af,gd⟩ f g s fun _ g' s'=>g=g'∧s'=s.set i (mp b<|tU l k) :=
 SO.of_run fun a w r m=>by
  obtain ⟨es,clk,B,C⟩:=m.own _<|zg4 j;have hb:w.heap[b]?=some (.map es clk):=by simpa [mp] using B
  obtain ⟨d,c,hr,n⟩:=qC (ty:=ty) u hb C k;have o:=m.fresh _ (zg4 j) b rfl;obtain ⟨e1,e2⟩:=MapKept.heap_set (o':=.map d c) hb;refine⟨_,_,g,s.set i<|mp b<|tU l k,by simp[execOp,resolve,invoke,builtin,r.ev v,r.ev A,hr]; exact⟨I,I⟩,?_,I,I⟩;refine m.turn j I ⟨I,(by exact Nat.le_refl _)⟩ I (by simp) (fun q _ p=>e2 q<|fun e=>p<|by simp[mp,e]) ⟨d,c,by simpa [mp] using e1,n⟩ (fun b' h=>?_);simp only[mp,zg9] at h;subst h;exact⟨by simpa using o.2,.inl I⟩
end
end Go.Sy
namespace Go.Sy
open Go
section
variable {P:Program}{N:Nat}{E:World}{f:Fr}{g:PH}{s:Own}{dst:Option Tmp}{ty:TypeId}{pos:String}{af:Array Edge}{gd:Option (Nat×Bool)}
theorem SQ.sof {o:Oper}{v:Value}(h:SQ P N E o f g s v):SO P N E o f g s fun v' g' s'=>v'=v∧g=g'∧s=s':=SO.mono h.so fun _ _ _ ⟨a,b,c⟩=>⟨a,b.symm,c.symm⟩
theorem SQ.loadOne {x:Operand}{T:TypeId}{b o:Nat}{v:Value}(c:∀ w,(isAgg T).run P w = .ok true w)(d:∀ w,(sizeOf T).run P w = .ok 1 w)(e:ev f x=some (pp b o))(h:iq g s ⟨b,o,none⟩ v) :
  SQ P N E ⟨dst,.load T x,ty,pos,af,gd⟩ f g s (.agg #[v]) :=
 SQ.loadAggAt (vs:=[v]) c d e rfl fun j u a=>by
  cases j with
  | zero=>simp at a; subst a; exact h
  | succ j=>simp at a
end
section
variable {α:Type}{k:Nat}{P:Program}{N:Nat}{E:World}{f:Fr}{g:PH}{s:Own}{dst:Option Tmp}{ty:TypeId}{pos:String}{af:Array Edge}{gd:Option (Nat×Bool)}
theorem SO.appNewA {e:Enc α k}{bytes:Nat}{x y:Operand}{t T:TypeId}{z u:Value}{p:Option Addr}{m:List α}(c:STy P t T k bytes z)(d:ev f x=some (.slice p 0 0))(h:ev f y=some u)(i:SlA e g u m)
  (hb:m.length * bytes≤140737488355328) (b:m.length≤4611686018427387904) :
  SO P N E ⟨dst,.call ⟨.builtin .append,#[x,y],#[t,t]⟩,ty,pos,af,gd⟩ f g s fun v' g' s'=>g=g'∧s'=rowA e T v' m::s:=fun a w j n =>
 aQ (e:=e) (l:=[]) (s:=rowA e T (.slice p 0 0) []::s) 0 c d h rfl i (by simpa using hb) (by simpa using b) a w j (n.emptyRow T k p)
end
section
variable {P:Program}{N:Nat}{E:World}{f:Fr}{g:PH}{s:Own}{fn:Func}{R:Value→PH→Own→Prop}{e:Exit}
theorem ST.retCCT {T U T' U':TypeId}{t t' u b b' k k':Nat}{cs cs':Array Value}{fr fr':Nat×Nat}{x:Value}(i i':Nat)(s':Own)(A:e = .ret∨e = .normal)(hr:fn.results = #[.cell t T,.cell t' T',.tmp u])(B:aN f t=some (pp b 0))(h:aN f t'=some (pp b' 0))(C:aN f u=some x)
  (D:∀ w,(isAgg T).run P w = .ok true w) (F:∀ w,(sizeOf T).run P w = .ok k w) (j:∀ w,(isAgg T').run P w = .ok true w) (l:∀ w,(sizeOf T').run P w = .ok k' w)
  (G:s[i]?=some (pt b<|.cells cs U fr)) (H:cs.size=k) (m:s[i']?=some (pt b'<|.cells cs' U' fr')) (n:cs'.size=k') (o:s'.Sublist s) (J:R (.tuple #[.agg cs,.agg cs',x]) g s'):ST N E (bodyPost P fn<|nh E R) e f g s :=
 fun a w c p=>by
  have K:=cd (P:=P) p D (by rw[H]; exact F) G;have q:=cd (P:=P) p j (by rw[n]; exact l) m;have r:=c.at_ t _ B;have d:=c.at_ t' _ h;have v:=c.at_ u _ C;simp only[Array.getD_eq_getD_getElem?] at r d v;have y:(results fn a.tmps).run P w = .ok (.tuple #[.agg cs,.agg cs',x]) w:=by simp[results,hr,asAddr,pp,r,d,K,q,v]
  have z:nh E R (.returned<|.tuple #[.agg cs,.agg cs',x]) w:=⟨_,g,s',rfl,p.sublist o,J⟩
  rcases A with rfl | rfl
  ·exact⟨c.defers,_,y,z⟩
  ·exact⟨c.defers,_,y,z⟩
end
end Go.Sy
namespace Go.Proofs.YtbbppeihhkhkcaaGreatDoor
open _root_.Go.Proofs.Tryz _root_.Go.Proofs.YtbbppeihhkhkcaaGreatDoor.Tryz
open Go Go.Sy Go.Pl Go.Proofs
def lP:List Cl→Cl→List Cl
 | [],c=>[c]
 | x::l,c=>if c.id=x.id then c::l else x::lP l c
def CO:List Rc→Rc→List Rc
 | [],c=>[c]
 | x::l,c=>if c.id=x.id then c::l else x::CO l c
def AF:List Cl→Int→List Cl
 | [],_=>[]
 | x::l,k=>if k=x.id then l else x::AF l k
def C0:List Rc→Int→List Rc
 | [],_=>[]
 | x::l,k=>if k=x.id then l else x::C0 l k
theorem kJ (r:Rc):∀ rs:List Rc,gr (rs.map aq) r.id (rcv r)=(CO rs r).map aq
 | []=>rfl
 | x::rs=>by
  simp only[zg6,aq,gr,CO];by_cases h:r.id=x.id
  ·rw[zg3 h,zg3 h]; rfl
  ·rw[zg2 h,zg2 h];exact ze4 _<|kJ r rs
theorem A9 (k:Int):∀ rs:List Rc,tU (rs.map aq) k=(C0 rs k).map aq
 | []=>rfl
 | x::rs=>by
  simp only[zg6,aq,tU,C0];by_cases h:k=x.id
  ·rw[zg3 h,zg3 h]
  ·rw[zg2 h,zg2 h];exact ze4 _<|A9 k rs
theorem yU {R:Cl→Rc→Prop}(b:∀ c r,R c r→r.id=c.id){c:Cl}{r:Rc}(h:R c r):∀ {B:List Cl} {rs:List Rc},ax R B rs→ax R (lP B c) (CO rs r)
 | [],[],_=>⟨h,trivial⟩
 | x::B,y::rs,a=>by
  have e1:=b _ _ h;have e2:=b _ _ a.1;unfold lP CO;rw[e1,e2];split
  ·exact⟨h,a.2⟩
  ·exact⟨a.1,yU b h a.2⟩
 | [],_::_,a=>a.elim
 | _::_,[],a=>a.elim
theorem yY {R:Cl→Rc→Prop}(b:∀ c r,R c r→r.id=c.id)(k:Int):∀ {B:List Cl} {rs:List Rc},ax R B rs→ax R (AF B k) (C0 rs k)
 | [],[],_=>trivial
 | x::B,y::rs,a=>by
  have e2:=b _ _ a.1;unfold AF C0;rw[e2];split
  ·exact a.2
  ·exact⟨a.1,yY b k a.2⟩
 | [],_::_,a=>a.elim
 | _::_,[],a=>a.elim
theorem nP {c:Cl}:∀ {B:List Cl},(∀ x∈B,x.id≠c.id)→lP B c=B++[c]
 | [],_=>rfl
 | x::B,h=>by
  have a:¬ c.id=x.id:=fun e=>h x (by simp) e.symm;unfold lP;rw[zg2 a,nP fun y b=>h y (by simp[b])];rfl
theorem jT {c:Rc}:∀ {B:List Rc},(∀ x∈B,x.id≠c.id)→CO B c=B++[c]
 | [],_=>rfl
 | x::B,h=>by
  have a:¬ c.id=x.id:=fun e=>h x (by simp) e.symm;unfold CO;rw[zg2 a,jT fun y b=>h y (by simp[b])];rfl
theorem xX {c y:Cl}:∀ {B:List Cl},y∈lP B c→y=c∨y∈B
 | [],h=>by simpa [lP] using h
 | x::B,h=>by
  unfold lP at h;split at h
  ·rcases zf3.1 h with e | e
   ·exact .inl e
   ·exact .inr (by simp[e])
  ·rcases zf3.1 h with e | e
   ·exact .inr (by simp[e])
   ·rcases xX e with e | e
    ·exact .inl e
    ·exact .inr (by simp[e])
theorem kB {c:Cl}:∀ {B:List Cl},(B.map Cl.id).Nodup→((lP B c).map Cl.id).Nodup
 | [],_=>by simp[lP]
 | x::B,h=>by
  rw[zg6,zk4] at h;unfold lP;split
  ·rename_i e;rw[zg6,zk4,e];exact h
  ·rename_i e;rw[zg6,zk4];refine⟨fun hm=>?_,kB h.2⟩;obtain ⟨y,a,e2⟩:=zf4.1 hm
   rcases xX a with e3 | e3
   ·exact e (by rw[← e3]; exact e2)
   ·exact h.1 (by rw[← e2]; exact zf4.2 ⟨y,e3,I⟩)
theorem pS (k:Int):∀ {B:List Cl},(B.map Cl.id).Nodup→AF B k=B.filter fun c=>!decide (c.id=k)
 | [],_=>rfl
 | x::B,h=>by
  rw[zg6,zk4] at h;unfold AF;by_cases e:k=x.id
  ·rw[zg3 e,zi9];have a:∀ y∈B,(!decide (y.id=k))=true:=fun y b=>by
    have:y.id≠k:=fun e2=>h.1 (by rw[← e,← e2]; exact zf4.2 ⟨y,b,I⟩);simpa using this
   rw[List.filter_eq_self.2 a];simp[e]
  ·rw[zg2 e,zi9,pS k h.2];have:(!decide (x.id=k))=true:=by simpa using fun e2=>e e2.symm
   rw[zg3 this]
theorem t6 {α:Type}{key:α→Int}{l m:List α}(h:l.Perm m)(hn:(l.map key).Nodup):aI key l m:=by
 refine⟨h.length_eq.symm,fun c=>?_⟩;have b:=h.filter (fun a=>key a == c);have d:∀ q:List α,(q.map key).Nodup→(q.filter fun a=>key a == c).length≤1:=by
  intro q;induction q with
  | nil=>intro _; simp
  | cons x r ih =>
   intro f;rw[zg6,zk4] at f;rw[zi9];by_cases e:(key x == c)=true
   ·rw[zg3 e];have:r.filter (fun a=>key a == c)=[]:=lj fun y i e2=>f.1 (by
     have e1:key x=c:=by simpa using e
     rw[e1,← e2];exact zf4.2 ⟨y,i,I⟩)
    rw[this];simp
   ·rw[zg2 e];exact ih f.2
 have g:=d l hn
 match hl:l.filter (fun a=>key a == c),hm:m.filter (fun a=>key a == c) with
 | [],[]=>rfl
 | [],y::t=>rw[hl,hm] at b; exact absurd b.length_eq (by simp)
 | x::t,[]=>rw[hl,hm] at b; exact absurd b.length_eq (by simp)
 | x::t,y::u =>
  rw[hl,hm] at b;rw[hl] at g;have j:t=[]:=zf6 (by simpa using g);subst j;have:=b.length_eq;have k:u=[]:=zf6 (by simpa using this.symm);subst k;have:=b.subset<|List.mem_cons_self ..;simp at this;rw[this]
theorem vL {l m:List Cl}(h:l.Perm m)(hn:(l.map Cl.id).Nodup):aa l=aa m:=by
 have:sortBy Cl.id l=sortBy Cl.id m:=(di l).unique (di m)<|(co l).symm.trans<|(t6 h hn).trans<|co m;unfold aa;rw[this]
set_option maxRecDepth 100000
set_option maxHeartbeats 1000000
structure Ed where
 kind:Int
 cell:Int
 dim:Int
 new:Int
 other:Int
 sides:List ak
 pairs:List Pr
def EdR (g:PH)(v:Value)(e:Ed):Prop:=∃ sv pv,v = .agg #[vi e.kind,vi e.cell,vi e.dim,vi e.new,vi e.other,sv,pv]∧SlA encSide g sv e.sides∧SlA dZ g pv e.pairs
theorem EdR.mono {g g':PH}{v:Value}{e:Ed}(h:EdR g v e)(hl:Le g g'):EdR g' v e:=by
 obtain ⟨sv,pv,a,b,c⟩:=h;exact⟨sv,pv,a,za5 b hl,za5 c hl⟩
abbrev edP (bx:Nat)(u:Value)(mb ms:Nat)(bk:Bool):Ent:=pt bx (.cells #[u,.map<|some mb,.map<|some ms,vb bk] 156 (0,0))
theorem Tryz.build156 (u:Value)(h:u.cells = #[u])(x y:Option Nat)(w:World):(Instr.build 156 #[(0,.agg #[u]),(1,.map x),(2,.map y)]).run Tryz.prog w = .ok (.agg #[u,.map x,.map y,vb false]) w:=by
 have a:∀ x,(Value.map x).cells = #[.map x]:=fun _=>rfl;have b:(Value.agg #[u]).cells = #[u]:=rfl;simp[Instr.build,Instr.fill,a,b];rfl
theorem Ap {R:Cl→Rc→Prop}(d:∀ c r,R c r→r.id=c.id){tl:List Cl}{rs:List Rc}(h:ax R tl rs)(k:Int):∃ r,(ex (rs.map aq) k).getD (.agg #[vi 0,vi 0,.slice none 0 0])=rcv r∧(ex (rs.map aq) k).isSome=(ah tl k).isSome:=by
 rcases rQ d h k with ⟨b,a⟩ | ⟨c,r,b,a,e⟩
 ·exact⟨Ax,by rw[a]; rfl,by unfold ah; rw[b,a]; rfl⟩
 ·exact⟨r,by rw[a]; rfl,by unfold ah; rw[b,a]; rfl⟩
theorem Bo (E:World)(g:PH)(s:Own)(v:Value)(l:List ak)(a:SlA encSide g v l)(hn:l.length<1099511627776) :
  Ctr Tryz.prog E 110 #[v] g s (fun r g' s'=>g=g'∧s'=rowA encSide 75 r l::s):=by
 obtain ⟨p,c,rfl⟩:=za4 a;refine zb2 (args:=[.slice p l.length c]) func110 I ntmps110 (bE I)<|rZ<|aT I<|sQ<|sW I<|lU (SU.eqlNil be I I)<|tZ<|iQ I (fun b=>?_) (fun b=>?_)
 ·refine rZ<|aT I<|rE<|tR ?_;have hl:l=[]:=by
   cases l with
   | nil=>rfl
   | cons x r =>
    have hb:=za6 a (by simp);cases p with
    | none=>simp[based] at hb
    | some q=>simp at b
  subst hl;exact ST.nilRow 75 2<|za8 (.inl I) results110 I ⟨I,I⟩
 ·refine kP<|tN<|rZ<|lW (bS sty39 I I I (ab trivial) dC) ?_;rintro _ _ _ ⟨b5,rfl,rfl,rfl⟩;refine SL.emptyRow 75 2 (some ⟨b5,0,none⟩)<|lM I<|lW (SO.appendE (m:=l.length) 0 l.length (l.flatMap encSide.enc) sty39 I I I I I (Sl.rd a) (encSide.length l) (encSide.ones l) oM (by simp) oM oM) ?_;rintro r7 _ _ ⟨rfl,rfl⟩;exact aT I<|rE<|dR (s':=rowA encSide 75 r7 l::s) (.cons_cons _<|.cons _<|.refl _)<|za8 (.inl I) results110 I ⟨I,I⟩
theorem Du (E:World)(g:PH)(s:Own)(v:Value)(l:List Cl)(W:ai g v l)(U:aJ l)(F:((aa l).map Cl.id).Nodup) :
  Ctr Tryz.prog E 42 #[.agg #[v]] g s (fun r g' s'=>Le g g'∧∃ bx u mb ms rs,r=pp bx 0∧ai g' u (aa l)∧ax xC (aa l) rs∧s'=edP bx u mb ms false::mp mb (rs.map aq)::mp ms []::(qd (aa l) rs++s)):=by
 have n:=aA U;refine zb2 (args:=[.agg #[v]]) func42 I ntmps42 (bE I)<|rZ (bW (bO I) fun b1=>?_);refine aT I<|rZ<|SL.K (qV 0 aj ae I I I)<|lW (SO.call call53 I<|eY E g _ v l W U) ?_;rintro _ g1 _ ⟨rfl,o,u,rfl,V⟩;have G:=V;obtain ⟨rs,j,h⟩:=V;obtain ⟨q,d,rfl⟩:=za4 j;refine lW (SO.mkMap) ?_;rintro _ _ _ ⟨b8,rfl,rfl,rfl⟩;refine lW (SO.mkMap) ?_;rintro _ _ _ ⟨b9,rfl,rfl,rfl⟩;refine lU (za3 I<|build156 _ I _ _) (bW (bO I) fun c=>?_);refine aT I<|sQ<|sW I<|lU (nC I)<|lU (fA kY I ae I)<|lU (fA dn I cq I)<|SL.K (qL eh I<|cO 0 I I)<|lU (eN aB I)<|lM I<|tZ<|bK ?_;generalize aa l=A at *;have X:=h.length;have Y:=n.1;refine oP (ι:=Nat×List Rc) (fun i=>[(3,pp c 0),(16,.slice q rs.length d),(17,vi rs.length),(18,vi i.1)]) (fun _=>g1)
  (fun i=>edP c (.slice q rs.length d) b8 b9 false::mp b9 []::mp b8 (i.2.map aq)::pt b1 (.cells #[v] 29 (0,0))::(qd (A.take i.1) i.2++s))
  (fun i=>i.1≤rs.length∧ax xC (A.take i.1) i.2) (fun i=>rs.length - i.1) (0,[])
  sB rfl rfl ⟨zf8 _,by simp[ax]⟩ ?_
 rintro ⟨k,a⟩ ⟨Z,b⟩;dsimp only at Z b ⊢;have H:=b.length;refine rZ<|yL I<|tZ<|sQ<|iP I (fun J=>?_) (fun J=>?_)
 ·have p:k<rs.length:=oM;have m:k<A.length:=oM;have L:=za6 j oM;have M:=h.get (List.getElem?_eq_getElem m)<|List.getElem?_eq_getElem p;have N:rs[((k:Nat):Int).toNat]?=some rs[k]:=List.getElem?_eq_getElem p;have t:A.take (k+1)=A.take k++[A[k]]:=tS m;have O:=n.2 _<|gM m;have y:∀ x∈a,x.id≠A[k].id:=fun x hx=>by
   obtain ⟨i,hi,rfl⟩:=zc8 hx;have z:i<(A.take k).length:=oM;have P:i<k:=by rw[ze6] at z; omega
   have Q:=(b.get (List.getElem?_eq_getElem z)<|List.getElem?_eq_getElem hi).1;rw[Q,List.getElem_take];intro e;have D:=zd1.1 (List.nodup_iff_pairwise_ne.1 F) i k (by rw[ze8]; omega) (by rw[ze8]; omega) P;simp only[List.getElem_map] at D;exact D e
  generalize rs[k]=x at *;generalize A[k]=cx at *;obtain ⟨xi,xd,xp,xn,xc⟩:=x;obtain ⟨e1,e2,f⟩:=M;dsimp only at e1 e2 f;have R:xn=cx.sides.length:=zc2 f;subst R e1 e2;refine kP<|tN<|sQ<|bK<|rZ<|lU (iA aB aw I I L oM (show (k:Int)<((rs.length:Nat):Int) by omega)) ?_;refine SL.K (SQ.elemA dT aw I (za7 j) N) (bW (aL zl7) fun b5=>?_);refine oZ (sK 0 aw I I I I I sB) ?_;refine tZ<|rZ<|lU (fA ao I aM I)<|SL.K (qL (v:=.slice xp cx.sides.length xc) br I<|cO 0 I I)<|lW (SO.call call110 I<|Bo E g1 _ _ cx.sides f O) ?_;rintro v24 _ _ ⟨rfl,rfl⟩;refine zd4 fun ⟨w0,B⟩=>?_;obtain ⟨q2,d2,rfl⟩:=ag (e:=encSide) (l:=cx.sides) (i:=0) B rfl;clear B w0;refine lU (fA ao rfl aM rfl)<|oZ (SO.store1 1 aM rfl rfl rfl rfl (bE rfl)<|by rfl) ?_;refine tZ ?_;refine dW [7] [(0,2),(1,2),(2,2),(3,1),(4,2),(5,1),(6,1),(7,0)] ze5 kR ?_;refine yM I<|pU I (nC I)<|pU I (fA kY I jx I)<|pK I (qL jB I<|cO 2 I I)<|pU I (fA ao I zT3 I)<|pK I (qL iT3 I<|cO 1 I I)<|pK I (qV 1 dT aw I I I)<|SP.on I (SO.mapUpdate 4 mty125 I I I I) (.inl dC) ?_;rintro _ _ _ ⟨rfl,rfl⟩;refine pN<|bN<|tN<|rG<|yD I<|lM I<|SL.nil ?_;refine ST.to (fun w S=>?_) (g':=g1) (s':=edP c (.slice q rs.length d) b8 b9 false::mp b9 []::mp b8 ((a++[(⟨cx.id,cx.dim,⟨q2,cx.sides.length,d2⟩⟩:Rc)]).map aq)::pt b1 (.cells #[v] 29 (0,0))::(qd (A.take<|k+1) (a++[(⟨cx.id,cx.dim,⟨q2,cx.sides.length,d2⟩⟩:Rc)])++s)) ?_
  ·rw[t,pH cx _ H];have C:gr (a.map aq) cx.id (rcv ⟨cx.id,cx.dim,⟨q2,cx.sides.length,d2⟩⟩)=(a++[(⟨cx.id,cx.dim,⟨q2,cx.sides.length,d2⟩⟩:Rc)]).map aq:=by
    rw[← jT y];exact kJ ⟨cx.id,cx.dim,⟨q2,cx.sides.length,d2⟩⟩ a
   rw[← C];have Q:=(S.sublist (s':=Gw cx ⟨cx.id,cx.dim,⟨q2,cx.sides.length,d2⟩⟩::(edP c (.slice q rs.length d) b8 b9 false::mp b9 []::mp b8 (gr (a.map aq) cx.id<|rcv ⟨cx.id,cx.dim,⟨q2,cx.sides.length,d2⟩⟩)::pt b1 (.cells #[v] 29 (0,0))::qd (A.take k) a)++s)<|.cons_cons _<|.cons _<|.refl _);have D:=Q.perm List.perm_middle.symm;simpa using D
  exact ST.again (k+1,_) sB I I ⟨by dsimp only; omega,by
   dsimp only;rw[t];exact b.append ⟨⟨I,I,I⟩,trivial⟩⟩ (by dsimp only; omega)
 ·have T:A.take k=A:=tL oM;rw[T] at b ⊢;refine xI<|tX<|tX<|bX<|tN<|sW I<|aT I<|rE ?_;refine ST.to (g':=g1) (s':=edP c (.slice q rs.length d) b8 b9 false::mp b8 (a.map aq)::mp b9 []::(qd A a++s)) (fun w S=>(S.perm<|List.Perm.cons _<|zk3 _ _ _).sublist<|.cons_cons _<|.cons_cons _<|.cons_cons _<|.cons _<|.refl _) ?_;exact za8 (.inl I) results42 I ⟨o,c,_,b8,b9,a,I,G,b,I⟩
theorem rm (E:World)(g:PH)(s:Own)(bx mb ms:Nat)(u:Value)(bk:Bool)(k:Int)(R:Cl→Rc→Prop)(e:∀ c r,R c r→r.id=c.id)(B:List Cl)(rs:List Rc)(a:ax R B rs)(i j:Nat)(f:s[i]?=some (edP bx u mb ms bk))(h:s[j]?=some (mp mb<|rs.map aq)) :
  Ctr Tryz.prog E 166 #[pp bx 0,vi k] g s (fun r g' s'=>r=vb (ah B k).isSome∧g=g'∧s=s'):=by
 obtain ⟨x,b,d⟩:=Ap e a k;refine zb2 (args:=[pp bx 0,vi k]) func166 I ntmps166 (bE I)<|rZ<|aT I<|sW I<|lU (nC I)<|lU (fA kY I jx I)<|SL.K (qL (v:=.map<|some mb) jB I<|cO i f I)<|lM I<|SL.K (SQ.eq (v':=.tuple #[rcv x,vb (ah B k).isSome]) (SQ.lookupOk mty125 I I<|bh.own j h)<|by rw[b,d]) ?_;refine lM I (yX I<|yX I<|bW (aL zl7) fun b5=>?_);refine oZ (sK 0 aw I I I I I sB) ?_;refine aT I<|sW I<|aT I<|rE<|dR (s':=s) uR ?_;exact za8 (.inl I) results166 I ⟨I,I,I⟩
theorem xr (E:World)(g:PH)(s:Own)(bx mb ms:Nat)(u v:Value)(bk:Bool)(e:Ed)(B:List Cl)(rs:List Rc)(a:ax (an g) B rs)(i j:Nat)(l:s[i]?=some (edP bx u mb ms bk))(m:s[j]?=some (mp mb<|rs.map aq))(n:EdR g v e)(f:e.sides.length<1099511627776) :
  Ctr Tryz.prog E 105 #[pp bx 0,v] g s (fun r g' s'=>Le g g'∧((r=vi 54∧(ah B e.cell).isSome=true∧s=s')∨(r=vi 0∧(ah B e.cell).isSome=false∧∃ rs',ax (an g') (lP B ⟨e.cell,e.dim,e.sides⟩) rs'∧s'=s.set j (mp mb<|rs'.map aq)))):=by
 obtain ⟨sv,pv,rfl,c,p⟩:=n;obtain ⟨sp,sc,rfl⟩:=za4 c;refine zb2 (args:=[pp bx 0,.agg #[vi e.kind,vi e.cell,vi e.dim,vi e.new,vi e.other,.slice sp e.sides.length sc,pv]]) func105 I ntmps105 (bE I)<|rZ (bW (bO I) fun b3=>?_);refine aT I<|sQ<|sW I<|lU (fA a6 I zT3 I)<|SL.K (qL iT3 I<|cO 0 I I)<|lW (SO.call call166 I<|rm E g _ bx mb ms u bk e.cell _ (fun _ _ h=>h.1) B rs a (i+1) (j+1) l m) ?_;rintro _ _ _ ⟨rfl,rfl,rfl⟩;refine tZ<|iQ I (fun k=>?_) (fun k=>?_)
 ·exact rZ<|aT I<|rE<|tR<|dR (s':=s) uR<|za8 (.inl I) results105 I ⟨zb9 _,.inl ⟨I,k,I⟩⟩
 ·refine kP<|tN<|sQ<|dW [14] [(0,2),(1,2),(2,2),(3,1),(4,2),(5,1),(6,2),(7,1),(8,2),(9,1),(10,2),(11,1),(12,0),(13,2),(14,0)] ze5 kR<|yM I<|pU I (nC I)<|pU I (fA kY I jx I)<|pK I (qL (v:=.map<|some mb) jB I<|cO (i+1) l I)<|pU I (fA a6 I zT3 I)<|pK I (qL iT3 I<|cO 0 I I)<|pU I (fA a6 I zT3 I)<|pK I (qL iT3 I<|cO 0 I I)<|pU I (fA a6 I zT3 I)<|pK I (qL iT3 I<|cO 0 I I)<|pU I (fA a6 I aM I)<|pK I (qL (v:=.slice sp e.sides.length sc) br I<|cO 0 I I)<|SP.o I (SO.call call110 I<|Bo E g _ _ e.sides c f) dC (.inr iR) ?_;rintro v21 _ _ ⟨rfl,rfl⟩;refine SP.freezeRow fun g2 b d=>?_;obtain ⟨q2,d2,rfl⟩:=zc3 d;refine pU I (za3 I<|buildF56 _ _ _ I)<|SP.on I (SO.mapUpdate (j+1) mty125 I I I m) (.inl dC) ?_;rintro _ _ _ ⟨rfl,rfl⟩;refine pN<|tN<|rZ<|aT I<|rE<|dR (s':=s.set j<|mp mb<|gr (rs.map aq) e.cell<|rcv ⟨e.cell,e.dim,⟨q2,e.sides.length,d2⟩⟩) (.cons _<|.refl _)<|za8 (.inl I) results105 I ⟨b,.inr ⟨I,k,CO rs ⟨e.cell,e.dim,⟨q2,e.sides.length,d2⟩⟩,yU (fun _ _ h=>h.1) ⟨I,I,d⟩ (a.mono fun _ _=>an.mono b),?_⟩⟩;rw[← kJ]
theorem wI (E:World)(g:PH)(s:Own)(bx mb ms:Nat)(u v:Value)(bk:Bool)(e:Ed)(A B:List Cl)(rs:List Rc)(q:ai g u A)(w:aJ A)(b:ax (an g) B rs)(i j:Nat)(f:s[i]?=some (edP bx u mb ms bk))(t:s[j]?=some (mp mb<|rs.map aq))(k:j≠i)(x:EdR g v e) :
  Ctr Tryz.prog E 106 #[pp bx 0,v] g s (fun r g' s'=>Le g g'∧((r=vi 30∧(ah B e.cell).isSome=false∧s=s')∨(r=vi 31∧(ah B e.cell).isSome=true∧0<(aC A e.cell).length∧s=s')∨(r=vi 0∧(ah B e.cell).isSome=true∧aC A e.cell=[]∧s'=(s.set j<|mp mb<|(C0 rs e.cell).map aq).set i (edP bx u mb ms true)))):=by
 obtain ⟨sv,pv,rfl,y,z⟩:=x;obtain ⟨p,c,rfl⟩:=q.form;refine zb2 (args:=[pp bx 0,.agg #[vi e.kind,vi e.cell,vi e.dim,vi e.new,vi e.other,sv,pv]]) func106 I ntmps106 (bE I)<|rZ (bW (bO I) fun b3=>?_);refine aT I<|sQ<|bK<|sW I<|lU (fA a6 I zT3 I)<|SL.K (qL iT3 I<|cO 0 I I)<|lW (SO.call call166 I<|rm E g _ bx mb ms _ bk e.cell _ (fun _ _ h=>h.1) B rs b (i+1) (j+1) f t) ?_;rintro _ _ _ ⟨rfl,rfl,rfl⟩;refine lU (SU.not I)<|aT I<|iQ I (fun l=>?_) (fun l=>?_)
 ·exact rZ<|aT I<|rE<|bR<|tR<|dR (s':=s) uR<|za8 (.inl I) results106 I ⟨zb9 _,.inl ⟨I,by simpa using l,I⟩⟩
 ·have d:(ah B e.cell).isSome=true:=by simpa using l
  refine sQ<|dW [] [(0,2),(1,2),(2,2),(3,1),(4,2),(5,1),(6,0),(7,2),(8,2),(9,2)] ze5 kR<|yM I<|pU I (nC I)<|pU I (fA kY I ae I)<|pK I (SQ.loadOne aj ae I<|cO (v:=.slice p A.length c) (i+1) f I)<|pU I (fA a6 I zT3 I)<|pK I (qL iT3 I<|cO 0 I I)<|SP.o I (SO.call call167 I<|Aw E g _ _ A e.cell q w) dC (.inr iR) ?_;rintro v18 g1 _ ⟨rfl,a,C⟩;obtain ⟨q2,d2,rfl⟩:=za4 C;refine pU I (eN az I)<|pU I (gR I I)<|pU I (aS I)<|pN<|tN<|iP I (fun m=>?_) (fun m=>?_)
  ·exact rZ<|aT I<|rE<|bR<|tR<|dR (s':=s) uR<|za8 (.inl I) results106 I ⟨a,.inr<|.inl ⟨I,d,oM,I⟩⟩
  ·have n:(s.set j<|mp mb<|tU (rs.map aq) e.cell)[i]?=some (edP bx (.slice p A.length c) mb ms bk):=by rw[List.getElem?_set_ne k]; exact f
   refine kP<|bN<|tN<|sQ<|dW [6] [(0,2),(1,2),(2,2),(3,1),(4,2),(5,1),(6,0)] ze5 kR<|yM I<|pU I (nC I)<|pU I (fA kY I jx I)<|pK I (qL (v:=.map<|some mb) jB I<|cO (i+1) f I)<|pU I (fA a6 I zT3 I)<|pK I (qL iT3 I<|cO 0 I I)<|SP.on I (SO.delete (j+1) mty125 I I t) (.inl dC) ?_;rintro _ _ _ ⟨rfl,rfl⟩;refine pN<|tN<|sW I<|lU (nC I)<|lU (fA kY I zT4 I)<|oZ (SO.store1 (i+1) zT4 I I n I (bE I) I)<|tZ<|rZ<|aT I<|rE<|dR (s':=(s.set j<|mp mb<|tU (rs.map aq) e.cell).set i<|edP bx (.slice p A.length c) mb ms true) (.cons _<|.refl _)<|za8 (.inl I) results106 I ⟨a,.inr<|.inr ⟨I,d,zf6 oM,by rw[← A9]⟩⟩
theorem zC (E:World)(g:PH)(s:Own)(bx mb ms:Nat)(u:Value)(bk:Bool)(B:List Cl)(rs:List Rc)(b:ax (an g) B rs)(hn:(B.map Cl.id).Nodup)(S:aJ B)(hm:Mp g mb (rs.map aq))(i:Nat)(T:s[i]?=some (edP bx u mb ms bk)) :
  Ctr Tryz.prog E 43 #[pp bx 0] g s (fun r g' s'=>s=s'∧Le g g'∧∃ u',r = .agg #[u']∧fV (mns g' g) u' (aa B)):=by
 obtain ⟨es,clk,o,f⟩:=hm;have U:=b.length;have V:=S.1;refine zb2 (args:=[pp bx 0]) func43 I ntmps43 (bE I)<|rZ (bW (aL zl9) fun b2=>?_);refine tZ (rZ<|bW (aL zl9) fun b3=>?_);refine tZ<|sQ<|sW I<|lU (nC I)<|lU (fA kY I jx I)<|SL.K (qL (v:=.map<|some mb) jB I<|cO (i+2) T I)<|lW (SO.range underlying125 I o) ?_;rintro _ _ _ ⟨it,rfl,rfl,rfl⟩;refine tZ<|bK<|zb6 56 3<|oP (ι:=List MapEntry×List Rc×List Cl×Value) (fun _=>[(2,pp b2 0),(3,pp b3 0),(10,pp it 0)]) (fun _=>g)
  (fun i=>rowA encCell 56 i.2.2.2 i.2.1::iter it mb es clk i.1::pt b3 (.cells #[i.2.2.2] 29 (0,0))::pt b2 (.cells #[.slice none 0 0] 29 (0,0))::s)
  (fun i=>lV (rs.map aq) es i.1 (i.2.1.map aq)∧ax (an g) i.2.2.1 i.2.1∧(∀ c∈i.2.2.1,c∈B)) (fun i=>rs.length - i.2.1.length)
  ([],[],[],.slice none 0 0) sB rfl rfl ⟨lV.nil _ _,trivial,by simp⟩ ?_
 rintro ⟨vis,j,vc,ov⟩ ⟨q,a,k⟩;dsimp only at q a k ⊢;have C:=q.len f;simp only[ze8] at C;have W:=a.length;refine rZ<|lW (SO.nextP 1 I I o f q) ?_;rintro _ _ _ ⟨rfl,t⟩
 rcases t with ⟨rfl,rfl,y⟩ | ⟨e,pr,X,H,J,L,m,rfl,rfl⟩
 ·have z:vc.Perm B:=ve (by rw[zi7,jZ a]; rfl) k hn b y;have M:aa vc=aa B:=vL z<|(z.map Cl.id).symm.nodup hn;have N:aJ vc:=⟨by have:=z.length_eq; omega,fun c O=>S.2 c<|k c O⟩;refine yX I (tZ<|sQ<|za1 I<|xI<|tX<|tX<|bX<|tN<|sQ<|fS fun g2 d D=>?_);obtain ⟨q2,d2,rfl⟩:=zc3 D;refine rG<|SL.K (qV 1 aj ae I I I)<|lW (SO.call call53 I<|oT E g2 _ _ vc ⟨j,D,a.mono fun _ _=>an.mono d⟩ N) ?_;rintro _ g3 _ ⟨rfl,F,u3,rfl,A⟩;rw[M] at A;have P:=A.cells<|fw _ _;obtain ⟨q3,d3,rfl⟩:=P.form;refine oZ (sK 2 ae I I I I I sB) ?_;refine tZ<|rE ?_;exact ST.retCD 2 s (.inl I) results43 I aj ae I I uR ⟨I,d.trans F,_,I,A.mono<|jU d⟩
 ·obtain ⟨x,Y,rfl⟩:=zf4.1 H;obtain ⟨cx,Q,R⟩:=yV b Y;refine yX I (tZ (sQ (za2 I (kP (tN (bK (rZ (SL.K (SQ.entryP 1 I I o f X J L) (yX I (bW (aL zl7) fun b5=>?_))))))))));refine oZ (sK 0 aw I I I I I sB)<|tZ ?_;refine SC.to (g':=g) (s':=pt b5 (.cells #[vi x.id,vi x.dim,.slice x.sv.p x.sv.n x.sv.c] 56 (0,0))::rowA encCell 56 ov j::iter it mb es clk (vis++[e])::pt b3 (.cells #[ov] 29 (0,0))::pt b2 (.cells #[.slice none 0 0] 29 (0,0))::s) (fun w Z=>Z) ?_;refine rG (lU (fA dn I cq I) (SL.K (qL eh I (cO 3 I I)) (SL.K (qV 0 dT aw I I I) (lW (bS sty27 I I I (ab sB) dC) ?_))));rintro _ _ _ ⟨a0,rfl,rfl,rfl⟩;refine lW (aP (e:=encCell) 1 x sty27 I I I I I oM oM) ?_;rintro ov' _ _ ⟨rfl,rfl⟩;refine zd4 fun ⟨w0,G⟩=>?_;obtain ⟨q',d',rfl⟩:=ag (e:=encCell) (l:=j++[x]) (i:=1) G rfl;clear G w0;refine lU (fA dn I cq I) (oZ (sK 3 cq I I I I I sB) ?_);refine SL.nil (bN (dR (.cons _ (.refl _)) ?_));exact ST.again (vis++[e],j++[x],vc++[cx],_) sB I I ⟨by dsimp only; rw[zg7]; exact m,a.append ⟨R,trivial⟩,fun c O=>by
   rcases zf5.1 O with h | h
   ·exact k c h
   ·simp at h; rw[h]; exact Q⟩ (by
   have:=m.len f;simp only[ze8,ze7,ze9] at this ⊢;omega)
abbrev Tm:=Int×Int
def Gt (n:Int):Bool:=decide (n<0)&&decide (AC n.natAbs≠[])
def fm:Enc Tm 3:=⟨fun p=>[vi p.1,vb<|Gt p.2,txt<|AC p.2.natAbs],fun _=>rfl,fun _ u hu=>by simp at hu; rcases hu with rfl | rfl | rfl <;> rfl,by decide⟩
structure Im where
 cell:Int
 sv:Sv
def ll:Enc Im 2:=⟨fun r=>[vi r.cell,.slice r.sv.p r.sv.n r.sv.c],fun _=>rfl,fun _ u hu=>by simp at hu; rcases hu with rfl | rfl <;> rfl,by decide⟩
def ImR (g:PH)(c:Int×List Tm)(r:Im):Prop:=r.cell=c.1∧SlA fm g (.slice r.sv.p r.sv.n r.sv.c) c.2
theorem ImR.mono {g g':PH}(hl:Le g g'){c:Int×List Tm}{r:Im}(h:ImR g c r):ImR g' c r:=⟨h.1,za5 h.2 hl⟩
def Ims (g:PH)(v:Value)(l:List (Int×List Tm)):Prop:=∃ rs,SlA ll g v rs∧ax (ImR g) l rs
theorem Ims.mono {g g':PH}{v:Value}{l:List (Int×List Tm)}(h:Ims g v l)(hl:Le g g'):Ims g' v l:=by
 obtain ⟨rs,a,b⟩:=h;exact⟨rs,za5 a hl,b.mono fun _ _=>ImR.mono hl⟩
theorem Tryz.build82 (x:Int)(b:Bool)(l:List UInt8)(w:World):(Instr.build 82 #[(0,vi x),(1,.agg #[vb b,txt l])]).run Tryz.prog w = .ok (.agg #[vi x,vb b,txt l]) w:=by
 have a:(vi x).cells = #[vi x]:=rfl;have c:(Value.agg #[vb b,txt l]).cells = #[vb b,txt l]:=rfl;simp[Instr.build,Instr.fill,a,c];rfl
theorem Tryz.build113 (x:Int)(p:Option Addr)(n c:Nat)(w:World):(Instr.build 113 #[(0,vi x),(1,.slice p n c)]).run Tryz.prog w = .ok (.agg #[vi x,.slice p n c]) w:=by
 have a:(vi x).cells = #[vi x]:=rfl;have b:(Value.slice p n c).cells = #[.slice p n c]:=rfl;simp[Instr.build,Instr.fill,a,b];rfl
theorem Tryz.buildB35 (b:Bool)(w:World):(Instr.build 35 #[(1,vb b)]).run Tryz.prog w = .ok (.agg #[.slice none 0 0,vb b]) w:=by
 have a:(vb b).cells = #[vb b]:=rfl;simp[Instr.build,Instr.fill,a];rfl
theorem Tryz.mty110:MTy Tryz.prog 110 3 77 (.slice none 0 0):=⟨underlying110,underlying3,zeroValue77⟩
theorem Tryz.sty77:STy Tryz.prog 77 82 3 32 (.agg #[vi 0,vb false,txt []]):=⟨underlying77,⟨t82,by kernel_rfl,by kernel_rfl,by kernel_rfl,by kernel_rfl⟩,rfl,by decide⟩
theorem Tryz.sty31:STy Tryz.prog 31 113 2 32 (.agg #[vi 0,.slice none 0 0]):=⟨underlying31,⟨t113,by kernel_rfl,by kernel_rfl,by kernel_rfl,by kernel_rfl⟩,rfl,by decide⟩
theorem BC (E:World)(g:PH)(s:Own)(c n:Int)(b : -9223372036854775808≤n)(d:n<9223372036854775808) :
  Ctr Tryz.prog E 112 #[vi c,vi n] g s (fun r g' s'=>r = .agg (fm.enc (c,n)).toArray∧s=s'∧Le g g'):=by
 refine zb2 (args:=[vi c,vi n]) func112 I ntmps112 (bE I)<|rZ (bW (aL zeroValue82) fun b4=>?_);refine tZ<|sW I<|lM I<|lW (SO.call call129 I<|Cp E g _ n b d) ?_;rintro _ g1 _ ⟨rfl,rfl,a⟩;exact lU (za3 I<|build82 _ _ _)<|oZ (sK 0 sizeOf82 I I I I I sB)<|tZ<|rE<|ST.retCD 0 s (.inl I) results112 I isAgg82 sizeOf82 I I uR ⟨I,I,a⟩
def gv (c:Cl):Int×List Tm:=(c.id,[(c.id,1)])
set_option maxHeartbeats 2000000
theorem Ctr.freezeO {P:Program}{E:World}{n:FuncId}{args:Array Value}{g:PH}{L s:Own}{R:Value→PH→Own→Prop}{A:List Cl}{rs:List Rc}(a:ax xC A rs)
  (h:∀ g1,Le g g1→ax (an g1) A rs→Ctr P E n args g1 (L++s) R):Ctr P E n args g (L++(qd A rs++s)) R:=fun w b=>by
 have c:(L++(qd A rs++s)).Perm (qd A rs++(L++s)):=by
  rw[← zh1,← zh1];exact List.perm_append_comm.append_right s
 obtain ⟨g1,d,e,f⟩:=Go.Proofs.YtbbppeihhkhkcaaGreatDoor.freezeO a<|b.perm c;exact h g1 d f w e
def se (fv:Value)(e:Ed)(A:List Cl)(code:Int)(B:List Cl)(bk:Bool):Prop :=
 ∀ (E:World) (g:PH) (s:Own) (bx mb ms:Nat) (u v:Value) (rs:List Rc),ai g u A→ax xC A rs→EdR g v e →
  cz Tryz.prog E fv [pp bx 0,v] g (edP bx u mb ms false::mp mb (rs.map aq)::mp ms []::(qd A rs++s)) (fun r g' s'=>Le g g'∧r=vi code∧(if code=0 then ∃ rs',ax (an g') B rs'∧s'=edP bx u mb ms bk::mp mb (rs'.map aq)::mp ms []::s else ∃ h,s'=h++s))
def gU (A:List Cl)(e:Ed):Int:=if (ah A e.cell).isSome then 54 else 0
def kA (A:List Cl)(e:Ed):Int:=if (ah A e.cell).isSome then (if 0<(aC A e.cell).length then 31 else 0) else 30
theorem Aj (A:List Cl)(e:Ed)(i:e.sides.length<1099511627776):se (.func (.func 105) #[] #[]) e A (gU A e) (lP A ⟨e.cell,e.dim,e.sides⟩) false:=by
 intro E g s bx mb ms u v rs m j k;refine cz.mk (args:=[_,_]) (cap:=[]) call105<|Ctr.freezeO (L:=[edP bx u mb ms false,mp mb<|rs.map aq,mp ms []]) j fun g1 a b=>?_;refine (xr E g1 _ bx mb ms u v false e A rs b 0 1 I I (k.mono a) i).mono ?_;rintro r g' s' ⟨c,h⟩;refine⟨a.trans c,?_⟩;unfold gU
 rcases h with ⟨rfl,d,rfl⟩ | ⟨rfl,d,f,l,rfl⟩
 ·rw[d];exact⟨I,[edP bx u mb ms false,mp mb<|rs.map aq,mp ms []],I⟩
 ·rw[d];exact⟨I,f,l,I⟩
theorem zG (A:List Cl)(i:aJ A)(e:Ed):se (.func (.func 106) #[] #[]) e A (kA A e) (AF A e.cell) true:=by
 intro E g s bx mb ms u v rs j k l;refine cz.mk (args:=[_,_]) (cap:=[]) call106<|Ctr.freezeO (L:=[edP bx u mb ms false,mp mb<|rs.map aq,mp ms []]) k fun g1 a b=>?_;refine (wI E g1 _ bx mb ms u v false e A A rs (j.mono a) i b 0 1 I I dC<|l.mono a).mono ?_;rintro r g' s' ⟨c,h⟩;refine⟨a.trans c,?_⟩;unfold kA
 rcases h with ⟨rfl,d,rfl⟩ | ⟨rfl,d,f,rfl⟩ | ⟨rfl,d,f,rfl⟩
 ·rw[d];exact⟨I,[edP bx u mb ms false,mp mb<|rs.map aq,mp ms []],I⟩
 ·rw[d,zg3 rfl,zg3 f];exact⟨I,[edP bx u mb ms false,mp mb<|rs.map aq,mp ms []],I⟩
 ·rw[d,f];exact⟨I,C0 rs e.cell,(yY (fun _ _ h=>h.1) e.cell b).mono fun _ _=>an.mono c,I⟩
theorem uo {α:Type}(L r:List α)(k:Nat):(L++r)[L.length+k]?=r[k]?:=by
 rw[zh5 oM,Nat.add_sub_cancel_left]
def aV (code:Int)(B:List Cl):Int×List Cl :=
 if code≠0 then (code,[]) else if (ap<|aa B).2≠0 then ((ap<|aa B).2,[]) else (0,aa B)
theorem Tryz.buildZ35 (w:World):(Instr.build 35 #[]).run Tryz.prog w = .ok (.agg #[.slice none 0 0,vb false]) w:=by
 simp[Instr.build,Instr.fill];rfl
theorem ai.nil (g:PH):ai g (.slice none 0 0) []:=⟨[],zc1 g _,trivial⟩
theorem mg (E:World)(g:PH)(s:Own)(v:Value)(l:List Cl)(a:ai g v l)(c:aJ l)(b:Bool)(hb:decide ((ap l).2=0)=b) :
  Ctr Tryz.prog E 41 #[.agg #[v]] g s (fun r g' s'=>r=vb b∧g=g'∧s=s'):=by
 subst hb;exact vE E g s v l a c
open Go.ChangeShapes Go.WideShapes Go.ChangeAt Go.RowKit
set_option maxRecDepth 100000
section
variable {H:Type}{enc:TypeId×Value→H}{W:World}{base:Nat}{spare:Nat→Bool}{hd:Bool}
end
theorem ew (E:World)(g:PH)(s:Own)(c n:Int)(b : -9223372036854775808≤n)(d:n<9223372036854775808) :
  Ctr Tryz.prog E 255 #[vi c,vi n] g s (fun r g' s'=>r = .agg (fm.enc (c,n)).toArray∧s=s'∧Le g g'):=by
 refine zb2 (args:=[vi c,vi n]) func255 I ntmps255 (bE I)<|rZ (bW (aL zeroValue82) fun b4=>?_);refine tZ<|sW I<|lM I<|lW (SO.call call31 I<|vy E g _ n b d) ?_;rintro _ g1 _ ⟨rfl,rfl,a⟩;exact lU (za3 I<|build82 _ _ _)<|oZ (sK 0 sizeOf82 I I I I I sB)<|tZ<|rE<|ST.retCD 0 s (.inl I) results255 I isAgg82 sizeOf82 I I uR ⟨I,I,a⟩
theorem dh (E:World)(g:PH)(s:Own)(v:Value)(l:List Cl)(id:Int)(b:ai g v l)(c:aJ l) :
  Ctr Tryz.prog E 252 #[.agg #[v],vi id] g s (fun r g' s'=>r=vb (findC l id).isSome∧s=s'∧Le g g'):=by
 refine zb2 (args:=[.agg #[v],vi id]) func252 I ntmps252 (bE I)<|rZ (bW (bO I) fun b2=>?_);refine aT I<|rZ<|SL.K (qV 0 aj ae I I I)<|lM I<|lW (SO.call call48 I<|a8 E g _ v l id b c) ?_;rintro _ g1 _ ⟨rfl,a,⟨yi,yd,yp,yn,yc⟩,rfl,d⟩;refine lM I (yX I<|yX I<|bW (aL zl7) fun b5=>?_);exact oZ (sK 0 aw I I I I I sB)<|aT I<|sW I<|aT I<|rE<|dR (s':=s) uR<|za8 (.inl I) results252 I ⟨I,I,a⟩
theorem oG {α β:Type}(f:α→β){l:List α}{k:Nat}(h:k<l.length):(l.take<|k+1).map f=(l.take k).map f++[f l[k]]:=by
 rw[tS h,zg7];rfl
theorem fI (E:World)(g:PH)(s:Own)(v:Value)(l:List Cl)(N:ai g v l)(M:aJ l) :
  Ctr Tryz.prog E 253 #[.agg #[v]] g s (fun r g' s'=>s=s'∧Le g g'∧∃ iv,r = .agg #[iv]∧Ims g' iv ((am l).map gv)):=by
 have O:=(bT M).1;refine zb2 (args:=[.agg #[v]]) func253 I ntmps253 (bE I)<|rZ (bW (bO I) fun b1=>?_);refine bW (aL zl8) fun b2=>tZ (rZ<|bW (aL zl8) fun b3=>?_);refine tZ<|rZ<|SL.K (qV 2 aj ae I I I)<|lW (SO.call call96 I<|dw E g _ v l N M) ?_;rintro v7 g1 _ ⟨rfl,t,P⟩;obtain ⟨rs,h,n⟩:=P;obtain ⟨p,c,rfl⟩:=za4 h;refine aT I<|sQ<|rZ<|aT I<|bK ?_;generalize am l=T at *;have Q:=n.length;refine zb6 113 2<|oP (ι:=Nat×PH×Value×List Im) (fun i=>[(2,pp b2 0),(3,pp b3 0),(4,.slice p rs.length c),(5,vi i.1)]) (fun i=>i.2.1)
  (fun i=>rowA ll 113 i.2.2.1 i.2.2.2::pt b3 (.cells #[i.2.2.1] 33 (0,0))::pt b2 (.cells #[.slice none 0 0] 33 (0,0))::pt b1 (.cells #[v] 29 (0,0))::s)
  (fun i=>i.1≤rs.length∧Le g1 i.2.1∧ax (ImR i.2.1) ((T.take i.1).map gv) i.2.2.2) (fun i=>rs.length - i.1) (0,g1,.slice none 0 0,[])
  sB rfl rfl ⟨zf8 _,zb9 _,by simp[ax]⟩ ?_
 rintro ⟨k,g2,ov,q⟩ ⟨R,a,b⟩;dsimp only at R a b ⊢;have C:=b.length;rw[ze8,ze6] at C;refine sQ<|sW I<|lM I<|lU (eN aB I)<|yL I<|tZ<|iP I (fun D=>?_) (fun D=>?_)
 ·have u:k<rs.length:=oM;have w:k<T.length:=oM;have j:=za6 h oM;have F:=n.get (List.getElem?_eq_getElem w) (List.getElem?_eq_getElem u);have y:rs[((k:Nat):Int).toNat]?=some rs[k]:=List.getElem?_eq_getElem u;have G:=oG gv w;generalize rs[k]=x at *;generalize T[k]=cx at *;obtain ⟨xi,xd,xp,xn,xc⟩:=x;obtain ⟨e1,e2,-⟩:=F;dsimp only at e1 e2;subst e1 e2;refine kP (tN (sQ (bK ?_)));refine dW [16,18] [(0,2),(1,1),(2,2),(3,2),(4,2),(5,2),(6,1),(7,2),(8,2),(9,2),(10,2),(11,1),(12,0),(13,0),(14,2),(15,0),(16,0),(17,2),(18,0)] ze5 kR<|pU I (fA y7 I th I) (pK I (qL isAgg31 I (cO 1 I I)) (yM I (yM I (pU I (iA aB aw I I j oM (show (k:Int)<((rs.length:Nat):Int) by omega)) ?_))));refine pU I (fC ao I zT3 I j) (pK I (aZ (e:=encCell) (o:=0) iT3 I (za7 (za5 h a)) y I) (yM I (yM I (pU I (iA aB aw I I j oM (show (k:Int)<((rs.length:Nat):Int) by omega)) ?_))));refine pU I (fC ao I zT3 I j) (pK I (aZ (e:=encCell) (o:=0) iT3 I (za7 (za5 h a)) y I) (SP.o I (SO.call call255 I (ew E g2 _ cx.id 1 dC dC)) dC (.inr iR) ?_));rintro _ g3 _ ⟨rfl,rfl,d⟩;refine SP.o I (bS sty77 I I I (ab ⟨I,trivial⟩) dC) dC (.inr iR) ?_;rintro _ _ _ ⟨m,rfl,rfl,rfl⟩;refine SP.freeze fun g4 z H=>?_;have J:SlA fm g4 (.slice (some ⟨m,0,none⟩) 1 1) [(cx.id,1)]:=SlA.lit H rfl rfl;have f:=d.trans z;refine pU I (za3 I (build113 _ _ _ _)) (SP.o I (bS sty31 I I I (ab sB) dC) dC (.inr iR) ?_);rintro _ _ _ ⟨S,rfl,rfl,rfl⟩;refine SP.o I (aP (e:=ll) 0 ⟨cx.id,⟨some ⟨m,0,none⟩,1,1⟩⟩ sty31 I I I I I oM oM) dC (.inl dC) ?_;rintro ov' _ _ ⟨rfl,rfl⟩;refine zd3 fun ⟨w0,A⟩=>?_;obtain ⟨q',d',rfl⟩:=ag (e:=ll) (l:=q++[⟨cx.id,⟨some ⟨m,0,none⟩,1,1⟩⟩]) (i:=0) A rfl;clear A w0;refine pU I (fA y7 I th I) (SP.on I (sK 1 th I I I I I sB) (.inl dC) ?_);rintro _ _ _ ⟨rfl,rfl⟩;refine pN (bN (tN (rG (lM I (yD I (lA I (SL.nil ?_)))))));exact ST.again (k+1,g4,_,q++[⟨cx.id,⟨some ⟨m,0,none⟩,1,1⟩⟩]) sB I I ⟨by dsimp only; omega,a.trans f,by
   dsimp only;rw[G];exact (b.mono fun _ _=>ImR.mono f).append ⟨⟨I,J⟩,trivial⟩⟩ (by dsimp only; omega)
 ·have L:T.take k=T:=tL oM;rw[L] at b;refine xI (tX<|tX<|bX<|tN<|sQ<|fS fun g3 d B=>?_);obtain ⟨q3,d3,rfl⟩:=zc3 B;exact rG<|SL.K (qV 0 isAgg33 p8 I I I)<|oZ (sK 1 p8 I I I I I sB)<|tZ<|rE<|ST.retCD 1 s (.inl I) results253 I isAgg33 p8 I I uR ⟨I,t.trans<|a.trans d,_,I,q,B,b.mono fun _ _=>ImR.mono d⟩
set_option maxHeartbeats 4000000
theorem Tryz.buildS35 (p:Option Addr)(n c:Nat)(w:World):(Instr.build 35 #[(0,.agg #[.slice p n c])]).run Tryz.prog w = .ok (.agg #[.slice p n c,vb false]) w:=by
 have a:(Value.agg #[Value.slice p n c]).cells = #[.slice p n c]:=rfl;simp[Instr.build,Instr.fill,a];rfl
def EG (code:Int)(D:List Cl)(ims:List (Int×List Tm))(bk:Bool)(r:Value)(g':PH):Prop:=∃ u p n c,r = .tuple #[.agg #[u],.agg #[.slice p n c,vb bk],vi code]∧ai g' u D∧(code=0→Ims g' (.slice p n c) ims)
theorem Ims.form {g:PH}{v:Value}{l:List (Int×List Tm)}(h:Ims g v l):∃ p n c,v = .slice p n c:=by
 obtain ⟨rs,a,b⟩:=h;obtain ⟨p,c,e⟩:=za4 a;exact⟨p,_,c,e⟩
theorem qF (E:World)(g:PH)(s:Own)(v ev:Value)(l:List Cl)(e:Ed)(Y:ai g v l)(R:aJ l)(he:EdR g ev e)(a0:e.sides.length<1099511627776)(code:Int)(k:code=if (findC l e.cell).isSome then 54 else 0) :
  Ctr Tryz.prog E 192 #[.agg #[v],ev] g s (fun r g' s'=>s=s'∧Le g g'∧EG code (if code=0 then l++[⟨e.cell,e.dim,e.sides⟩] else l) ((am l).map gv) false r g'):=by
 obtain ⟨sv,pv,rfl,L,S⟩:=he;obtain ⟨sp,sc,rfl⟩:=za4 L;obtain ⟨pq,pc,rfl⟩:=za4 S;have H:=Y;obtain ⟨rs,M,C⟩:=Y;have Z:=C.length;have a1:=R.1;obtain ⟨p,c,rfl⟩:=za4 M;refine zb2 (args:=[.agg #[.slice p rs.length c],.agg #[vi e.kind,vi e.cell,vi e.dim,vi e.new,vi e.other,.slice sp e.sides.length sc,.slice pq e.pairs.length pc]]) func192 I ntmps192 (bE I)<|rZ (bW (bO I) fun b2=>?_);refine bW (bO I) fun b3=>bW (aL zl9) fun b4=>bW (aL zl4) fun b5=>aT I<|sQ<|rZ<|SL.K (qV 3 aj ae I I I)<|lU (fA a6 I zT3 I)<|SL.K (qL iT3 I<|cO 2 I I)<|lW (SO.call call252 I<|dh E g _ _ l e.cell H R) ?_;rintro _ g1 _ ⟨rfl,rfl,a⟩;refine tZ<|iQ I (fun T=>?_) (fun T=>?_)
 ·have U:code=54:=by rw[k,T]; rfl
  subst U;exact rZ<|SL.K (qV 3 aj ae I I I)<|lU (za3 I buildZ35)<|oZ (sK 1 ae I I I I I sB)<|oZ (sK 0 bQ I I I I I sB)<|aT I<|rE<|tR<|ST.retCCT 1 0 s (.inl I) results192 I I I aj ae gw bQ I I I I uR ⟨I,a,_,_,_,_,I,H.mono a,fun h=>by cases h⟩
 ·have U:code=0:=by rw[k,T]; rfl
  subst U;have D:=za5 M a;have F:=za5 L a;have m:=C.mono fun _ _=>an.mono a;have V:=H.mono a;generalize g1=gg at *;refine kP<|tN<|SC.cut (ι:=Nat×Option Addr×Nat×Nat×PH) (fun i=>[(2,pp b2 0),(3,pp b3 0),(4,pp b4 0),(5,pp b5 0),(7,pp i.1 0)]) (fun i=>i.2.2.2.2) (fun i=>pt i.1 (.cells #[.slice i.2.1 i.2.2.1 i.2.2.2.1] 29 (0,0))::pt b5 (.cells #[.slice none 0 0,vb false] 35 (0,0))::pt b4 (.cells #[.slice none 0 0] 29 (0,0))::pt b3 (.cells #[vi e.kind,vi e.cell,vi e.dim,vi e.new,vi e.other,.slice sp e.sides.length sc,.slice pq e.pairs.length pc] 42 (0,0))::pt b2 (.cells #[.slice p rs.length c] 29 (0,0))::s)
   (fun i=>Le gg i.2.2.2.2∧ai i.2.2.2.2 (.slice i.2.1 i.2.2.1 i.2.2.2.1) (l++[⟨e.cell,e.dim,e.sides⟩])) ?_ ?_
  ·refine SC.drawX [] ze5 kR ?_;refine SX.u (i:=1) I kR (fA dn I cq I) dC<|SX.q (i:=2) I kR (qL (v:=.slice p rs.length c) eh I<|cO 3 I I) dC<|SX.u (i:=4) I kR (fA a6 I zT3 I) dC<|SX.q (i:=5) I kR (qL iT3 I<|cO 2 I I) dC<|SX.u (i:=6) I kR (fA a6 I zT3 I) dC<|SX.q (i:=7) I kR (qL iT3 I<|cO 2 I I) dC<|SX.u (i:=9) I kR (fA a6 I aM I) dC<|SX.q (i:=10) I kR (qL (v:=.slice sp e.sides.length sc) br I<|cO 2 I I) dC ?_
   repeat' (first
    | (refine SB.o (i:=0) I (bS sty27 I I I (ab trivial) dC) dC (.inr iR) ?_; rintro _ _ _ ⟨W,rfl,rfl,rfl⟩; refine SX.drop (zj3 _ _) ?_)
    | (refine SB.o (i:=0) I (bS sty27 I I I (ab trivial) dC) dC (.inr iR) ?_; rintro _ _ _ ⟨W,rfl,rfl,rfl⟩; refine SX.drop (zj3 _ _) ?_)
    | (refine SB.o (i:=3) I (SO.appNewA (e:=encCell) sty27 I I D oM oM) dC (.inr iR) ?_; rintro v17 _ _ ⟨rfl,rfl⟩)
    | (refine SB.o (i:=3) I (SO.appNewA (e:=encCell) sty27 I I D oM oM) dC (.inr iR) ?_; rintro v17 _ _ ⟨rfl,rfl⟩)
    | (refine SB.o (i:=8) I (bS sty39 I I I (ab trivial) dC) dC (.inr iR) ?_; rintro _ _ _ ⟨N,rfl,rfl,rfl⟩; refine SX.drop (zj3 _ _) ?_)
    | (refine SB.o (i:=8) I (bS sty39 I I I (ab trivial) dC) dC (.inr iR) ?_; rintro _ _ _ ⟨N,rfl,rfl,rfl⟩; refine SX.drop (zj3 _ _) ?_)
    | (refine SB.o (i:=8) I (bS sty39 I I I (ab trivial) dC) dC (.inr iR) ?_; rintro _ _ _ ⟨N,rfl,rfl,rfl⟩; refine SX.drop (zj3 _ _) ?_)
    | (refine SB.o (i:=11) I (SO.appNewA (e:=encSide) sty39 I I F oM oM) dC (.inr iR) ?_; rintro v25 _ _ ⟨rfl,rfl⟩; refine SX.freezeRow fun g2 t x=>?_; obtain ⟨q2,d2,rfl⟩:=za4 (e:=encSide) x; refine SX.u (i:=12) I kD (za3 I<|buildF56 _ _ _ I) dC ?_)
    | (refine SB.o (i:=11) I (SO.appNewA (e:=encSide) sty39 I I F oM oM) dC (.inr iR) ?_; rintro v25 _ _ ⟨rfl,rfl⟩; refine SX.freezeRow fun g2 t x=>?_; obtain ⟨q2,d2,rfl⟩:=za4 (e:=encSide) x; refine SX.u (i:=12) I kD (za3 I<|buildF56 _ _ _ I) dC ?_)
    | (refine SB.o (i:=13) I (bS sty27 I I I (ab ⟨I,trivial⟩) dC) dC (.inr iR) ?_; rintro _ _ _ ⟨X,rfl,rfl,rfl⟩; refine SX.to (fun w y=>At.litRow (e:=encCell) (l:=[⟨e.cell,e.dim,⟨q2,e.sides.length,d2⟩⟩]) (n:=0) y I I dC) ?_; refine SX.freezeRow fun g3 d J=>?_; have j:=t.trans d)
    | (refine SB.o (i:=13) I (bS sty27 I I I (ab ⟨I,trivial⟩) dC) dC (.inr iR) ?_; rintro _ _ _ ⟨X,rfl,rfl,rfl⟩; refine SX.to (fun w y=>At.litRow (e:=encCell) (l:=[⟨e.cell,e.dim,⟨q2,e.sides.length,d2⟩⟩]) (n:=0) y I I dC) ?_; refine SX.freezeRow fun g3 d J=>?_; have j:=t.trans d)
    | (refine SB.o (i:=14) I (aQ (e:=encCell) (l:=rs) 0 sty27 I I I J (by simp; omega) (by simp; omega)) dC (.inr iR) ?_; rintro v28 _ _ ⟨rfl,rfl⟩; refine SX.freezeRow fun g4 f z=>?_; have b:=j.trans f; obtain ⟨q4,d4,rfl⟩:=za4 (e:=encCell) z; have O:ai g4 (.slice q4 (rs++[(⟨e.cell,e.dim,⟨q2,e.sides.length,d2⟩⟩:Rc)]).length d4) (l++[⟨e.cell,e.dim,e.sides⟩]):=⟨rs++[(⟨e.cell,e.dim,⟨q2,e.sides.length,d2⟩⟩:Rc)],z,ax.append (m.mono fun _ _=>an.mono b) (show ax (an g4) [⟨e.cell,e.dim,e.sides⟩] [⟨e.cell,e.dim,⟨q2,e.sides.length,d2⟩⟩] from ⟨⟨rfl,rfl,za5 x<|d.trans f⟩,trivial⟩)⟩; refine SX.u (i:=15) I kD (za3 I<|build29 _ I) dC ?_)
    | (refine SB.o (i:=14) I (aQ (e:=encCell) (l:=rs) 0 sty27 I I I J (by simp; omega) (by simp; omega)) dC (.inr iR) ?_; rintro v28 _ _ ⟨rfl,rfl⟩; refine SX.freezeRow fun g4 f z=>?_; have b:=j.trans f; obtain ⟨q4,d4,rfl⟩:=za4 (e:=encCell) z; have O:ai g4 (.slice q4 (rs++[(⟨e.cell,e.dim,⟨q2,e.sides.length,d2⟩⟩:Rc)]).length d4) (l++[⟨e.cell,e.dim,e.sides⟩]):=⟨rs++[(⟨e.cell,e.dim,⟨q2,e.sides.length,d2⟩⟩:Rc)],z,ax.append (m.mono fun _ _=>an.mono b) (show ax (an g4) [⟨e.cell,e.dim,e.sides⟩] [⟨e.cell,e.dim,⟨q2,e.sides.length,d2⟩⟩] from ⟨⟨rfl,rfl,za5 x<|d.trans f⟩,trivial⟩)⟩; refine SX.u (i:=15) I kD (za3 I<|build29 _ I) dC ?_)
    | (refine SB.o (i:=16) I (aL zl9) dC (.inr iR) ?_; rintro _ _ _ ⟨B,rfl,rfl,rfl⟩; first | refine SX.to (fun w y=>At.perm y<|zk3 (rowA encCell 56 v17 rs) _ _) ?_ | skip)
    | (refine SB.o (i:=16) I (aL zl9) dC (.inr iR) ?_; rintro _ _ _ ⟨B,rfl,rfl,rfl⟩; first | refine SX.to (fun w y=>At.perm y<|zk3 (rowA encCell 56 v17 rs) _ _) ?_ | skip)
    | (refine SB.o (i:=16) I (aL zl9) dC (.inr iR) ?_; rintro _ _ _ ⟨B,rfl,rfl,rfl⟩; first | refine SX.to (fun w y=>At.perm y<|zk3 (rowA encCell 56 v17 rs) _ _) ?_ | skip)
    | (refine SB.o (i:=16) I (aL zl9) dC (.inr iR) ?_; rintro _ _ _ ⟨B,rfl,rfl,rfl⟩; first | refine SX.to (fun w y=>At.perm y<|zk3 (rowA encCell 56 v17 rs) _ _) ?_ | skip)
    | (refine SB.on (i:=17) I (sK 0 ae I I I I I sB) (.inr iR) ?_; rintro _ _ _ ⟨rfl,rfl⟩)
    | refine SX.br3 0 8 16 kD ?_ ?_ ?_
    | refine SX.br3 3 8 16 kD ?_ ?_ ?_
    | refine zd8 8 16 kD ?_ ?_
    | refine zd8 11 16 kD ?_ ?_
    | refine zd8 13 16 kD ?_ ?_
    | refine zd8 14 16 kD ?_ ?_
    | refine zd7 16 kD ?_
    | refine zd7 17 kD ?_
    | refine zd7 14 kD ?_
    | refine zd7 13 kD ?_
    | refine zd7 11 kD ?_
    | refine zd7 8 kD ?_
    | refine zd8 3 16 kD ?_ ?_
    | refine zd7 3 kD ?_
    | refine zd8 3 8 kD ?_ ?_
    | refine zd8 0 16 kD ?_ ?_
    | refine zd7 0 kD ?_
    | refine zd8 0 8 kD ?_ ?_
    | (refine SX.nil kD ?_; exact za9 (B,q4,(rs++[(⟨e.cell,e.dim,⟨q2,e.sides.length,d2⟩⟩:Rc)]).length,d4,g4) sB I I ⟨b,O⟩))
  rintro ⟨b7,q7,n7,d7,g5⟩ ⟨A,P⟩;dsimp only at A P ⊢;refine sQ<|dW [4,5] [(0,1),(1,1),(2,0),(3,2),(4,0),(5,0),(6,2)] ze5 kR<|pK I (qV 0 aj ae I I I)<|pK I (qV 4 aj ae I I I)<|SP.o I (SO.call call253 I<|fI E g5 _ _ l (V.mono A) R) dC (.inr iR) ?_;rintro _ g6 _ ⟨rfl,G,iv,rfl,Q⟩;obtain ⟨q6,n6,d6,rfl⟩:=Q.form;refine pU I (za3 I<|buildS35 _ _ _)<|SP.on I (sK 2 ae I I I I I sB) (.inl dC) ?_;rintro _ _ _ ⟨rfl,rfl⟩;refine SP.on I (sK 1 bQ I I I I I sB) (.inl dC) ?_;rintro _ _ _ ⟨rfl,rfl⟩;exact pU I (aS I)<|pN<|tN<|rE<|ST.retCCT 2 1 s (.inl I) results192 I I I aj ae gw bQ I I I I uR ⟨I,a.trans<|A.trans G,_,_,_,_,I,P.mono G,fun _=>Q⟩
end Go.Proofs.YtbbppeihhkhkcaaGreatDoor
namespace Go.Sy
open Go
section
variable {P:Program}{N:Nat}{E:World}{ops:Array Oper}{Q:Exit→Act→World→Prop}{g0:PH}{s0:Own}{tail:List Nat}{f:Fr}{g:PH}{s s':Own}{L:Array Bool}{n:Nat}
theorem SX.gq [q:Quiet Q]{i d:Nat}{op:Op}{ty:TypeId}{pos:String}{af:Array Edge}{gd:Option (Nat×Bool)}{v:Value}(m:ops[i]?=some ⟨some d,op,ty,pos,af,gd⟩)(b:wi ops tail L i=true)(hg:Gd N ops f ⟨some d,op,ty,pos,af,gd⟩ true)
  (r:SQ P N E ⟨some d,op,ty,pos,af,gd⟩ f g0 s0 v) (hd:d<N)
  (h:SX P N E ops Q g0 s0 tail (L.setIfInBounds i true) n ((d,v)::f) g s):SX P N E ops Q g0 s0 tail L (n+1) f g s:=by
 intro a w o e j t hb;simp only[wi,zj5,Bool.not_eq_true'] at b;obtain ⟨⟨⟨⟨p,u⟩,x⟩,y⟩,k⟩:=b;refine j5 m (Region.noSelect_spec o) (fun c a w z=>q.out c _ _ w (cY a d v) z) (by simpa using y) (iE x) _ L a w e (Region.free_spec m u) (by simpa using p)
  (.inl ⟨hg a j,fun w' l=>r a w' j l⟩) k (hb k) ?_
 exact h _ w o (cg e<|by simpa using p) (j.put hd v) t (fun _=>hb k)
theorem SX.gu [q:Quiet Q]{i d:Nat}{op:Op}{ty:TypeId}{pos:String}{af:Array Edge}{gd:Option (Nat×Bool)}{v:Value}(m:ops[i]?=some ⟨some d,op,ty,pos,af,gd⟩)(b:qr ops tail L i=true)(hg:Gd N ops f ⟨some d,op,ty,pos,af,gd⟩ true)
  (r:SU P N ⟨some d,op,ty,pos,af,gd⟩ f v) (hd:d<N)
  (h:SX P N E ops Q g0 s0 tail (L.setIfInBounds i true) n ((d,v)::f) g s):SX P N E ops Q g0 s0 tail L (n+1) f g s:=by
 intro a w o j k t hb;simp only[qr,zj5,Bool.not_eq_true'] at b;obtain ⟨⟨p,u⟩,x⟩:=b;have e:i ∉ tail:=by simpa using x
 refine gY m (Region.noSelect_spec o) (fun c a w y=>q.out c _ _ w (cY a d v) y) e _ L a w (Region.free_spec m u) (by simpa using p)
  (.inl ⟨hg a k,fun w'=>r a w' k⟩) hb ?_
 exact h _ w o (cg j<|by simpa using p) (k.put hd v) t (fun l=>hb<|by rwa [ek e] at l)
theorem SX.off [q:Quiet Q]{i d:Nat}{op:Op}{ty:TypeId}{pos:String}{af:Array Edge}{gd:Option (Nat×Bool)}(l:ops[i]?=some ⟨some d,op,ty,pos,af,gd⟩)(b:qr ops tail L i=true)(hg:Gd N ops f ⟨some d,op,ty,pos,af,gd⟩ false)(hd:d<N)
  (h:SX P N E ops Q g0 s0 tail (L.setIfInBounds i true) n ((d,undef)::f) g s):SX P N E ops Q g0 s0 tail L (n+1) f g s:=by
 intro a w m j o r hb;simp only[qr,zj5,Bool.not_eq_true'] at b;obtain ⟨⟨p,t⟩,u⟩:=b;have e:i ∉ tail:=by simpa using u
 refine gY l (Region.noSelect_spec m) (fun c a w v=>q.out c _ _ w (cY a d undef) v) e _ L a w (Region.free_spec l t) (by simpa using p)
  (.inr ⟨hg a o,rfl⟩) hb ?_
 exact h _ w m (cg j<|by simpa using p) (o.put hd undef) r (fun k=>hb<|by rwa [ek e] at k)
theorem SB.go {i d:Nat}{op:Op}{ty:TypeId}{pos:String}{af:Array Edge}{gd:Option (Nat×Bool)}{K:Value→PH→Own→Prop}(a:ops[i]?=some ⟨some d,op,ty,pos,af,gd⟩)(hg:Gd N ops f ⟨some d,op,ty,pos,af,gd⟩ true)
  (b:SO P N E ⟨some d,op,ty,pos,af,gd⟩ f g s K) (hd:d<N) (c:i∈tail∨∀ v g' s',K v g' s'→Le g0 g'∧s0.Sublist s')
  (h:∀ v g' s',K v g' s'→SX P N E ops Q g0 s0 tail (L.setIfInBounds i true) n ((d,v)::f) g' s'):SB P N E ops Q g0 s0 tail L n i f g s :=
 SB.step a hg b c fun v g' s' _ e j=>⟨_,j.put hd v,h v g' s' e⟩
theorem SB.offo {i d:Nat}{op:Op}{ty:TypeId}{pos:String}{af:Array Edge}{gd:Option (Nat×Bool)}(l:ops[i]?=some ⟨some d,op,ty,pos,af,gd⟩)
  (hg:Gd N ops f ⟨some d,op,ty,pos,af,gd⟩ false) (hd:d<N) (e:Le g0 g∧s0.Sublist s)
  (h:SX P N E ops Q g0 s0 tail (L.setIfInBounds i true) n ((d,undef)::f) g s):SB P N E ops Q g0 s0 tail L n i f g s:=by
 intro a w m c hr j k hb;unfold wpOp;simp only[l];rw[zg2 (by rw[hg a j]; simp)];have b:fz tail (L.setIfInBounds i true)=false→At E g0 s0 w:=fun _=>(k.less e.1).sublist e.2;exact⟨b,h _ w m (cg c hr) (j.put hd undef) k b⟩
theorem SB.ob {i d:Nat}{op:Op}{ty:TypeId}{pos:String}{af:Array Edge}{K:Value→PH→Own→Prop}(m:ops[i]?=some ⟨some d,op,ty,pos,af,none⟩)
  (o:SO P N E ⟨some d,op,ty,pos,af,none⟩ f g s K) (hd:d<N) (c:fz tail (L.setIfInBounds i true)=true)
  (h:∀ v g' s',K v g' s'→SX P N E ops Q g0 s0 tail (L.setIfInBounds i true) n ((d,v)::f) g' s'):SB P N E ops Q g0 s0 tail L n i f g s:=by
 intro a w p e hr j q hb;unfold wpOp;simp only[m];rw[zg3<|Gd.none rfl a j];refine .inl (o a w j q Q _ fun v g' s' w' r k=>?_);have b:fz tail (L.setIfInBounds i true)=false→At E g0 s0 w':=fun l=>by rw[c] at l; cases l
 exact⟨b,h v g' s' r _ w' p (cg e hr) (j.put hd v) k b⟩
end
end Go.Sy
namespace Go.Proofs.YtbbppeihhkhkcaaGreatDoor
open _root_.Go.Proofs.Tryz _root_.Go.Proofs.YtbbppeihhkhkcaaGreatDoor.Tryz
open Go Go.Sy Go.Pl Go.Proofs
set_option maxRecDepth 100000
set_option maxHeartbeats 4000000
def tO (fn:Nat)(e:Ed)(A:List Cl)(code:Int)(D:List Cl)(ims:List (Int×List Tm))(bk:Bool):Prop:=∀ (E:World) (g:PH) (s:Own) (v ev:Value),ai g v A→EdR g ev e →
 Ctr Tryz.prog E fn #[.agg #[v],ev] g s (fun r g' s'=>s=s'∧Le g g'∧EG code D ims bk r g')
def fu (code:Int)(D:List Cl)(ims:List (Int×List Tm))(bk:Bool)(r:Value)(g':PH):Prop:=∃ u p n c b,r = .tuple #[.agg #[u],.agg #[.slice p n c,vb b],vi code]∧ai g' u D∧(code=0→b=bk∧Ims g' (.slice p n c) ims)∧(code≠0→b=false∧Ims g' (.slice p n c) [])
theorem Ims.nil (g:PH):Ims g (.slice none 0 0) []:=⟨[],zc1 g _,trivial⟩
theorem vK (l:List Cl):ap (aa l)=ap l:=by
 have a:am (aa l)=am l:=by unfold am; rw[fK]
 unfold ap;rw[a,fK,au]
theorem vz (E:World)(g:PH)(s:Own)(v ev:Value)(l:List Cl)(e:Ed)(ims:List (Int×List Tm))(bk:Bool)(i:ai g v l)(j:aJ l)(k:EdR g ev e)(a:(ap l).2≠0) :
  Ctr Tryz.prog E 142 #[.agg #[v],ev] g s (fun r g' s'=>s=s'∧Le g g'∧fu 1 [] ims bk r g'):=by
 obtain ⟨sv,pv,rfl,d,f⟩:=k;obtain ⟨sp,sc,rfl⟩:=za4 d;obtain ⟨pq,pc,rfl⟩:=za4 f;obtain ⟨p,c,rfl⟩:=i.form;have hd:decide ((aF l).2=0)=false:=by rw[dG]; exact zf9 a
 refine zb2 (args:=[.agg #[.slice p l.length c],.agg #[vi e.kind,vi e.cell,vi e.dim,vi e.new,vi e.other,.slice sp e.sides.length sc,.slice pq e.pairs.length pc]]) func142 I ntmps142 (bE I)<|rZ (bW (bO I) fun b2=>?_);refine bW (bO I) fun b3=>bW (aL zl9) fun b4=>bW (aL zl4) fun b5=>aT I<|rZ<|SL.K (qV 3 aj ae I I I)<|lW (SO.call call94 I<|dQ E g _ _ l i j) ?_;rintro _ g1 _ ⟨rfl,rfl,b⟩;rw[hd];exact aT I<|sQ<|sW I<|lU (SU.not I)<|tZ<|za2 I<|rZ<|lU (za3 I buildE29)<|lU (za3 I buildZ35)<|oZ (sK 1 ae I I I I I sB)<|oZ (sK 0 bQ I I I I I sB)<|aT I<|rE<|tR<|ST.retCCT 1 0 s (.inl I) results142 I I I aj ae gw bQ I I I I uR ⟨I,b,_,_,_,_,_,I,ai.nil _,(fun h=>by cases h),fun _=>⟨I,Ims.nil _⟩⟩
theorem gn (E:World)(g:PH)(s:Own)(v ev:Value)(l:List Cl)(e:Ed)(code:Int)(D:List Cl)(ims:List (Int×List Tm))(bk:Bool)(C:ai g v l)(F:aJ l)(M:EdR g ev e)(hr:(ap l).2=0)(G:aJ D)
  (j:e.kind=1∨e.kind=2∨e.kind=3∨e.kind=4∨e.kind=5)
  (N:e.kind=1→tO 192 e (aa l) code D ims bk) (O:e.kind=2→tO 193 e (aa l) code D ims bk) (P:e.kind=3→tO 194 e (aa l) code D ims bk) (Q:e.kind=4→tO 195 e (aa l) code D ims bk) (R:e.kind=5→tO 196 e (aa l) code D ims bk) :
  Ctr Tryz.prog E 142 #[.agg #[v],ev] g s (fun r g' s'=>s=s'∧Le g g'∧fu (aV code D).1 (aV code D).2 ims bk r g'):=by
 have H:=M;obtain ⟨sv,pv,rfl,J,L⟩:=M;obtain ⟨sp,sc,rfl⟩:=za4 J;obtain ⟨pq,pc,rfl⟩:=za4 L;obtain ⟨p,c,rfl⟩:=C.form;have hd:decide ((aF l).2=0)=true:=by rw[dG]; exact zg1 hr
 refine zb2 (args:=[.agg #[.slice p l.length c],.agg #[vi e.kind,vi e.cell,vi e.dim,vi e.new,vi e.other,.slice sp e.sides.length sc,.slice pq e.pairs.length pc]]) func142 I ntmps142 (bE I)<|rZ (bW (bO I) fun b2=>?_);refine bW (bO I) fun b3=>bW (aL zl9) fun b4=>bW (aL zl4) fun b5=>aT I<|rZ<|SL.K (qV 3 aj ae I I I)<|lW (SO.call call94 I<|dQ E g _ _ l C F) ?_;rintro _ g1 _ ⟨rfl,rfl,m⟩;rw[hd];refine aT I<|sQ<|sW I<|lU (SU.not I)<|tZ<|za1 I<|kP<|tN<|rZ<|SL.K (qV 3 aj ae I I I)<|lW (SO.call call102 I<|bZ E g1 _ _ l (C.mono m) F) ?_;rintro _ g2 _ ⟨rfl,x,u2,rfl,hA⟩;obtain ⟨p2,c2,rfl⟩:=hA.form;refine bW (aL zl9) fun b8=>oZ (sK 0 ae I I I I I sB)<|tZ (rZ<|bW (aL zl9) fun b9=>?_);refine tZ (rZ<|bW (aL zl4) fun z=>?_);refine tZ<|rZ<|aT I ?_;have S:=aA F;have n:=H.mono<|m.trans x;generalize aa l=A at *;refine SC.cut (ι:=PH×Value×Option Addr×Nat×Nat) (fun _=>[(4,pp b4 0),(5,pp b5 0),(9,pp b9 0),(10,pp z 0),(11,vi code)]) (fun i=>i.1) (fun i=>pt z (.cells #[.slice i.2.2.1 i.2.2.2.1 i.2.2.2.2,vb bk] 35 (0,0))::pt b9 (.cells #[i.2.1] 29 (0,0))::pt b5 (.cells #[.slice none 0 0,vb false] 35 (0,0))::pt b4 (.cells #[.slice none 0 0] 29 (0,0))::s)
  (fun i=>Le g2 i.1∧ai i.1 i.2.1 D∧(code=0→Ims i.1 (.slice i.2.2.1 i.2.2.2.1 i.2.2.2.2) ims)) ?_ ?_
 ·rcases j with j | j | j | j | j
  ·refine rZ<|lU (fA a6 I zT3 I)<|SL.K (qL iT3 I<|cO 5 I I)<|tZ<|bK<|rZ<|lU (SU.eq (v':=vb true) (eQ I I)<|ze4 vb<|zg1 j)<|aT I<|za2 I<|rG<|SL.K (qV 2 aj ae I I I)<|SL.K (qV 5 j3 eu I I I)<|lW (SO.call call192 I<|N j E g2 _ _ _ hA n) ?_;rintro _ g3 _ ⟨rfl,b,u3,p3,n3,c3,rfl,a,d⟩;obtain ⟨pu,cu,rfl⟩:=a.form;exact lM I<|yX I<|yX I<|yX I<|oZ (sK 1 ae I I I I I sB)<|oZ (sK 0 bQ I I I I I sB)<|lA I<|SL.nil<|bN<|dR (.cons_cons _<|.cons_cons _<|.cons _<|.cons_cons _<|.cons_cons _<|.cons _<|.cons _<|.refl _)<|za9 (g3,_,p3,n3,c3) sB I I ⟨b,a,d⟩
  ·refine rZ<|lU (fA a6 I zT3 I)<|SL.K (qL iT3 I<|cO 5 I I)<|tZ<|bK<|rZ<|lU (SU.eq (v':=vb false) (eQ I I)<|ze4 vb<|zf9 oM)<|aT I<|za1 I<|rZ<|lU (SU.eq (v':=vb true) (eQ I I)<|ze4 vb<|zg1 j)<|aT I<|za2 I<|rG<|SL.K (qV 2 aj ae I I I)<|SL.K (qV 5 j3 eu I I I)<|lW (SO.call call193 I<|O j E g2 _ _ _ hA n) ?_;rintro _ g3 _ ⟨rfl,b,u3,p3,n3,c3,rfl,a,d⟩;obtain ⟨pu,cu,rfl⟩:=a.form;exact lM I<|yX I<|yX I<|yX I<|oZ (sK 1 ae I I I I I sB)<|oZ (sK 0 bQ I I I I I sB)<|lA I<|SL.nil<|bN<|dR (.cons_cons _<|.cons_cons _<|.cons _<|.cons_cons _<|.cons_cons _<|.cons _<|.cons _<|.refl _)<|za9 (g3,_,p3,n3,c3) sB I I ⟨b,a,d⟩
  ·refine rZ<|lU (fA a6 I zT3 I)<|SL.K (qL iT3 I<|cO 5 I I)<|tZ<|bK<|rZ<|lU (SU.eq (v':=vb false) (eQ I I)<|ze4 vb<|zf9 oM)<|aT I<|za1 I<|rZ<|lU (SU.eq (v':=vb false) (eQ I I)<|ze4 vb<|zf9 oM)<|aT I<|za1 I<|rZ<|lU (SU.eq (v':=vb true) (eQ I I)<|ze4 vb<|zg1 j)<|aT I<|za2 I<|rG<|SL.K (qV 2 aj ae I I I)<|SL.K (qV 5 j3 eu I I I)<|lW (SO.call call194 I<|P j E g2 _ _ _ hA n) ?_;rintro _ g3 _ ⟨rfl,b,u3,p3,n3,c3,rfl,a,d⟩;obtain ⟨pu,cu,rfl⟩:=a.form;exact lM I<|yX I<|yX I<|yX I<|oZ (sK 1 ae I I I I I sB)<|oZ (sK 0 bQ I I I I I sB)<|lA I<|SL.nil<|bN<|dR (.cons_cons _<|.cons_cons _<|.cons _<|.cons_cons _<|.cons_cons _<|.cons _<|.cons _<|.refl _)<|za9 (g3,_,p3,n3,c3) sB I I ⟨b,a,d⟩
  ·refine rZ<|lU (fA a6 I zT3 I)<|SL.K (qL iT3 I<|cO 5 I I)<|tZ<|bK<|rZ<|lU (SU.eq (v':=vb false) (eQ I I)<|ze4 vb<|zf9 oM)<|aT I<|za1 I<|rZ<|lU (SU.eq (v':=vb false) (eQ I I)<|ze4 vb<|zf9 oM)<|aT I<|za1 I<|rZ<|lU (SU.eq (v':=vb false) (eQ I I)<|ze4 vb<|zf9 oM)<|aT I<|za1 I<|rZ<|lU (SU.eq (v':=vb true) (eQ I I)<|ze4 vb<|zg1 j)<|aT I<|za2 I<|rG<|SL.K (qV 2 aj ae I I I)<|SL.K (qV 5 j3 eu I I I)<|lW (SO.call call195 I<|Q j E g2 _ _ _ hA n) ?_;rintro _ g3 _ ⟨rfl,b,u3,p3,n3,c3,rfl,a,d⟩;obtain ⟨pu,cu,rfl⟩:=a.form;exact lM I<|yX I<|yX I<|yX I<|oZ (sK 1 ae I I I I I sB)<|oZ (sK 0 bQ I I I I I sB)<|lA I<|SL.nil<|bN<|dR (.cons_cons _<|.cons_cons _<|.cons _<|.cons_cons _<|.cons_cons _<|.cons _<|.cons _<|.refl _)<|za9 (g3,_,p3,n3,c3) sB I I ⟨b,a,d⟩
  ·refine rZ<|lU (fA a6 I zT3 I)<|SL.K (qL iT3 I<|cO 5 I I)<|tZ<|bK<|rZ<|lU (SU.eq (v':=vb false) (eQ I I)<|ze4 vb<|zf9 oM)<|aT I<|za1 I<|rZ<|lU (SU.eq (v':=vb false) (eQ I I)<|ze4 vb<|zf9 oM)<|aT I<|za1 I<|rZ<|lU (SU.eq (v':=vb false) (eQ I I)<|ze4 vb<|zf9 oM)<|aT I<|za1 I<|rZ<|lU (SU.eq (v':=vb false) (eQ I I)<|ze4 vb<|zf9 oM)<|aT I<|za1 I<|rZ<|lU (SU.eq (v':=vb true) (eQ I I)<|ze4 vb<|zg1 j)<|aT I<|za2 I<|rG<|SL.K (qV 2 aj ae I I I)<|SL.K (qV 5 j3 eu I I I)<|lW (SO.call call196 I<|R j E g2 _ _ _ hA n) ?_;rintro _ g3 _ ⟨rfl,b,u3,p3,n3,c3,rfl,a,d⟩;obtain ⟨pu,cu,rfl⟩:=a.form;exact lM I<|yX I<|yX I<|yX I<|oZ (sK 1 ae I I I I I sB)<|oZ (sK 0 bQ I I I I I sB)<|lA I<|SL.nil<|bN<|dR (.cons_cons _<|.cons_cons _<|.cons _<|.cons_cons _<|.cons_cons _<|.cons _<|.cons _<|.refl _)<|za9 (g3,_,p3,n3,c3) sB I I ⟨b,a,d⟩
 rintro ⟨g3,u3,p3,n3,c3⟩ ⟨b,a,d⟩;dsimp only at b a d ⊢;have k:=m.trans<|x.trans b;obtain ⟨pu,cu,rfl⟩:=a.form;refine sQ<|sW I<|yE I<|tZ<|iP I (fun B=>?_) (fun B=>?_)
 ·subst B;have q:aV 0 D=if (ap D).2≠0 then ((ap D).2,[]) else (0,aa D):=by unfold aV; rw[vK]; rfl
  rw[q];refine rG<|SL.K (qV 1 aj ae I I I)<|lW (SO.call call161 I<|mr E g3 _ _ D a G) ?_;rintro _ g4 _ ⟨rfl,rfl,f⟩;rw[dG];refine lM I<|yX I<|yX I<|aT I<|sQ<|sW I<|lU (nQ I I)<|tZ<|iP I (fun hz=>?_) (fun hz=>?_)
  ·have y:(if (ap D).2≠0 then ((ap D).2,[]) else ((0:Int),aa D))=((ap D).2,[]):=zg3 hz;rw[y];exact rZ<|lU (za3 I buildE29)<|lU (za3 I buildZ35)<|lM I<|oZ (sK 3 ae I I I I I sB)<|oZ (sK 2 bQ I I I I I sB)<|aT I<|rE<|tR<|ST.retCCT 3 2 s (.inl I) results142 I I I aj ae gw bQ I I I I uR ⟨I,k.trans f,_,_,_,_,_,I,ai.nil _,fun h=>absurd h hz,fun _=>⟨I,Ims.nil _⟩⟩
  ·have y:(if (ap D).2≠0 then ((ap D).2,[]) else ((0:Int),aa D))=(0,aa D):=zg2 hz;rw[y];refine kP<|tN<|sQ ?_;refine SC.drawX [2,3,4] ze5 kR ?_
   repeat' (first
    | (refine SB.o (i:=0) I (SQ.sof<|qV 1 aj ae I I I) dC (.inr iR) ?_; rintro _ _ _ ⟨rfl,rfl,rfl⟩)
    | (refine SB.ob (i:=0) I (SQ.sof<|qV 1 aj ae I I I) dC kD ?_; rintro _ _ _ ⟨rfl,rfl,rfl⟩)
    | (refine SB.o (i:=1) I (SO.call call102 I<|bZ E g4 _ _ D (a.mono f) G) dC (.inr iR) ?_; rintro _ g5 _ ⟨rfl,t,u5,rfl,w⟩; obtain ⟨p5,c5,rfl⟩:=w.form)
    | (refine SB.ob (i:=1) I (SO.call call102 I<|bZ E g4 _ _ D (a.mono f) G) dC kD ?_; rintro _ g5 _ ⟨rfl,t,u5,rfl,w⟩; obtain ⟨p5,c5,rfl⟩:=w.form)
    | (refine SB.o (i:=2) I (SQ.sof<|qV 0 gw bQ I I I) dC (.inl dC) ?_; rintro _ _ _ ⟨rfl,rfl,rfl⟩)
    | (refine SB.on (i:=3) I (sK 3 ae I I I I I sB) (.inl dC) ?_; rintro _ _ _ ⟨rfl,rfl⟩)
    | (refine SB.on (i:=4) I (sK 2 bQ I I I I I sB) (.inl dC) ?_; rintro _ _ _ ⟨rfl,rfl⟩; refine SX.u (i:=5) I kD (aS I) dC ?_)
    | refine zd8 0 2 kD ?_ ?_
    | refine zd8 1 2 kD ?_ ?_
    | refine zd8 2 3 kD ?_ ?_
    | refine zd7 3 kD ?_
    | refine zd7 4 kD ?_
    | refine zd7 2 kD ?_
    | refine zd7 1 kD ?_
    | refine zd7 0 kD ?_
    | (refine SX.nil kD ?_; refine tN ?_; refine rE ?_; exact ST.retCCT 3 2 s (.inl I) results142 I I I aj ae gw bQ I I I I uR ⟨I,k.trans (f.trans t),_,_,_,_,_,I,w,fun _=>⟨I,(d I).mono (f.trans t)⟩,fun h=>absurd I h⟩))
 ·have q:aV code D=(code,[]):=zg3 B;rw[q];refine kP<|tN<|sQ<|sW I<|lU (nQ I I)<|tZ<|iP I (fun hz=>?_) (fun hz=>?_)
  ·exact rZ<|lU (za3 I buildE29)<|lU (za3 I buildZ35)<|lM I<|oZ (sK 3 ae I I I I I sB)<|oZ (sK 2 bQ I I I I I sB)<|aT I<|rE<|tR<|ST.retCCT 3 2 s (.inl I) results142 I I I aj ae gw bQ I I I I uR ⟨I,k,_,_,_,_,_,I,ai.nil _,fun h=>absurd h B,fun _=>⟨I,Ims.nil _⟩⟩
  ·exact absurd B hz
theorem tD (E:World)(g:PH)(s:Own)(v ev:Value)(l:List Cl)(e:Ed)(ims:List (Int×List Tm))(bk:Bool)(d:ai g v l)(q:aJ l)(u:EdR g ev e)(hr:(ap l).2=0)
  (f:e.kind≠1) (i:e.kind≠2) (j:e.kind≠3) (k:e.kind≠4) (m:e.kind≠5) :
  Ctr Tryz.prog E 142 #[.agg #[v],ev] g s (fun r g' s'=>s=s'∧Le g g'∧fu 1 [] ims bk r g'):=by
 obtain ⟨sv,pv,rfl,n,o⟩:=u;obtain ⟨sp,sc,rfl⟩:=za4 n;obtain ⟨pq,pc,rfl⟩:=za4 o;obtain ⟨p,c,rfl⟩:=d.form;have hd:decide ((aF l).2=0)=true:=by rw[dG]; exact zg1 hr
 refine zb2 (args:=[.agg #[.slice p l.length c],.agg #[vi e.kind,vi e.cell,vi e.dim,vi e.new,vi e.other,.slice sp e.sides.length sc,.slice pq e.pairs.length pc]]) func142 I ntmps142 (bE I)<|rZ (bW (bO I) fun b2=>?_);refine bW (bO I) fun b3=>bW (aL zl9) fun b4=>bW (aL zl4) fun b5=>aT I<|rZ<|SL.K (qV 3 aj ae I I I)<|lW (SO.call call94 I<|dQ E g _ _ l d q) ?_;rintro _ g1 _ ⟨rfl,rfl,a⟩;rw[hd];refine aT I<|sQ<|sW I<|lU (SU.not I)<|tZ<|za1 I<|kP<|tN<|rZ<|SL.K (qV 3 aj ae I I I)<|lW (SO.call call102 I<|bZ E g1 _ _ l (d.mono a) q) ?_;rintro _ g2 _ ⟨rfl,b,u2,rfl,hA⟩;obtain ⟨p2,c2,rfl⟩:=hA.form;refine bW (aL zl9) fun b8=>oZ (sK 0 ae I I I I I sB)<|tZ (rZ<|bW (aL zl9) fun b9=>?_);refine tZ (rZ<|bW (aL zl4) fun w=>?_);refine tZ<|rZ<|aT I<|sQ<|rZ<|lU (fA a6 I zT3 I)<|SL.K (qL iT3 I<|cO 5 I I)<|tZ<|bK<|rZ<|lU (SU.eq (v':=vb false) (eQ I I)<|ze4 vb<|zf9 f)<|aT I<|za1 I<|rZ<|lU (SU.eq (v':=vb false) (eQ I I)<|ze4 vb<|zf9 i)<|aT I<|za1 I<|sQ<|rG<|lU (SU.eq (v':=vb false) (eQ I I)<|ze4 vb<|zf9 j)<|aT I<|za1 I<|rZ<|lU (SU.eq (v':=vb false) (eQ I I)<|ze4 vb<|zf9 k)<|aT I<|za1 I<|rZ<|lU (SU.eq (v':=vb false) (eQ I I)<|ze4 vb<|zf9 m)<|aT I<|za1 I<|kP<|bN<|tN<|sQ<|sW I<|yE I<|tZ<|iP I (fun t=>?_) (fun t=>?_)
 ·cases t
 ·refine kP<|tN<|sQ<|sW I<|lU (nQ I I)<|tZ<|iP I (fun hz=>?_) (fun hz=>?_)
  ·exact rZ<|lU (za3 I buildE29)<|lU (za3 I buildZ35)<|lM I<|oZ (sK 4 ae I I I I I sB)<|oZ (sK 3 bQ I I I I I sB)<|aT I<|rE<|tR<|ST.retCCT 4 3 s (.inl I) results142 I I I aj ae gw bQ I I I I uR ⟨I,a.trans b,_,_,_,_,_,I,ai.nil _,(fun h=>by cases h),fun _=>⟨I,Ims.nil _⟩⟩
  ·exact absurd dC hz
def GP (S:Int→List Int)(m:List Pr)(a y:Int):Prop:=∃ h,FI m a=some h∧y∈S h∧y≠a∧(FI m y).isSome=true
inductive Gx (S:Int→List Int)(m:List Pr):Int→Int→Prop
 | one (a y:Int) (h:GP S m a y):Gx S m a y
 | cons (a y z:Int) (h:GP S m a y) (h2:Gx S m y z):Gx S m a z
section
variable {S:Int→List Int}{m:List Pr}{low a:Int}{v w met:List Int}
end
section
variable {S:Int→List Int}{m:List Pr}(hm:(m.map Prod.fst).Nodup)
include hm
end
end Go.Proofs.YtbbppeihhkhkcaaGreatDoor
namespace Go.Sy
open Go Go.MapKept
section
variable {P:Program}{N:Nat}{E:World}{f:Fr}{g:PH}{s:Own}{dst:Option Tmp}{ty:TypeId}{pos:String}{af:Array Edge}{gd:Option (Nat×Bool)}
end
end Go.Sy
namespace Go.Proofs.YtbbppeihhkhkcaaGreatDoor
open _root_.Go.Proofs.Tryz _root_.Go.Proofs.YtbbppeihhkhkcaaGreatDoor.Tryz
open Go Go.Sy Go.Pl Go.Proofs
set_option maxRecDepth 100000
set_option maxHeartbeats 2000000
set_option maxHeartbeats 4000000
section
variable {l:List Cl}(hl:(ap l).2=0)
include hl
end
section
variable {l:List Cl}(hl:(ap l).2=0)
include hl
end
end Go.Proofs.YtbbppeihhkhkcaaGreatDoor
namespace Go.Sy
open Go Go.MapKept
instance quiet_scope {Q:Exit→Act→World→Prop}[h:Quiet Q]:Quiet (Exit.noGoto Q):=⟨fun c a a' w hd hq=>h.out c a a' w hd hq⟩
section
variable {P:Program}{N:Nat}{E:World}{Q:Exit→Act→World→Prop}{f:Fr}{g:PH}{s:Own}
theorem SC.scope {c:Code}(h:SC P N E c (Exit.noGoto Q) f g s):SC P N E (.scope c) Q f g s:=fun a w b d=>wp_scope_straight (h a w b d)
theorem ST.scopeN (h:ST N E Q .normal f g s):ST N E (Exit.noGoto Q) .normal f g s:=h
end
end Go.Sy
namespace Go.Proofs.YtbbppeihhkhkcaaGreatDoor
open _root_.Go.Proofs.Tryz _root_.Go.Proofs.YtbbppeihhkhkcaaGreatDoor.Tryz
open Go Go.Sy Go.Pl Go.Proofs
section
variable {l:List Cl}(hl:(ap l).2=0)
include hl
end
open Go Go.Sy Go.Pl Go.Proofs Go.Shelf Go.Sort
set_option maxRecDepth 100000
theorem ry {α:Type}[Inhabited α]{k:Nat}(en:Enc α k)(l:List α):(flatK en.enc k l.toArray).toList=l.flatMap en.enc:=by
 apply List.ext_getElem?;intro t;by_cases a:t<l.length * k
 ·have b:t / k<l.length:=by rw[Nat.div_lt_iff_lt_mul en.pos]; exact a
  have h:t % k<k:=Nat.mod_lt _ en.pos;have i:l[t / k]?=some l[t / k]:=List.getElem?_eq_getElem b;have c:t % k<(en.enc l[t / k]).length:=by rw[en.len]; exact h
  have d:=Enc.get (e:=en) (l:=l) i<|List.getElem?_eq_getElem c;rw[show t / k * k+t % k=t from Nat.div_add_mod' t k] at d;rw[d];have f:t<(flatK en.enc k l.toArray).size:=by simpa using a
  rw[Array.getElem?_toList,Array.getElem?_eq_getElem f];have g:=get_flatK en.enc k l.toArray t (by simpa using a);rw[getElem!_pos _ t f] at g;rw[g];have j:l.toArray[t / k]! = l[t / k]:=by rw[getElem!_pos l.toArray (t / k) (by simpa using b)]; simp
  rw[j,getElem!_pos (en.enc l[t / k]) (t % k) c]
 ·rw[List.getElem?_eq_none (by simp; omega),List.getElem?_eq_none (by rw[Enc.length]; omega)]
def GA (P:Program)(fn:Nat){α:Type}(enc:α→List Value)(cf:α→α→Int):Prop:=∀ (E:World) (g:PH) (s:Own) (x y:α),
 Ctr P E fn #[.agg (enc x).toArray,.agg (enc y).toArray] g s (fun r g' s'=>r = .int .i64 (cf x y)∧g=g'∧s=s')
theorem xO {P:Program}{ρ:Ren}(L:SlLaysF0.n6 P ρ){α:Type}[Inhabited α]{k:Nat}(en:Enc α k)(aE:∀ w,(isAgg<|ρ.t 24).run P w = .ok true w)(zE:∀ w,(Go.sizeOf<|ρ.t 24).run P w = .ok k w)(cf:α→α→Int)(Z:SWO (ltOf cf))(fn:Nat)
  (eg:∀ args w,(callFunc fn args).run P w = .ok (.enter fn args) w) (B:GA P fn en.enc cf) (T:TypeId) (E:World) (g:PH) (s:Own) (v:Value) (l:List α) (i:Nat) (z:s[i]?=some (rowA en T v l)) (hl:l.length<1099511627776) :
  Ctr P E (ρ.f 6) #[v,.func (.func fn) #[] #[]] g s (fun _ g' s'=>g=g'∧∃ l':List α,l'.Perm l∧(l'.Pairwise fun x y=>¬ cf y x<0)∧s'=s.set i (rowA en T v l')):=by
 intro w J;obtain ⟨K,h2⟩:=gX J z
 rcases h2 with ⟨p,rfl,hn⟩ | ⟨b,cap,h,rfl,hb,a0,M,N,ht⟩
 ·have C:l=[]:=zf6 hn;subst C;refine (AnyF.slices_SortFunc_none L p 0 (.func (.func fn) #[] #[]) w).mono ?_;rintro e w' ⟨rfl,rfl⟩;exact⟨_,g,s,I,J,I,[],.nil,.nil,(nK z).symm⟩
 ·have a1:=J.fresh _ (zg4 z) b rfl;have c:=(Array.getElem?_eq_some_iff.1 hb).1;have O:=ry en l;have o:CmpLays P fn #[] en.enc k cf b 0 l.toArray.size w:=by
   intro m os dk Q x y;refine (B (sortWorldK en.enc k w b 0 m dk os) (xy _) [] x y _ (Ew _)).mono ?_;rintro e w' ⟨v',g',s',rfl,R,rfl,rfl,rfl⟩;exact⟨I,yO R⟩
  have hH:HoldsK en.enc k w b 0 l.toArray:=by
   intro j A;have D:j<l.length * k:=by simpa using A
   refine⟨?_,by simp[World.frozen?,hb]⟩;have K:(h.toList.take<|l.length * k)[j]?=(flatK en.enc k l.toArray).toList[j]?:=by rw[ht,O]
   rw[List.getElem?_take_of_lt D] at K;have Q:j<(flatK en.enc k l.toArray).size:=by simpa using D
   simp only[World.cell?,hb,Nat.zero_add];simp only[Option.isSome_none,Bool.false_eq_true,if_false];rw[← Array.getElem?_toList,K,Array.getElem?_toList,Array.getElem?_eq_getElem Q,getElem!_pos _ j Q];rfl
  refine (AnyQ.slices_SortFunc L k aE zE en.enc en.len en.one cf Z fn #[] b 0 (cap+1) l.toArray w eg o hH c (by simp; omega)).mono ?_;rintro e w' ⟨rfl,d',n,os,Y,S,rfl⟩;obtain ⟨d'⟩:=d';have a:d'.length=l.length:=by have:=Y.1; simpa using this
  have r:d'.Perm l:=by
   have d:=Y.2.2;simp only[List.size_toArray,List.extract_toArray] at d;simpa [List.extract_eq_take_drop,a,tL<|Nat.le_of_eq a] using d
  have F:d'.Pairwise fun x y=>¬ cf y x<0:=by
   rw[zd1];intro i j z A U;have d:=S i j (zf8 _) U (by simp; omega);simp only[ltOf,decide_eq_false_iff_not] at d;simpa [z,A] using d
  have V:=ry en d';have a2:(flatK en.enc k d'.toArray).size=l.length * k:=by simp[a]
  refine⟨_,g,s.set i<|rowA en T (.slice (some ⟨b,0,none⟩) l.length<|cap+1) d',I,?_,I,d',r,F,I⟩;have d:(sortWorldK en.enc k w b 0 n d'.toArray os).heap[b]?=some (.cells (putCells id 0 (flatK en.enc k d'.toArray) h) T (0,0)):=by
   show (grow (putRow id (Sort.ahead w n) b 0<|flatK en.enc k d'.toArray) os).heap[b]?=_;rw[heap_grow_old _ _ (by simpa using c)];simp[putRow,mapBlock,Sort.ahead,Array.getElem?_modify,hb,onCells]
  exact J.turn (i:=i) (w':=sortWorldK en.enc k w b 0 n d'.toArray os) (e':=rowA en T (.slice (some ⟨b,0,none⟩) l.length (cap+1)) d') z I ⟨I,Nat.le_add_right _ _⟩ I (by simp[sortWorldK,grow,putRowK,putRow,mapBlock,Sort.ahead]) (fun q hq W=>by
    have G:b≠q:=fun e=>W (by rw[e]; rfl);show (grow (putRow id (Sort.ahead w n) b 0 (flatK en.enc k d'.toArray)) os).heap[q]?=_;rw[heap_grow_old _ _ (by simpa using hq)];simp[putRow,mapBlock,Sort.ahead,Array.getElem?_modify,G]) (by
    have:=ei (w:=sortWorldK en.enc k w b 0 n d'.toArray os) (T:=T) (k:=k) (n:=d'.length) (b:=b) (cap:=cap) (xs:=d'.flatMap en.enc) (by rw[en.length]) d oM M (by simp[putCells]; simpa using N) (by
     rw[← V];apply List.ext_getElem?;intro j;by_cases A:j<d'.length * k
     ·have u:j<(flatK en.enc k d'.toArray).size:=by simpa using A
      have X:j<h.size:=by
       have:d'.length * k≤(cap+1) * k:=Nat.mul_le_mul_right _ oM;omega
      rw[List.getElem?_take_of_lt A,Array.getElem?_toList,Array.getElem?_toList,Array.getElem?_eq_getElem u];simp only[putCells,Array.getElem?_mapIdx,Array.getElem?_eq_getElem X,Option.map_some,zf8,true_and,Nat.zero_add,Nat.sub_zero];rw[zg3 u,getElem!_pos _ j u];rfl
     ·rw[List.getElem?_take_eq_none oM,List.getElem?_eq_none (by simp; omega)])
    rw[show rowA en T (.slice (some ⟨b,0,none⟩) l.length (cap+1)) d'=row T k (.slice (some ⟨b,0,none⟩) d'.length (cap+1)) d'.length (d'.flatMap en.enc) by simp only[rowA,a]];exact this) (fun b' H=>by
    simp only[rowA,row,nA,zg9] at H;subst H;exact⟨(Array.getElem?_eq_some_iff.1 d).1,.inl I⟩)
set_option maxHeartbeats 2000000
abbrev Ts:=List (Int×Value×List Tm)
def fW (ts:Ts):Own:=ts.map fun t=>rowA fm 82 t.2.1 t.2.2
def vN (ts:Ts):List (Int×Value):=ts.map fun t=>(t.1,t.2.1)
theorem ui (k:Int):∀ ts:Ts,(ex (vN ts) k=none∧∀ t∈ts,t.1≠k)∨∃ (m:Nat) (t:Int×Value×List Tm),ts[m]?=some t∧t.1=k∧ex (vN ts) k=some t.2.1∧ts.find? (fun t=>decide (t.1=k))=some t
 | []=>.inl ⟨rfl,by simp⟩
 | t::ts=>by
  have d:vN (t::ts)=(t.1,t.2.1)::vN ts:=rfl;rw[d,cZ];by_cases h:k=t.1
  ·rw[zg3 h];exact .inr ⟨0,t,I,h.symm,I,by rw[zi8,zg1 h.symm]⟩
  ·rw[zg2 h]
   rcases ui k ts with ⟨a,b⟩ | ⟨m,u,a,b,f,g⟩
   ·exact .inl ⟨a,fun x c=>by
     rcases zf3.1 c with rfl | c
     ·exact fun e=>h e.symm
     ·exact b x c⟩
   ·exact .inr ⟨m+1,u,a,b,f,by rw[zi8,zf9 (fun e=>h e.symm)]; exact g⟩
theorem BN {ts:Ts}{m:Nat}{t:Int×Value×List Tm}(h:ts[m]?=some t)(p q:Own):(p++(fW ts++q))[p.length+m]?=some (rowA fm 82 t.2.1 t.2.2):=by
 have a:=(zf7.1 h).1;rw[uo,zh4 (by simpa [fW] using a)];simp[fW,h]
theorem BM {ts:Ts}{m:Nat}{t:Int×Value×List Tm}(h:ts[m]?=some t)(l':List Tm)(p q:Own):(p++(fW ts++q)).set (p.length+m) (rowA fm 82 t.2.1 l')=p++(fW (ts.set m (t.1,t.2.1,l'))++q):=by
 have a:=(zf7.1 h).1;rw[List.set_append_right _ _ oM,Nat.add_sub_cancel_left,List.set_append_left _ _ (by simpa [fW] using a)];simp[fW,List.map_set]
theorem freezeRowsT {E:World}{w:World}:∀ (ts:Ts) (g:PH) (s:Own),At E g (fW ts++s) w→∃ g',Le g g'∧At E g' s w∧∀ t∈ts,SlA fm g' t.2.1 t.2.2
 | [],g,s,h=>⟨g,zb9 g,h,by simp⟩
 | (a,v,l)::r,g,s,h=>by
  have e:At E g (row 82 3 v l.length (l.flatMap fm.enc)::(fW r++s)) w:=h;obtain ⟨g1,c,f,i⟩:=e.freezeRow;obtain ⟨g2,b,j,k⟩:=freezeRowsT r g1 s f;refine⟨g2,c.trans b,j,fun t d=>?_⟩
  rcases zf3.1 d with rfl | d
  ·exact Sl.mono i b
  ·exact k t d
theorem SC.freezeRowsT {P:Program}{N:Nat}{E:World}{c:Code}{Q:Exit→Act→World→Prop}{f:Fr}{g:PH}{p q:Own}{ts:Ts}(h:∀ g',Le g g'→(∀ t∈ts,SlA fm g' t.2.1 t.2.2)→SC P N E c Q f g' (p++q)):SC P N E c Q f g (p++(fW ts++q)):=fun a w b d=>by
 have e:(p++(fW ts++q)).Perm (fW ts++(p++q)):=by
  rw[← zh1,← zh1];exact List.perm_append_comm.append_right q
 obtain ⟨g',i,j,k⟩:=Go.Proofs.YtbbppeihhkhkcaaGreatDoor.freezeRowsT ts g (p++q)<|d.perm e;exact h g' i k a w b j
def EF (ts:Ts):Prop:=∀ t∈ts,t.2.2.length<1099511627776∧(t.2.2.map Prod.fst).Nodup∧∃ p n c,t.2.1 = .slice p n c
def ED (ts:Ts)(k:Int):List Tm:=match ts.find? (fun t=>decide (t.1=k)) with
 | some t=>sortBy Prod.fst t.2.2
 | none=>[(k,1)]
theorem BH {l l':List Tm}(a:l'.Perm l)(b:l'.Pairwise fun x y=>¬ ie y.1 x.1<0)(hn:(l.map Prod.fst).Nodup):l'=sortBy Prod.fst l:=by
 have c:Srt Prod.fst l':=b.imp fun h=>by rw[ff] at h; omega
 exact bI c<|t6 a.symm hn
def Tryz.sortT_ren:Ren :=
 {
  f:=fun x =>
   match x with
   | 6=>113
   | 15=>156
   | 14=>173
   | 28=>209
   | 29=>210
   | 20=>219
   | 21=>220
   | 22=>221
   | 23=>222
   | 24=>223
   | 25=>224
   | 26=>225
   | 27=>226
   | 46=>266
   | 47=>259
   | 48=>260
   | 49=>267
   | 50=>268
   | 57=>291
   | n=>n,
  t:=fun x =>
   match x with
   | 22=>77
   | 24=>82
   | 25=>160
   | 3=>3
   | 39=>203
   | 0=>0
   | 53=>239
   | 55=>145
   | 4=>4
   | 46=>233
   | 45=>232
   | 50=>149
   | 5=>5
   | 9=>9
   | 66=>270
   | 70=>274
   | 76=>292
   | 77=>293
   | n=>n,
  g:=fun x =>
   have n:=x;
   n }
theorem Tryz.sortT:SlLaysF0.n6 Tryz.prog Tryz.sortT_ren :=
  {
  mixed:=Eq.refl true,
  f6 :=
   Exists.intro "slices.SortFunc[[]cocycle/api.Term,cocycle/api.Term]"
    ⟨zg5 (id (Eq.refl true)),
     zb8 func113
      (ze4 some
       kR)⟩,
  f14 :=
   Exists.intro "slices.pdqsortCmpFunc[cocycle/api.Term]"
    ⟨zg5 (id (Eq.refl true)),
     zb8 func173
      (ze4 some
       kR)⟩,
  f15:=zb8 func156<|ze4 some kR,
  f20 :=
   Exists.intro "slices.insertionSortCmpFunc[cocycle/api.Term]"
    ⟨zg5 (id (Eq.refl true)),
     zb8 func219
      (ze4 some
       kR)⟩,
  f21 :=
   Exists.intro "slices.heapSortCmpFunc[cocycle/api.Term]"
    ⟨zg5 (id (Eq.refl true)),
     zb8 func220
      (ze4 some
       kR)⟩,
  f22 :=
   Exists.intro "slices.breakPatternsCmpFunc[cocycle/api.Term]"
    ⟨zg5 (id (Eq.refl true)),
     zb8 func221
      (ze4 some
       kR)⟩,
  f23 :=
   Exists.intro "slices.choosePivotCmpFunc[cocycle/api.Term]"
    ⟨zg5 (id (Eq.refl true)),
     zb8 func222
      (ze4 some
       kR)⟩,
  f24 :=
   Exists.intro "slices.reverseRangeCmpFunc[cocycle/api.Term]"
    ⟨zg5 (id (Eq.refl true)),
     zb8 func223
      (ze4 some
       kR)⟩,
  f25 :=
   Exists.intro "slices.partialInsertionSortCmpFunc[cocycle/api.Term]"
    ⟨zg5 (id (Eq.refl true)),
     zb8 func224
      (ze4 some
       kR)⟩,
  f26 :=
   Exists.intro "slices.partitionEqualCmpFunc[cocycle/api.Term]"
    ⟨zg5 (id (Eq.refl true)),
     zb8 func225
      (ze4 some
       kR)⟩,
  f27 :=
   Exists.intro "slices.partitionCmpFunc[cocycle/api.Term]"
    ⟨zg5 (id (Eq.refl true)),
     zb8 func226
      (ze4 some
       kR)⟩,
  f28:=zb8 func209<|ze4 some kR,
  f29:=zb8 func210<|ze4 some kR,
  f46 :=
   Exists.intro "slices.siftDownCmpFunc[cocycle/api.Term]"
    ⟨zg5 (id (Eq.refl true)),
     zb8 func266
      (ze4 some
       kR)⟩,
  f47:=zb8 func259<|ze4 some kR,
  f48:=zb8 func260<|ze4 some kR,
  f49 :=
   Exists.intro "slices.medianAdjacentCmpFunc[cocycle/api.Term]"
    ⟨zg5 (id (Eq.refl true)),
     zb8 func267
      (ze4 some
       kR)⟩,
  f50 :=
   Exists.intro "slices.medianCmpFunc[cocycle/api.Term]"
    ⟨zg5 (id (Eq.refl true)),
     zb8 func268
      (ze4 some
       kR)⟩,
  f57 :=
   Exists.intro "slices.order2CmpFunc[cocycle/api.Term]"
    ⟨zg5 (id (Eq.refl true)),
     zb8 func291
      (ze4 some
       kR)⟩,
  t0:=uT0,a0:=isAgg0,z0:=sizeOf0,v0:=zl6,t3:=uT3,
  a3:=iT3,z3:=zT3,v3:=zm4,t4:=uT4,a4:=isAgg4,
  z4:=zT4,v4:=zl5,t5:=uT5,a5:=isAgg5,z5:=sizeOf5,
  v5:=zeroValue5,t9:=uT9,a9:=isAgg9,z9:=sizeOf9,v9:=zeroValue9,
  t22:=underlying77,a22:=isAgg77,z22:=sizeOf77,v22:=zeroValue77,
  t25:=underlying160,a25:=isAgg160,z25:=sizeOf160,v25:=zeroValue160,
  t39:=jN,a39:=isAgg203,z39:=sizeOf203,v39:=zeroValue203,
  t45:=underlying232,a45:=isAgg232,z45:=sizeOf232,v45:=zeroValue232,
  t46:=underlying233,a46:=isAgg233,z46:=sizeOf233,v46:=zeroValue233,
  t50:=underlying149,a50:=isAgg149,z50:=sizeOf149,v50:=zeroValue149,
  t53:=underlying239,a53:=isAgg239,z53:=sizeOf239,v53:=zeroValue239,
  t55:=nj,a55:=isAgg145,z55:=sizeOf145,v55:=zeroValue145,
  t66:=underlying270,a66:=isAgg270,z66:=sizeOf270,v66:=zeroValue270,
  t70:=underlying274,a70:=isAgg274,z70:=sizeOf274,v70:=zeroValue274,
  t76:=underlying292,a76:=isAgg292,z76:=sizeOf292,v76:=zeroValue292,
  t77:=underlying293,a77:=isAgg293,z77:=sizeOf293,v77:=zeroValue293 }
theorem Fq:GA Tryz.prog 114 fm.enc (fun x y=>ie x.1 y.1):=by
 intro E g s x y;obtain ⟨x1,x2⟩:=x;obtain ⟨y1,y2⟩:=y;refine zb2 (args:=[.agg #[vi x1,vb<|Gt x2,txt<|AC x2.natAbs],.agg #[vi y1,vb<|Gt y2,txt<|AC y2.natAbs]]) func114 I ntmps114 (bE I)<|rZ (bW (bO I) fun b2=>?_);refine bW (bO I) fun b3=>aT I<|rZ<|lU (fA underlying82 I zT3 I)<|SL.K (qL (v:=vi x1) iT3 I<|cO 1 I I)<|lU (fA underlying82 I zT3 I)<|SL.K (qL (v:=vi y1) iT3 I<|cO 0 I I)<|lW (SO.call call90 I<|dH E g _ x1 y1) ?_;rintro _ _ _ ⟨rfl,rfl,rfl⟩;exact aT I<|rE<|dR (s':=s) uR<|za8 (.inl I) results114 I ⟨I,I,I⟩
theorem F0 {α:Type}(key:α→Int):SWO (ltOf fun x y:α=>ie (key x)<|key y):=⟨fun x=>by simp[ltOf,ff],fun x y z a b=>by simp[ltOf,ff] at *; omega,fun x y z a b=>by simp[ltOf,ff] at *; omega⟩
theorem BI (E:World)(g:PH)(s:Own)(v:Value)(l:List Tm)(i:Nat)(a:s[i]?=some (rowA fm 82 v l))(hl:l.length<1099511627776)(hn:(l.map Prod.fst).Nodup) :
  Ctr Tryz.prog E 113 #[v,.func (.func 114) #[] #[]] g s (fun _ g' s'=>g=g'∧s'=s.set i (rowA fm 82 v<|sortBy Prod.fst l)) :=
 (xO Tryz.sortT fm isAgg82 sizeOf82 (fun x y=>ie x.1 y.1) (F0 Prod.fst) 114 call114 Fq 82 E g s v l i a hl).mono fun _ _ _ ⟨b,l',c,d,e⟩=>⟨b,by rw[e,BH c d hn]⟩
theorem z6 (E:World)(g:PH)(p q:Own)(b2 bx mb ms:Nat)(u:Value)(bk:Bool)(k:Int)(ts:Ts)(w:EF ts)(i j z:Nat)(F:p[z]?=some (pt b2<|.cells #[pp bx 0] 96 (0,0)))(G:p[i]?=some (edP bx u mb ms bk))(H:p[j]?=some (mp ms<|vN ts)) :
  cz Tryz.prog E (.func (.func 111) #[] #[pp b2 0]) [vi k] g (p++(fW ts++q)) (fun r g' s'=>Le g g'∧∃ ts',s'=p++(fW ts'++q)∧((ts.find? (fun t=>decide (t.1=k))=none∧ts'=ts∧SlA fm g' r [(k,1)])∨∃ (m:Nat) (t:Int×Value×List Tm),ts[m]?=some t∧t.1=k∧ts.find? (fun t=>decide (t.1=k))=some t∧r=t.2.1∧ts'=ts.set m (t.1,t.2.1,sortBy Prod.fst t.2.2))):=by
 refine cz.mk (args:=[_]) (cap:=[pp b2 0]) call111 ?_;have left:∀ {n:Nat} {x:Ent},p[n]?=some x→(p++(fW ts++q))[n]?=some x:=fun {n x} h=>by
  rw[zh4 (zf7.1 h).1]; exact h
 have d:=left F;have e:=left G;have f:=left H;generalize D:p++(fW ts++q)=s at *
 rcases ui k ts with ⟨c,y⟩ | ⟨m,t,c,y,J,L⟩
 ·have M:ts.find? (fun t=>decide (t.1=k))=none:=List.find?_eq_none.2 fun t N=>by simpa using y t N
  refine zb2 (args:=[vi k,pp b2 0]) func111 I ntmps111 (bE I)<|rZ<|aT I<|rZ<|SL.K (qL (v:=pp bx 0) isAgg96 I<|cO z d I)<|lU (nC I)<|lU (fA kY I sizeOf110 I)<|SL.K (qL (v:=.map<|some ms) isAgg110 I<|cO i e I)<|lM I<|SL.K (SQ.eq (v':=.tuple #[.slice none 0 0,vb false]) (SQ.lookupOk mty110 I I<|bh.own j f) (by rw[c]; rfl)) ?_;refine lM I<|yX I<|yX I<|lA I<|aT I<|sQ<|sW I<|lU (SU.not I)<|tZ<|za2 I<|sW I<|lW (SO.call call112 I<|BC E g _ k 1 dC dC) ?_;rintro _ g1 _ ⟨rfl,rfl,l⟩;refine lW (bS sty77 I I I (ab ⟨I,trivial⟩) dC) ?_;rintro _ _ _ ⟨O,rfl,rfl,rfl⟩;refine zb5 fun g2 o A=>?_;exact aT I<|rE<|tR<|za8 (.inl I) results111 I ⟨l.trans o,ts,D.symm,.inl ⟨M,I,SlA.lit A I I⟩⟩
 ·have a:=BN c p q;have b:=BM c (sortBy Prod.fst t.2.2) p q;rw[D] at a b;obtain ⟨B,C,_⟩:=w t<|zg4 c;refine zb2 (args:=[vi k,pp b2 0]) func111 I ntmps111 (bE I)<|rZ<|aT I<|rZ<|SL.K (qL (v:=pp bx 0) isAgg96 I<|cO z d I)<|lU (nC I)<|lU (fA kY I sizeOf110 I)<|SL.K (qL (v:=.map<|some ms) isAgg110 I<|cO i e I)<|lM I<|SL.K (SQ.eq (v':=.tuple #[t.2.1,vb true]) (SQ.lookupOk mty110 I I<|bh.own j f) (by rw[J]; rfl)) ?_;refine lM I<|yX I<|yX I<|lA I<|aT I<|sQ<|sW I<|lU (SU.not I)<|tZ<|za1 I<|kP<|tN<|sW I<|lW (SO.call call113 I<|BI E g _ t.2.1 t.2.2 _ a B C) ?_;rintro _ _ _ ⟨rfl,rfl⟩;exact tZ<|sW I<|aT I<|rE<|za8 (.inl I) results111 I ⟨zb9 _,_,b,.inr ⟨m,t,c,y,L,I,I⟩⟩
end Go.Proofs.YtbbppeihhkhkcaaGreatDoor
