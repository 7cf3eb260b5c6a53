/- SyUb Rp1 Rp2 Rp3 Rp4 Rp5 Sp1 Sp2 Sp3 Sp4 -/
import Derived.Test.YteahknngoogpaaaGreatDoorKe09
import Derived.Test.YteahknngoogpaaaGreatDoorKe10
import Derived.Test.YteahknngoogpaaaGreatDoorKe04
import Derived.Test.YteahknngoogpaaaGreatDoorKe05
import Derived.Test.YteahknngoogpaaaGreatDoorKe03
set_option linter.unusedSimpArgs false
set_option linter.unusedVariables false
namespace Go.Sy
open Go
def Gives2 (P : Program) (E : World) (gf : FuncId) (lb : List Value) {α : Type} (encs : α → List Value) (xs : List α) (g0 : PH) : Prop :=
 ∀ (l : Nat) (ι : Type) (G : ι → PH) (S : ι → Own) (J : List α → ι → Prop) (i0 : ι),J [] i0 → (∀ pre i,J pre i → Le g0 (G i)) → (∀ pre i g',J pre i → Le (G i) g' → ∃ i',J pre i' ∧ G i' = g' ∧ S i' = S i) →
  (∀ pre x suf i sx,xs = pre ++ x :: suf → J pre i → YieldC P E l (encs x).toArray (G i) (S i ++ sx) (fun v g' s'=>v = .bool true ∧ ∃ j,J (pre ++ [x]) j ∧ Le (G i) (G j) ∧ g' = G j ∧ s' = S j ++ sx)) →
  ∀ sx,Ctr P E gf (.func (.yield l) #[] #[] :: lb).toArray (G i0) (S i0 ++ sx) (fun _ g' s'=>∃ j,J xs j ∧ g' = G j ∧ s' = S j ++ sx)
section
variable {P : Program} {M : Md} {N : Nat} {E : World} {Q : Exit → Act → World → Prop} {f : Fr} {g : PH} {s : Own} {dst : Option Tmp} {ty : TypeId} {pos : String} {af : Array Edge} {gd : Option (Nat × Bool)}
def RoundEnd2 {α ι : Type} (E : World) (G : ι → PH) (S : ι → Own) (J : List α → ι → Prop) (pre : List α) (x : α) (g : PH) (sx : Own) : Exit → Act → World → Prop:=fun e _ w'=>e = .normal ∧ ∃ j,At E (G j) (S j ++ sx) w' ∧ J (pre ++ [x]) j ∧ Le g (G j)
theorem XT.roundEnd2 {α ι : Type} {G : ι → PH} {S : ι → Own} {J : List α → ι → Prop} {pre : List α} {x : α} {g1 : PH} {sx : Own} (j : ι) (hg : G j = g) (hs : S j ++ sx = s) (hj : J (pre ++ [x]) j) (hl : Le g1 (G j)) : XT M N E (RoundEnd2 E G S J pre x g1 sx) .normal f g s:=fun _ _ _ hw=>⟨rfl,j,by rw [hg,hs]; exact hw,hj,hl⟩
theorem XC.rangeFuncB {α ι κ : Type} {gop : Operand} {ps : Array Tmp} {assign body : Code} {gf : FuncId} {lb : List Value} {encs : α → List Value} {xs : List α} {g0 : PH} (G : ι → PH) (S : ι → Own) (J : List α → ι → Prop) (i0 : ι) (sx0 : Own) (fa : α → Fr) (fb : List α → α → ι → κ → Fr) (X : α → κ → Own)
  (hro : M.ro = none) (hg : ev f gop = some (.func (.func gf) #[] lb.toArray)) (eg : ∀ args w,(callFunc gf args).run P w = .ok (.enter gf args) w) (hps : ∀ x,(encs x).length = ps.size)
  (hG : G i0 = g) (hS : S i0 ++ sx0 = s) (hseq : Gives2 P E gf lb encs xs g0) (hmono : ∀ pre i,J pre i → Le g0 (G i)) (hup : ∀ pre i g',J pre i → Le (G i) g' → ∃ i',J pre i' ∧ G i' = g' ∧ S i' = S i) (h0 : J [] i0)
  (hfa : ∀ x a,Ok N f (bare a) → Ok N (fa x) { tmps:=(ps.zip (encs x).toArray).foldl (fun t (p,v)=>t.setIfInBounds p v) a.tmps,defers:=[] })
  (hassign : ∀ l pre x i sx,J pre i → XC P ⟨some l,[]⟩ N E assign (AssignEndA (N:=N) E (G i) (S i ++ sx) (fb pre x i) (X x)) (fa x) (G i) (S i ++ sx))
  (hbody : ∀ l pre x suf i sx q,(∃ (r : Loop) (k : Nat),sx[k]? = some (pt l (.loop r))) → xs = pre ++ x :: suf → J pre i → XC P ⟨some l,[]⟩ N E body (RoundEnd2 E G S J pre x (G i) sx) (fb pre x i q) (G i) (X x q ++ (S i ++ sx)))
  (hdone : ∀ D j,J xs j → XT ⟨none,⟨.collected D,#[]⟩ :: M.ds⟩ N E Q .normal f (G j) (pt D (.deferred (some [])) :: (S j ++ sx0))) : XC P M N E (.rangeFunc gop ps assign body) Q f g s:=by
 subst hG hS
 intro a w ha hw
 rw [hro]
 refine wpIn_rangeFunc ?_
 intro fn _
 obtain ⟨rec,hrec⟩ : ∃ rec : LoopState → Option Code → Loop,rec = fun st pe=>{ state:=st,pending:=pe,fn,tmps:=a.tmps,params:=ps,assign,body,defers:=w.heap.size }:=⟨_,rfl⟩
 obtain ⟨L,hL⟩ : ∃ L,L = w.heap.size + 1:=⟨_,rfl⟩
 obtain ⟨D,hD⟩ : ∃ D,D = w.heap.size:=⟨_,rfl⟩
 obtain ⟨W1,hW1⟩ : ∃ W1,(w.alloc (.deferred (some []))).alloc (.loop (rec .ready none)) = W1:=⟨_,rfl⟩
 have hA : At E (G i0) (pt L (.loop (rec .ready none)) :: pt D (.deferred (some [])) :: (S i0 ++ sx0)) W1:=by
  rw [← hW1,hL,hD]
  have h1 : At E (G i0) (pt w.heap.size (.deferred (some [])) :: (S i0 ++ sx0)) (w.alloc (.deferred (some []))):=hw.alloc (e:=pt w.heap.size (.deferred (some []))) rfl rfl
  have h2:=h1.alloc (e:=pt (w.alloc (.deferred (some []))).heap.size (.loop (rec .ready none))) rfl rfl
  rw [World.size_alloc] at h2
  exact h2
 obtain ⟨S2,hS2⟩ : ∃ S2 : ι → Own,S2 = fun i=>S i ++ (pt L (.loop (rec .ready none)) :: pt D (.deferred (some [])) :: sx0):=⟨_,rfl⟩
 have hA2 : At E (G i0) (S2 i0 ++ []) W1:=by
  rw [hS2,List.append_nil]
  dsimp only
  refine hA.perm ?_
  have h1 : (pt L (.loop (rec .ready none)) :: pt D (.deferred (some [])) :: (S i0 ++ sx0)) = [pt L (.loop (rec .ready none)),pt D (.deferred (some []))] ++ (S i0 ++ sx0):=rfl
  have h2 : S i0 ++ (pt L (.loop (rec .ready none)) :: pt D (.deferred (some [])) :: sx0) = S i0 ++ ([pt L (.loop (rec .ready none)),pt D (.deferred (some []))] ++ sx0):=rfl
  rw [h1,h2,← List.append_assoc,← List.append_assoc]
  exact List.perm_append_comm.append_right _
 refine ⟨L,[{ target:=.collected D,args:=#[] }],W1,{ target:=.fn (.func gf) lb.toArray,args:=#[.func (.yield L) #[] #[]] },W1,gf,(.func (.yield L) #[] #[] :: lb).toArray,W1,?_,?_,fun _ _=>trivial,?_,fun h=>(by cases h),?_⟩
 ·rw [← hW1,hrec,hL,hD]; exact run_enterLoop_outer _ _ _ _ _
 ·have h1 : a.eval gop = .func (.func gf) #[] lb.toArray:=ha.ev hg
  simp only [resolve,h1]
  simp [go_sem]
 ·have : (#[.func (.yield L) #[] #[]] ++ lb.toArray : Array Value) = (.func (.yield L) #[] #[] :: lb).toArray:=by simp
  simp [invoke,go_sem,eg]
 ·refine (callsIn_wide (n:=0 - 1)).2 ((hseq L ι G S2 J i0 h0 hmono (fun pre i g' hJ hl=>by obtain ⟨i',a1,a2,a3⟩:=hup pre i g' hJ hl; exact ⟨i',a1,a2,by rw [hS2]; dsimp only; rw [a3]⟩) ?_ [] W1 hA2).mono ?_)
  ·intro pre x suf i sx hxs hJ W hW
   rw [hS2] at hW
   simp only [List.append_assoc,List.cons_append] at hW
   have hlen : (S i).length = (S i).length:=rfl
   have gl : ∀ (i : ι) (u u' : Ent) (r : Own),(S i ++ u :: u' :: r)[(S i).length]? = some u:=fun i u u' r=>by simp
   have hl:=hW.here (gl i _ _ _)
   have hy:=run_yield (P:=P) (args:=(encs x).toArray) hl (by rw [hrec]; simpa using hps x)
   rw [hrec] at hy
   refine ⟨fn,_,assign,body,hy,roundIn_of_wpIn trivial ?_⟩
   refine Code.wpIn_mono (fun e a1 w1 h1=>?_) (hassign L pre x i _ hJ { tmps:=(ps.zip (encs x).toArray).foldl (fun t (p,v)=>t.setIfInBounds p v) a.tmps,defers:=[] } W ⟨I,hfa x a ha.2⟩ hW)
   obtain ⟨rfl,q,ha1,hw1⟩:=h1
   have glX : ∀ (X : Own) (i : ι) (u u' : Ent) (r : Own),(X ++ (S i ++ u :: u' :: r))[X.length + (S i).length]? = some u:=fun X i u u' r=>by rw [List.getElem?_append_right oM,Nat.add_sub_cancel_left]; exact gl i u u' r
   have hl1:=hw1.here (glX _ i _ _ _)
   refine ⟨_,run_beginRound hl1 (by rw [hrec]),?_⟩
   have hset : ∀ (i : ι) (u u' v : Ent) (r : Own),(S i ++ u :: u' :: r).set (S i).length v = S i ++ v :: u' :: r:=fun i u u' v r=>by simp
   have hsetX : ∀ (X : Own) (i : ι) (u u' v : Ent) (r : Own),(X ++ (S i ++ u :: u' :: r)).set (X.length + (S i).length) v = X ++ (S i ++ v :: u' :: r):=fun X i u u' v r=>by rw [List.set_append_right _ _ oM,Nat.add_sub_cancel_left,hset]
   have hw2:=hw1.obj (o':=.loop { rec .ready none with state:=.busy }) (glX _ i _ _ _)
   rw [hsetX] at hw2
   refine Code.wpIn_mono (fun e a3 w3 h3=>?_) (hbody L pre x suf i _ q ⟨_,0,I⟩ hxs hJ a1 _ ha1 hw2)
   obtain ⟨rfl,j,hw3,hJ3,hL3⟩:=h3
   have hl3:=hw3.here (gl j _ _ _)
   have he:=run_endRound (P:=P) none hl3
   have hw4:=hw3.obj (o':=.loop { (rec .ready none) with state:=.ready,pending:=none }) (gl j _ _ _)
   rw [hset] at hw4
   refine ⟨_,_,he,.bool true,G j,S2 j ++ sx,I,?_,I,j,hJ3,hL3,I,I⟩
   rw [hS2]
   simp only [List.append_assoc,List.cons_append]
   rw [hrec] at hw4 ⊢
   exact hw4
  ·rintro e W2 ⟨v,g',s',rfl,hat,j,hJ,rfl,rfl⟩
   rw [hS2,List.append_nil] at hat
   have gl : ∀ (i : ι) (u u' : Ent) (r : Own),(S i ++ u :: u' :: r)[(S i).length]? = some u:=fun i u u' r=>by simp
   have hl:=hat.here (gl j _ _ _)
   have he:=run_endLoop (P:=P) hl (by rw [hrec]; simp)
   have h2:=hat.obj (o':=.loop { (rec .ready none) with state:=.exhausted }) (gl j _ _ _)
   have hset : ∀ (i : ι) (u u' v : Ent) (r : Own),(S i ++ u :: u' :: r).set (S i).length v = S i ++ v :: u' :: r:=fun i u u' v r=>by simp
   rw [hset] at h2
   have hpn : (rec .ready none).pending = none:=by rw [hrec]
   refine ⟨none,_,he.trans (congrArg (fun p=>Result.ok p _) hpn),?_⟩
   refine hdone D j hJ _ _ ⟨by rw [← ha.1]; rfl,ha.2⟩ ?_
   have h3:=(h2.sublist (s':=S j ++ pt D (.deferred (some [])) :: sx0) (by exact (List.Sublist.refl _).append (List.sublist_cons_self _ _))).perm List.perm_middle
   exact h3
end
end Go.Sy
namespace Go.Proofs.YteahknngoogpaaaGreatDoor
open _root_.Go.Proofs.Tryz _root_.Go.Proofs.YteahknngoogpaaaGreatDoor.Tryz
open Go Go.Sy Go.Pl Go.Proofs
set_option maxRecDepth 100000
set_option maxHeartbeats 1000000
theorem indexInt_spec (E : World) (g : PH) (s : Own) (v : Value) (l : List Int) (x : Int) (hv : Ints g v l) (hl : l.length < 1099511627776) :
  Ctr Tryz.prog E 98 #[v,vi x] g s (fun r g' s'=>(∃ n : Int,r = vi n ∧ decide (n ≥ 0) = l.contains x) ∧ g = g' ∧ s = s'):=by
 obtain ⟨p,c,rfl⟩:=SlA.form hv
 refine Ctr.of (args:=[.slice p l.length c,vi x]) func98 I ntmps98 (bE I) ?_
 refine SC.sR (lA I (SL.nT (sQ (SC.sR (lM I (lU (eN uT22 I) (lM I (SL.nT (bK ?_)))))))))
 refine oP (ι:=Nat) (fun k=>[(0,.slice p l.length c),(1,vi x),(7,vi l.length),(8,vi k)]) (fun _=>g) (fun _=>s) (fun k=>k ≤ l.length ∧ x ∉ l.take k) (fun k=>l.length - k) 0 sB I I ⟨Nat.zero_le _,by simp⟩ ?_
 rintro k ⟨hk,hno⟩
 refine SC.sR (lU (lS I I) (SL.nT (sQ ?_)))
 refine iP I (fun hlt=>?_) (fun hlt=>?_)
 ·have hkl : k < l.length:=oM
  have hb1:=SlA.based hv oM
  have hgx : l[((k : Nat) : Int).toNat]? = some l[k]:=gE hkl
  refine kP (tN (sQ (bK (SC.sR (lM I (lA I (SL.nT (SC.sR (lM I (lM I (lM I (lU (iA uT22 zT3 I I hb1 oM sL) (lK (eB iT3 I (SlA.rd hv) hgx I) (lU (eQ I I) (SL.nT ?_)))))))))))))))
  refine iP I (fun he=>?_) (fun he=>?_)
  ·refine SC.sR (lM I (lA I (SL.nT (rE (bR (tR (tR (bR (tR ?_)))))))))
   have hm : l.contains x = true:=by rw [List.contains_iff_mem,he]; exact gM hkl
   exact ST.ret1 (.inl I) results98 I ⟨⟨k,I,by rw [hm]; simp⟩,I,I⟩
  ·refine kP (bN (tN (rG (lU (aD I I oM) (lM I (nL ?_))))))
   exact ST.again (k + 1) sB rfl rfl ⟨oM,by rw [tS hkl,List.mem_append]; rintro (h | h); exact hno h; simp at h; exact he h⟩ oM
 ·have hkk : l.take k = l:=tL oM
  rw [hkk] at hno
  refine xI (tX (tX (bX (tN (SC.sR (lA I (SL.nT (rE ?_))))))))
  have hm : l.contains x = false:=by rw [← Bool.not_eq_true,List.contains_iff_mem]; exact hno
  exact ST.ret1 (.inl rfl) results98 rfl ⟨⟨-1,rfl,by rw [hm]; rfl⟩,rfl,rfl⟩
theorem containsInt_spec (E : World) (g : PH) (s : Own) (v : Value) (l : List Int) (x : Int) (hv : Ints g v l) (hl : l.length < 1099511627776) :
  Ctr Tryz.prog E 63 #[v,vi x] g s (fun r g' s'=>r = vb (l.contains x) ∧ g = g' ∧ s = s'):=by
 refine Ctr.of (args:=[v,vi x]) func63 I ntmps63 (bE I) ?_
 refine SC.sR (lA I (SL.nT (SC.sR (lM I (lM I (lW (SO.call call98 I (indexInt_spec E g _ v l x hv hl)) ?_))))))
 rintro _ _ _ ⟨⟨n,rfl,hn⟩,rfl,rfl⟩
 refine lU (gQ I I) (lA I (SL.nT (rE ?_)))
 exact ST.ret1 (.inl I) results63 I ⟨by rw [hn],I,I⟩
theorem loopP_sub {p : Pr} {H : Int → Option Int} {rc : Pr → List Int → Bool × List Int} (hrc : ∀ y v,∀ z ∈ v,z ∈ (rc y v).2) {x : Pr} : ∀ (q v : List Int),∀ z ∈ v,z ∈ (loopP p H rc x q v).2
 | [],_,_,hz=>hz
 | low :: r,v,z,hz=>by
  have ih:=loopP_sub (p:=p) (H:=H) hrc (x:=x) r
  unfold loopP
  split
  ·exact ih v z hz
  ·split
   ·exact hz
   ·cases H low with
    | none=>exact ih v z hz
    | some nx =>
     dsimp only
     split
     ·exact ih v z hz
     ·have h1:=hrc (low,nx) (v ++ [nx]) z (by simp [hz])
      split
      ·exact h1
      ·exact ih _ z h1
theorem reachP_sub (p : Pr) (S : Int → List Int) (H : Int → Option Int) : ∀ (n : Nat) (x : Pr) (v : List Int),∀ z ∈ v,z ∈ (reachP p S H n x v).2
 | 0,_,_,_,hz=>hz
 | n + 1,x,v,z,hz=>loopP_sub (fun y w z hz=>reachP_sub p S H n y w z hz) (S x.2) v z hz
def SidM (g : PH) (m : List (Int × Value)) (S : Int → List Int) : Prop:=∀ k,∃ v,(mget m k).getD (.slice none 0 0) = v ∧ Ints g v (S k) ∧ (S k).length < 1099511627776
theorem SidM.mono {g g' : PH} {m : List (Int × Value)} {S : Int → List Int} (h : SidM g m S) (hl : Le g g') : SidM g' m S:=fun k=>by
 obtain ⟨v,h1,h2,h3⟩:=h k
 exact ⟨v,h1,SlA.mono h2 hl,h3⟩
def HiM (m : List (Int × Value)) (T : List Pr) : Prop:=∀ k,mget m k = (highT T k).map vi
theorem set_other {α : Type} {s : List α} {i j : Nat} {a b : α} (h : i ≠ j) (hj : s[j]? = some b) : (s.set i a)[j]? = some b:=by
 rw [List.getElem?_set,if_neg h]
 exact hj
theorem reachW (E : World) (g : PH) (bT bp bs bf bt m ms mh : Nat) (p : Pr) (S : Int → List Int) (sm hm : List (Int × Value)) (T : List Pr) (r : Bool) (mu : Value) (tv : Value)
  (h2 : g bT = some (.cells #[pp bt 0] 66 (0,0))) (h3 : g bp = some (.cells #[vi p.1,vi p.2] 44 (0,0))) (h4 : g bs = some (.cells #[.map (some m)] 71 (0,0)))
  (h5 : g bf = some (.cells #[.func (.func 99) #[] #[pp bT 0,pp bp 0,pp bs 0,pp bf 0]] 105 (0,0)))
  (hsm : Mp g ms sm) (hS : SidM g sm S) (hH : HiM hm T) : ∀ (n : Nat) (x : Pr) (seen : List Int) (s : Own) (i j k : Nat),cntP T seen < n → i ≠ j → i ≠ k → s[i]? = some (mp m (setP seen)) → s[j]? = some (pt bt (.cells #[vb r,.map (some ms),.map (some mh),mu,tv] 73 (0,0))) → s[k]? = some (mp mh hm) →
  Ctr Tryz.prog E 99 #[vi x.2,vi x.1,pp bT 0,pp bp 0,pp bs 0,pp bf 0] g s (fun y g' s'=>y = vb (reachP p S (highT T) n x seen).1 ∧ g = g' ∧ s' = s.set i (mp m (setP (reachP p S (highT T) n x seen).2))):=by
 intro n
 induction n with
 | zero=>intro x seen s i j k h; omega
 | succ n ih =>
 intro x seen s i j k hcnt hij hik hi hj hk
 obtain ⟨v,hv1,hv2,hvl⟩:=hS x.2
 have hr : reachP p S (highT T) (n + 1) x seen = loopP p (highT T) (reachP p S (highT T) n) x (S x.2) seen:=rfl
 rw [hr]
 generalize S x.2 = L at *
 obtain ⟨q,c,rfl⟩:=SlA.form hv2
 refine Ctr.of (args:=[vi x.2,vi x.1,pp bT 0,pp bp 0,pp bs 0,pp bf 0]) func99 I ntmps99 (bE I) ?_
 refine SC.sR (lA I (SL.nT (sQ (SC.sR (lK (qL (v:=pp bt 0) isAgg66 I (cK h2 I)) (lU (nC I) (lU (fA uT73 I sizeOf69 I) (lK (qL (v:=.map (some ms)) isAgg69 I (cO j hj I)) (lM I (lK (SQ.eq (SQ.lookup mty69 I I (MapAt.known hsm)) hv1) (lU (eN uT22 I) (lM I (SL.nT (bK ?_))))))))))))))
 refine oP (ι:=Nat × List Int) (fun z=>[(1,vi x.1),(2,pp bT 0),(3,pp bp 0),(4,pp bs 0),(5,pp bf 0),(18,.slice q L.length c),(19,vi L.length),(20,vi z.1)]) (fun _=>g) (fun z=>s.set i (mp m (setP z.2)))
  (fun z=>z.1 ≤ L.length ∧ cntP T z.2 < n + 1 ∧ loopP p (highT T) (reachP p S (highT T) n) x L seen = loopP p (highT T) (reachP p S (highT T) n) x (L.drop z.1) z.2) (fun z=>L.length - z.1) (0,seen)
  sB rfl (set_self hi) ⟨Nat.zero_le _,hcnt,rfl⟩ ?_
 rintro ⟨a,w⟩ ⟨ha,hcw,heq⟩
 dsimp only at ha hcw heq ⊢
 have hi':=get_set hi (mp m (setP w))
 have hj':=set_other (a:=mp m (setP w)) hij hj
 have hk':=set_other (a:=mp m (setP w)) hik hk
 refine SC.sR (lU (lS I I) (SL.nT (sQ ?_)))
 refine iP I (fun hlt=>?_) (fun hlt=>?_)
 ·have hal : a < L.length:=oM
  have hb1:=SlA.based hv2 oM
  have hgx : L[((a : Nat) : Int).toNat]? = some L[a]:=gE hal
  have hdr : L.drop a = L[a] :: L.drop (a + 1):=(List.getElem_cons_drop hal).symm
  rw [hdr] at heq
  generalize L[a] = low at *
  have hkey:=hH low
  rw [heq]
  refine kP (tN (sQ (bK (SC.sR (lU (iA uT22 zT3 I I hb1 oM sL) (lK (eB iT3 I (SlA.rd hv2) hgx I) (lA I (SL.nT (SC.sR (lK (qL (v:=pp bt 0) isAgg66 I (cK h2 I)) (lU (nC I) (lU (fA uT73 I sizeOf70 I) (lK (qL (v:=.map (some mh)) isAgg70 I (cO j hj' I)) (lM I (lK (SQ.eq (v':=.tuple #[((highT T low).map vi).getD (vi 0),vb (highT T low).isSome]) (SQ.lookupOk mty70 I I (MapAt.own k hk')) (by rw [hkey]; cases highT T low <;> rfl)) ?_)))))))))))))))
  refine lM I (lU (xT I I) (lU (xT I I) (lA I (lA I (SL.nT (sQ (bK (SC.sR (lM I (lM I (lU (eQ I I) (lA I (SL.nT ?_)))))))))))))
  refine iP I (fun hw=>?_) (fun hw=>?_)
  ·have hstep : loopP p (highT T) (reachP p S (highT T) n) x (low :: L.drop (a + 1)) w = loopP p (highT T) (reachP p S (highT T) n) x (L.drop (a + 1)) w:=by
    rw [loopP,if_pos hw]
   refine xI (ST.blockO dC (tX (bX (tN (rG (lU (aD I I oM) (lM I (nL ?_))))))))
   exact ST.again (a + 1,w) sB I I ⟨by dsimp only; omega,hcw,by dsimp only; rw [← hstep]⟩ (by dsimp only; omega)
  ·refine SC.sR (lM I (lU (iB uT44 zT3 I I dC dC) (lK (qL (v:=vi p.1) iT3 I (cK h3 I)) (lU (eQ I I) (lA I (SL.nT ?_))))))
   refine iP I (fun hp=>?_) (fun hp=>?_)
   ·have hstep : loopP p (highT T) (reachP p S (highT T) n) x (low :: L.drop (a + 1)) w = (true,w):=by
     rw [loopP,if_neg hw,if_pos hp]
    refine SC.sR (lA I (SL.nT (rE (bR (tR (bR (tR (tR (bR (tR ?_))))))))))
    exact ST.ret1 (.inl I) results99 I ⟨by rw [hstep],I,by rw [hstep]⟩
   ·cases hh : highT T low with
    | none =>
     have hstep : loopP p (highT T) (reachP p S (highT T) n) x (low :: L.drop (a + 1)) w = loopP p (highT T) (reachP p S (highT T) n) x (L.drop (a + 1)) w:=by
      rw [loopP,if_neg hw,if_neg hp,hh]
     refine SC.sR (lM I (lU (SU.not I) (lM I (lZ I I I (lZ I I I (lZ I I I (lU (pT I I) (lA I (SL.nT (cT I (xI (ST.blockO dC (tX (bX (tN (rG (lU (aD I I oM) (lM I (nL ?_)))))))))))))))))))
     exact ST.again (a + 1,w) sB I I ⟨by dsimp only; omega,hcw,by dsimp only; rw [← hstep]⟩ (by dsimp only; omega)
    | some nx =>
     refine SC.sR (lM I (lU (SU.not I) (lM I (SL.gq (gT I I I dC) (qL (v:=.map (some m)) isAgg71 I (cK h4 I)) dC (lY I I I (mV I) (SL.gq (gT I I I dC) (SQ.eq (v':=vb (w.contains nx)) (SQ.lookup mty71 I I (MapAt.own i hi')) ((setP_set w).get nx)) dC (lU (pF I I) (lA I (SL.nT ?_)))))))))
     refine iQ I (fun hin=>?_) (fun hin=>?_)
     ·have hstep : loopP p (highT T) (reachP p S (highT T) n) x (low :: L.drop (a + 1)) w = loopP p (highT T) (reachP p S (highT T) n) x (L.drop (a + 1)) w:=by
       rw [loopP,if_neg hw,if_neg hp,hh]
       dsimp only
       rw [if_pos hin]
      refine xI (ST.blockO dC (tX (bX (tN (rG (lU (aD I I oM) (lM I (nL ?_))))))))
      exact ST.again (a + 1,w) sB I I ⟨by dsimp only; omega,hcw,by dsimp only; rw [← hstep]⟩ (by dsimp only; omega)
     ·have hcn : cntP T (w ++ [nx]) < n:=by
       have:=cntP_lt (T:=T) (q:=(low,nx)) (highT_mem hh) (v:=w) hin
       dsimp only at this
       omega
      have hstep : loopP p (highT T) (reachP p S (highT T) n) x (low :: L.drop (a + 1)) w = if (reachP p S (highT T) n (low,nx) (w ++ [nx])).1 = true then (true,(reachP p S (highT T) n (low,nx) (w ++ [nx])).2) else loopP p (highT T) (reachP p S (highT T) n) x (L.drop (a + 1)) (reachP p S (highT T) n (low,nx) (w ++ [nx])).2:=by
       rw [loopP,if_neg hw,if_neg hp,hh]
       dsimp only
       rw [if_neg (by rw [hin]; decide)]
      have hsub:=reachP_sub p S (highT T) n (low,nx) (w ++ [nx])
      have hcn2 : cntP T (reachP p S (highT T) n (low,nx) (w ++ [nx])).2 < n + 1:=by
       have:=cntP_mono (T:=T) hsub
       omega
      have hi2:=get_set hi (mp m (setP (w ++ [nx])))
      have hj2:=set_other (a:=mp m (setP (w ++ [nx]))) hij hj
      have hk2:=set_other (a:=mp m (setP (w ++ [nx]))) hik hk
      have hrec:=ih (low,nx) (w ++ [nx]) _ i j k hcn hij hik hi2 hj2 hk2
      rw [hstep]
      generalize reachP p S (highT T) n (low,nx) (w ++ [nx]) = z at *
      obtain ⟨zb,zs⟩:=z
      dsimp only at hrec hcn2 hstep ⊢
      refine kP (bN (tN (SC.sR (lK (qL (v:=.map (some m)) isAgg71 I (cK h4 I)) (lM I (lO (SO.mapUpdate i mty71 I I I hi') ?_))))))
      rintro _ _ _ ⟨rfl,rfl⟩
      rw [setP_put hin,List.set_set]
      refine SL.nT (SC.sR (lK (qL isAgg105 I (cK h5 I)) (lM I (lM I (lW (SO.callV I I (CallV.mk (cap:=[pp bT 0,pp bp 0,pp bs 0,pp bf 0]) call99 hrec)) ?_)))))
      rintro _ _ _ ⟨rfl,rfl,rfl⟩
      refine SL.nT ?_
      refine iQ I (fun hz=>?_) (fun hz=>?_)
      ·subst hz
       refine SC.sR (lA I (SL.nT (rE (bR (tR (tR (bR (tR ?_))))))))
       exact ST.ret1 (.inl rfl) results99 rfl ⟨rfl,rfl,by rw [List.set_set]; rfl⟩
      ·subst hz
       refine kP (bN (tN (rG (lU (aD I I oM) (lM I (nL ?_))))))
       exact ST.again (a + 1,zs) sB I (by rw [List.set_set]) ⟨by dsimp only; omega,hcn2,by simp⟩ (by dsimp only; omega)
 ·have hdd : L.drop a = []:=List.drop_eq_nil_of_le oM
  rw [hdd] at heq
  refine xI (tX (tX (bX (tN (SC.sR (lA I (SL.nT (rE ?_))))))))
  exact ST.ret1 (.inl rfl) results99 rfl ⟨by rw [heq]; rfl,rfl,by rw [heq]; rfl⟩
theorem around14_spec (E : World) (g : PH) (s : Own) (bt ms mh : Nat) (p : Pr) (S : Int → List Int) (sm hm : List (Int × Value)) (T : List Pr) (r : Bool) (mu : Value) (tv : Value) (hsm : Mp g ms sm) (hS : SidM g sm S) (hH : HiM hm T) (j k : Nat)
  (hj : s[j]? = some (pt bt (.cells #[vb r,.map (some ms),.map (some mh),mu,tv] 73 (0,0)))) (hk : s[k]? = some (mp mh hm)) :
  Ctr Tryz.prog E 64 #[pp bt 0,.agg #[vi p.1,vi p.2]] g s (fun y g' s'=>y = vb (reachP p S (highT T) (T.length + 1) p []).1 ∧ s = s' ∧ Le g g'):=by
 refine Ctr.of (args:=[pp bt 0,.agg #[vi p.1,vi p.2]]) func64 I ntmps64 (bE I) ?_
 refine SC.sR (SL.bx (bO I) fun b2=>?_)
 refine SL.bx (bO I) fun b3=>?_
 refine lA I (SL.nT (SC.sR (lW (SO.mkMap) ?_)))
 rintro _ _ _ ⟨b7,rfl,rfl,rfl⟩
 refine SL.bx (aL zeroValue71) fun b5=>?_
 refine SL.O2 (sK 0 sizeOf71 I I I I I sB) ?_
 refine SL.nT (SC.sR (SL.bx (aL zeroValue105) fun b6=>?_))
 refine SL.nT (SC.sR (lU (SU.mkFunc I) (SL.O2 (sK 0 sizeOf105 I I I I I sB) ?_)))
 refine SL.nT (sQ (SC.freeze fun g1 hle1 h5=>?_))
 refine SC.freeze fun g2 hle2 h4=>?_
 refine SC.to (fun w hw=>hw.perm ((List.Perm.swap _ _ _).trans (List.Perm.cons _ (List.Perm.swap _ _ _)))) ?_
 refine SC.freeze fun g3 hle3 h3=>?_
 refine SC.freeze fun g4 hle4 h2=>?_
 have h5:=hle4 _ _ (hle3 _ _ (hle2 _ _ h5))
 have h4:=hle4 _ _ (hle3 _ _ h4)
 have h3:=hle4 _ _ h3
 have hle:=hle1.trans (hle2.trans (hle3.trans hle4))
 refine rG (lK (qL (v:=.func (.func 99) #[] #[pp b2 0,pp b3 0,pp b5 0,pp b6 0]) isAgg105 I (cK h5 I)) (lU (iB uT44 zT3 I I dC dC) (lK (qL (v:=vi p.2) iT3 I (cK h3 I)) (lU (iB uT44 zT3 I I dC dC) (lK (qL (v:=vi p.1) iT3 I (cK h3 I)) (lW (SO.callV I I (CallV.mk (cap:=[pp b2 0,pp b3 0,pp b5 0,pp b6 0]) call99 (reachW E g4 b2 b3 b5 b6 bt b7 ms mh p S sm hm T r mu tv h2 h3 h4 h5 (hsm.mono hle) (hS.mono hle) hH (T.length + 1) p [] (mp b7 [] :: s) 0 (j + 1) (k + 1) (Nat.lt_succ_of_le (List.length_filter_le _ _)) (Nat.succ_ne_zero _).symm (Nat.succ_ne_zero _).symm I hj hk))) ?_))))))
 rintro _ _ _ ⟨rfl,rfl,rfl⟩
 refine lA I (SL.nT (rE (dR (s':=s) (.cons _ (.refl _)) ?_)))
 exact ST.ret1 (.inl I) results64 I ⟨I,I,hle⟩
def UsM (m : List (Int × Value)) (T : List Pr) : Prop:=∀ k,(mget m k).getD (vb false) = vb (usedR T k)
theorem usedR_snoc (T : List Pr) (p : Pr) (k : Int) : usedR (T ++ [p]) k = (usedR T k || decide (p.1 = k) || decide (p.2 = k)):=by
 unfold usedR
 simp only [List.any_append,List.any_cons,List.any_nil,Bool.or_false]
 cases T.any (fun q=>decide (q.1 = k)) <;> cases T.any (fun q=>decide (q.2 = k)) <;> cases decide (p.1 = k) <;> cases decide (p.2 = k) <;> rfl
theorem UsM.snoc {m : List (Int × Value)} {T : List Pr} (h : UsM m T) (p : Pr) : UsM (mput (mput m p.1 (vb true)) p.2 (vb true)) (T ++ [p]):=fun k=>by
 rw [mget_mput,mget_mput,usedR_snoc]
 by_cases h2 : k = p.2
 ·subst h2; simp
 ·by_cases h1 : k = p.1
  ·subst h1; simp [h2]
  ·rw [if_neg h2,if_neg h1,h k,decide_eq_false (fun e=>h1 e.symm),decide_eq_false (fun e=>h2 e.symm),Bool.or_false,Bool.or_false]
theorem highT_none {T : List Pr} {k : Int} (h : usedR T k = false) : highT T k = none:=by
 cases hh : highT T k with
 | none=>rfl
 | some n =>
  have hm:=highT_mem hh
  unfold usedR at h
  rw [Bool.or_eq_false_iff] at h
  have:=List.any_eq_false.1 h.1 _ hm
  simp at this
theorem highT_snoc (T : List Pr) (p : Pr) (k : Int) : highT (T ++ [p]) k = (highT T k).or (if p.1 = k then some p.2 else none):=by
 unfold highT
 rw [List.find?_append]
 cases T.find? (fun q=>decide (q.1 = k)) with
 | some q=>rfl
 | none =>
  by_cases e : p.1 = k <;> simp [e]
theorem HiM.snoc {m : List (Int × Value)} {T : List Pr} (h : HiM m T) {p : Pr} (hp : usedR T p.1 = false) : HiM (mput m p.1 (vi p.2)) (T ++ [p]):=fun k=>by
 rw [mget_mput,highT_snoc]
 by_cases h1 : k = p.1
 ·subst h1
  rw [if_pos rfl,highT_none hp,if_pos rfl]
  rfl
 ·rw [if_neg h1,h k,if_neg (fun e=>h1 e.symm)]
  cases highT T k <;> rfl
theorem takeP_spec (E : World) (g : PH) (s : Own) (bt ms mh mu : Nat) (p : Pr) (S : Int → List Int) (sm hm um : List (Int × Value)) (T : List Pr) (r : Bool) (tv : Value) (hsm : Mp g ms sm) (hS : SidM g sm S) (hH : HiM hm T) (hU : UsM um T) (hl : T.length < 1099511627775) :
  Ctr Tryz.prog E 34 #[pp bt 0,.agg #[vi p.1,vi p.2]] g (pt bt (.cells #[vb r,.map (some ms),.map (some mh),.map (some mu),tv] 73 (0,0)) :: mp mh hm :: mp mu um :: rowA encPr 44 tv T :: s)
   (fun _ g' s'=>Le g g' ∧ ∃ hm' um' tv',s' = pt bt (.cells #[vb r,.map (some ms),.map (some mh),.map (some mu),tv'] 73 (0,0)) :: mp mh hm' :: mp mu um' :: rowA encPr 44 tv' (takeP r S T p) :: s ∧ HiM hm' (takeP r S T p) ∧ UsM um' (takeP r S T p)):=by
 obtain ⟨v,hv1,hv2,hvl⟩:=hS p.2
 have htk : takeP r S T p = if r && !usedR T p.1 && !usedR T p.2 && (S p.2).contains p.1 && !(reachP p S (highT T) (T.length + 1) p []).1 then T ++ [p] else T:=rfl
 have hno : (r && !usedR T p.1 && !usedR T p.2 && (S p.2).contains p.1 && !(reachP p S (highT T) (T.length + 1) p []).1) = false → takeP r S T p = T:=fun h=>by rw [htk,h]; rfl
 refine Ctr.of (args:=[pp bt 0,.agg #[vi p.1,vi p.2]]) func34 I ntmps34 (bE I) ?_
 refine SC.sR (SL.bx (bO I) fun b3=>?_)
 refine SL.nT (sQ ?_)
 rcases Bool.eq_false_or_eq_true r with hr | hr
 rotate_left
 ·subst hr
  have ht:=hno rfl
  rw [ht]
  refine sQ ?_
  refine dW [] [(0,2),(1,2),(2,2),(3,1),(4,2),(5,2),(6,2),(7,2),(8,2),(9,1),(10,2),(11,1),(12,1),(13,2),(14,2),(15,2),(16,2),(17,2),(18,1),(19,2),(20,1),(21,1),(22,2),(23,2),(24,2),(25,2),(26,2),(27,1),(28,2),(29,1),(30,1),(31,2),(32,1),(33,0),(34,2),(35,2),(36,2),(37,2),(38,1),(39,0),(40,2)] Tryz.mixed (by kernel_rfl) ?_
  refine pU I (mV I) (pU I (nC I) (pU I (fA uT73 I zT4 I) (pK I (qL (v:=vb _) isAgg4 I (cO 1 I I)) (pU I (SU.not I) (pU I (mV I) (fP I (gF I I I dC) dC (fP I (gF I I I dC) dC (fP I (gF I I I dC) dC (SP.off1 I (gF I I I dC) dC (fP I (gF I I I dC) dC (SP.off1 I (gF I I I dC) dC (SP.off1 I (gF I I I dC) dC (pU I (pT I I) (pU I (mV I) (fP I (gF I I I dC) dC (fP I (gF I I I dC) dC (fP I (gF I I I dC) dC (SP.off1 I (gF I I I dC) dC (fP I (gF I I I dC) dC (SP.off1 I (gF I I I dC) dC (SP.off1 I (gF I I I dC) dC (pU I (pT I I) (pU I (mV I) (fP I (gF I I I dC) dC (fP I (gF I I I dC) dC (fP I (gF I I I dC) dC (SP.off1 I (gF I I I dC) dC (fP I (gF I I I dC) dC (SP.off1 I (gF I I I dC) dC ?_)))))))))))))))))))))))))))))
  refine SP.off1 I (gF I I I dC) dC (fP I (gF I I I dC) dC (SP.off1 I (gF I I I dC) dC (fO I (gF I I I dC) dC ⟨by exact Le.refl _,(by exact .refl _)⟩ ?_)))
  refine fP I (gF I I I dC) dC (pU I (pT I I) (pU I (mV I) (fP I (gF I I I dC) dC (SP.off1 I (gF I I I dC) dC (fO I (gF I I I dC) dC ⟨by exact Le.refl _,(by exact .refl _)⟩ ?_)))))
  refine pU I (pT I I) (pN (tN (cT I (rE (tR (dR (.cons _ (.refl _)) ?_))))))
  exact ST.ret0 (.inl I) results34 ⟨Le.refl _,hm,um,tv,I,hH,hU⟩
 subst hr
 rcases Bool.eq_false_or_eq_true (usedR T p.1) with hx1 | hx1
 ·have ht:=hno (by rw [hx1]; rfl)
  rw [ht]
  refine sQ ?_
  refine dW [] [(0,2),(1,2),(2,2),(3,1),(4,2),(5,2),(6,2),(7,2),(8,2),(9,1),(10,2),(11,1),(12,1),(13,2),(14,2),(15,2),(16,2),(17,2),(18,1),(19,2),(20,1),(21,1),(22,2),(23,2),(24,2),(25,2),(26,2),(27,1),(28,2),(29,1),(30,1),(31,2),(32,1),(33,0),(34,2),(35,2),(36,2),(37,2),(38,1),(39,0),(40,2)] Tryz.mixed (by kernel_rfl) ?_
  refine pU I (mV I) (pU I (nC I) (pU I (fA uT73 I zT4 I) (pK I (qL (v:=vb _) isAgg4 I (cO 1 I I)) (pU I (SU.not I) (pU I (mV I) (SP.gu I (gT I I I dC) (mV I) dC (SP.gu I (gT I I I dC) (nC I) dC (SP.gu I (gT I I I dC) (fA uT73 I sizeOf71 I) dC (SP.gq I (gT I I I dC) (qL (v:=.map (some mu)) isAgg71 I (cO 1 I I)) dC (SP.gu I (gT I I I dC) (iB uT44 zT3 I I dC dC) dC (SP.gq I (gT I I I dC) (qL (v:=vi p.1) iT3 I (cO 0 I I)) dC (SP.gq I (gT I I I dC) (SQ.eq (v':=vb true) (SQ.lookup mty71 I I (MapAt.own 3 I)) ((hU p.1).trans (congrArg vb hx1))) dC (pU I (pF I I) (pU I (mV I) (fP I (gF I I I dC) dC (fP I (gF I I I dC) dC (fP I (gF I I I dC) dC (SP.off1 I (gF I I I dC) dC (fP I (gF I I I dC) dC (SP.off1 I (gF I I I dC) dC (SP.off1 I (gF I I I dC) dC (pU I (pT I I) (pU I (mV I) (fP I (gF I I I dC) dC (fP I (gF I I I dC) dC (fP I (gF I I I dC) dC (SP.off1 I (gF I I I dC) dC (fP I (gF I I I dC) dC (SP.off1 I (gF I I I dC) dC ?_)))))))))))))))))))))))))))))
  refine SP.off1 I (gF I I I dC) dC (fP I (gF I I I dC) dC (SP.off1 I (gF I I I dC) dC (fO I (gF I I I dC) dC ⟨by exact Le.refl _,(by exact .refl _)⟩ ?_)))
  refine fP I (gF I I I dC) dC (pU I (pT I I) (pU I (mV I) (fP I (gF I I I dC) dC (SP.off1 I (gF I I I dC) dC (fO I (gF I I I dC) dC ⟨by exact Le.refl _,(by exact .refl _)⟩ ?_)))))
  refine pU I (pT I I) (pN (tN (cT I (rE (tR (dR (.cons _ (.refl _)) ?_))))))
  exact ST.ret0 (.inl I) results34 ⟨Le.refl _,hm,um,tv,I,hH,hU⟩
 rcases Bool.eq_false_or_eq_true (usedR T p.2) with hx2 | hx2
 ·have ht:=hno (by rw [hx1,hx2]; rfl)
  rw [ht]
  refine sQ ?_
  refine dW [] [(0,2),(1,2),(2,2),(3,1),(4,2),(5,2),(6,2),(7,2),(8,2),(9,1),(10,2),(11,1),(12,1),(13,2),(14,2),(15,2),(16,2),(17,2),(18,1),(19,2),(20,1),(21,1),(22,2),(23,2),(24,2),(25,2),(26,2),(27,1),(28,2),(29,1),(30,1),(31,2),(32,1),(33,0),(34,2),(35,2),(36,2),(37,2),(38,1),(39,0),(40,2)] Tryz.mixed (by kernel_rfl) ?_
  refine pU I (mV I) (pU I (nC I) (pU I (fA uT73 I zT4 I) (pK I (qL (v:=vb _) isAgg4 I (cO 1 I I)) (pU I (SU.not I) (pU I (mV I) (SP.gu I (gT I I I dC) (mV I) dC (SP.gu I (gT I I I dC) (nC I) dC (SP.gu I (gT I I I dC) (fA uT73 I sizeOf71 I) dC (SP.gq I (gT I I I dC) (qL (v:=.map (some mu)) isAgg71 I (cO 1 I I)) dC (SP.gu I (gT I I I dC) (iB uT44 zT3 I I dC dC) dC (SP.gq I (gT I I I dC) (qL (v:=vi p.1) iT3 I (cO 0 I I)) dC (SP.gq I (gT I I I dC) (SQ.eq (v':=vb false) (SQ.lookup mty71 I I (MapAt.own 3 I)) ((hU p.1).trans (congrArg vb hx1))) dC (pU I (pF I I) (pU I (mV I) (SP.gu I (gT I I I dC) (mV I) dC (SP.gu I (gT I I I dC) (nC I) dC (SP.gu I (gT I I I dC) (fA uT73 I sizeOf71 I) dC (SP.gq I (gT I I I dC) (qL (v:=.map (some mu)) isAgg71 I (cO 1 I I)) dC (SP.gu I (gT I I I dC) (iB uT44 zT3 I I dC dC) dC (SP.gq I (gT I I I dC) (qL (v:=vi p.2) iT3 I (cO 0 I I)) dC (SP.gq I (gT I I I dC) (SQ.eq (v':=vb true) (SQ.lookup mty71 I I (MapAt.own 3 I)) ((hU p.2).trans (congrArg vb hx2))) dC (pU I (pF I I) (pU I (mV I) (fP I (gF I I I dC) dC (fP I (gF I I I dC) dC (fP I (gF I I I dC) dC (SP.off1 I (gF I I I dC) dC (fP I (gF I I I dC) dC (SP.off1 I (gF I I I dC) dC ?_)))))))))))))))))))))))))))))
  refine SP.off1 I (gF I I I dC) dC (fP I (gF I I I dC) dC (SP.off1 I (gF I I I dC) dC (fO I (gF I I I dC) dC ⟨by exact Le.refl _,(by exact .refl _)⟩ ?_)))
  refine fP I (gF I I I dC) dC (pU I (pT I I) (pU I (mV I) (fP I (gF I I I dC) dC (SP.off1 I (gF I I I dC) dC (fO I (gF I I I dC) dC ⟨by exact Le.refl _,(by exact .refl _)⟩ ?_)))))
  refine pU I (pT I I) (pN (tN (cT I (rE (tR (dR (.cons _ (.refl _)) ?_))))))
  exact ST.ret0 (.inl I) results34 ⟨Le.refl _,hm,um,tv,I,hH,hU⟩
 rcases Bool.eq_false_or_eq_true ((S p.2).contains p.1) with hx3 | hx3
 rotate_left
 ·have ht:=hno (by rw [hx1,hx2,hx3]; rfl)
  rw [ht]
  refine sQ ?_
  refine dW [] [(0,2),(1,2),(2,2),(3,1),(4,2),(5,2),(6,2),(7,2),(8,2),(9,1),(10,2),(11,1),(12,1),(13,2),(14,2),(15,2),(16,2),(17,2),(18,1),(19,2),(20,1),(21,1),(22,2),(23,2),(24,2),(25,2),(26,2),(27,1),(28,2),(29,1),(30,1),(31,2),(32,1),(33,0),(34,2),(35,2),(36,2),(37,2),(38,1),(39,0),(40,2)] Tryz.mixed (by kernel_rfl) ?_
  refine pU I (mV I) (pU I (nC I) (pU I (fA uT73 I zT4 I) (pK I (qL (v:=vb _) isAgg4 I (cO 1 I I)) (pU I (SU.not I) (pU I (mV I) (SP.gu I (gT I I I dC) (mV I) dC (SP.gu I (gT I I I dC) (nC I) dC (SP.gu I (gT I I I dC) (fA uT73 I sizeOf71 I) dC (SP.gq I (gT I I I dC) (qL (v:=.map (some mu)) isAgg71 I (cO 1 I I)) dC (SP.gu I (gT I I I dC) (iB uT44 zT3 I I dC dC) dC (SP.gq I (gT I I I dC) (qL (v:=vi p.1) iT3 I (cO 0 I I)) dC (SP.gq I (gT I I I dC) (SQ.eq (v':=vb false) (SQ.lookup mty71 I I (MapAt.own 3 I)) ((hU p.1).trans (congrArg vb hx1))) dC (pU I (pF I I) (pU I (mV I) (SP.gu I (gT I I I dC) (mV I) dC (SP.gu I (gT I I I dC) (nC I) dC (SP.gu I (gT I I I dC) (fA uT73 I sizeOf71 I) dC (SP.gq I (gT I I I dC) (qL (v:=.map (some mu)) isAgg71 I (cO 1 I I)) dC (SP.gu I (gT I I I dC) (iB uT44 zT3 I I dC dC) dC (SP.gq I (gT I I I dC) (qL (v:=vi p.2) iT3 I (cO 0 I I)) dC (SP.gq I (gT I I I dC) (SQ.eq (v':=vb false) (SQ.lookup mty71 I I (MapAt.own 3 I)) ((hU p.2).trans (congrArg vb hx2))) dC (pU I (pF I I) (pU I (mV I) (SP.gu I (gT I I I dC) (mV I) dC (SP.gu I (gT I I I dC) (nC I) dC (SP.gu I (gT I I I dC) (fA uT73 I sizeOf69 I) dC (SP.gq I (gT I I I dC) (qL (v:=.map (some ms)) isAgg69 I (cO 1 I I)) dC (SP.gu I (gT I I I dC) (iB uT44 zT3 I I dC dC) dC (SP.gq I (gT I I I dC) (qL (v:=vi p.2) iT3 I (cO 0 I I)) dC ?_)))))))))))))))))))))))))))))
  refine SP.gq rfl (gT rfl rfl rfl dC) (SQ.eq (v':=v) (SQ.lookup mty69 rfl rfl (MapAt.known hsm)) hv1) dC (SP.gu rfl (gT rfl rfl rfl dC) (iB uT44 zT3 rfl rfl dC dC) dC (SP.gq rfl (gT rfl rfl rfl dC) (qL (v:=vi p.1) iT3 rfl (cO 0 rfl rfl)) dC (SP.go rfl (gT rfl rfl rfl dC) (SO.call call63 rfl (containsInt_spec E g _ v (S p.2) p.1 hv2 hvl)) dC (.inr (by rintro _ _ _ ⟨rfl,rfl,rfl⟩; exact ⟨by exact Le.refl _,(by exact .refl _)⟩)) ?_)))
  rintro _ _ _ ⟨rfl,rfl,rfl⟩
  rw [hx3]
  refine SP.gu I (gT I I I dC) (SU.not I) dC (pU I (pF I I) (pU I (mV I) (fP I (gF I I I dC) dC (SP.off1 I (gF I I I dC) dC (fO I (gF I I I dC) dC ⟨by exact Le.refl _,(by exact .refl _)⟩ ?_)))))
  refine pU I (pT I I) (pN (tN (cT I (rE (tR (dR (.cons _ (.refl _)) ?_))))))
  exact ST.ret0 (.inl I) results34 ⟨Le.refl _,hm,um,tv,I,hH,hU⟩
 refine sQ ?_
 refine dW [] [(0,2),(1,2),(2,2),(3,1),(4,2),(5,2),(6,2),(7,2),(8,2),(9,1),(10,2),(11,1),(12,1),(13,2),(14,2),(15,2),(16,2),(17,2),(18,1),(19,2),(20,1),(21,1),(22,2),(23,2),(24,2),(25,2),(26,2),(27,1),(28,2),(29,1),(30,1),(31,2),(32,1),(33,0),(34,2),(35,2),(36,2),(37,2),(38,1),(39,0),(40,2)] Tryz.mixed (by kernel_rfl) ?_
 refine pU I (mV I) (pU I (nC I) (pU I (fA uT73 I zT4 I) (pK I (qL (v:=vb _) isAgg4 I (cO 1 I I)) (pU I (SU.not I) (pU I (mV I) (SP.gu I (gT I I I dC) (mV I) dC (SP.gu I (gT I I I dC) (nC I) dC (SP.gu I (gT I I I dC) (fA uT73 I sizeOf71 I) dC (SP.gq I (gT I I I dC) (qL (v:=.map (some mu)) isAgg71 I (cO 1 I I)) dC (SP.gu I (gT I I I dC) (iB uT44 zT3 I I dC dC) dC (SP.gq I (gT I I I dC) (qL (v:=vi p.1) iT3 I (cO 0 I I)) dC (SP.gq I (gT I I I dC) (SQ.eq (v':=vb false) (SQ.lookup mty71 I I (MapAt.own 3 I)) ((hU p.1).trans (congrArg vb hx1))) dC (pU I (pF I I) (pU I (mV I) (SP.gu I (gT I I I dC) (mV I) dC (SP.gu I (gT I I I dC) (nC I) dC (SP.gu I (gT I I I dC) (fA uT73 I sizeOf71 I) dC (SP.gq I (gT I I I dC) (qL (v:=.map (some mu)) isAgg71 I (cO 1 I I)) dC (SP.gu I (gT I I I dC) (iB uT44 zT3 I I dC dC) dC (SP.gq I (gT I I I dC) (qL (v:=vi p.2) iT3 I (cO 0 I I)) dC (SP.gq I (gT I I I dC) (SQ.eq (v':=vb false) (SQ.lookup mty71 I I (MapAt.own 3 I)) ((hU p.2).trans (congrArg vb hx2))) dC (pU I (pF I I) (pU I (mV I) (SP.gu I (gT I I I dC) (mV I) dC (SP.gu I (gT I I I dC) (nC I) dC (SP.gu I (gT I I I dC) (fA uT73 I sizeOf69 I) dC (SP.gq I (gT I I I dC) (qL (v:=.map (some ms)) isAgg69 I (cO 1 I I)) dC (SP.gu I (gT I I I dC) (iB uT44 zT3 I I dC dC) dC (SP.gq I (gT I I I dC) (qL (v:=vi p.2) iT3 I (cO 0 I I)) dC ?_)))))))))))))))))))))))))))))
 refine SP.gq rfl (gT rfl rfl rfl dC) (SQ.eq (v':=v) (SQ.lookup mty69 rfl rfl (MapAt.known hsm)) hv1) dC (SP.gu rfl (gT rfl rfl rfl dC) (iB uT44 zT3 rfl rfl dC dC) dC (SP.gq rfl (gT rfl rfl rfl dC) (qL (v:=vi p.1) iT3 rfl (cO 0 rfl rfl)) dC (SP.go rfl (gT rfl rfl rfl dC) (SO.call call63 rfl (containsInt_spec E g _ v (S p.2) p.1 hv2 hvl)) dC (.inr (by rintro _ _ _ ⟨rfl,rfl,rfl⟩; exact ⟨by exact Le.refl _,(by exact .refl _)⟩)) ?_)))
 rintro _ _ _ ⟨rfl,rfl,rfl⟩
 rw [hx3]
 refine SP.gu rfl (gT rfl rfl rfl dC) (SU.not rfl) dC (pU rfl (pF rfl rfl) (pU rfl (mV rfl) (SP.gu rfl (gT rfl rfl rfl dC) (mV rfl) dC (SP.gq rfl (gT rfl rfl rfl dC) (qV 0 iT44 zT44 rfl rfl rfl) dC (SP.go rfl (gT rfl rfl rfl dC) (SO.call call64 rfl (around14_spec E g _ bt ms mh p S sm hm T _ (.map (some mu)) tv hsm hS hH 1 2 rfl rfl)) dC (.inr (by rintro _ g1 _ ⟨rfl,rfl,hle1⟩; exact ⟨by assumption,(by exact .refl _)⟩)) ?_)))))
 rintro _ g1 _ ⟨rfl,rfl,hle1⟩
 refine pU I (pF I I) (pN (tN ?_))
 refine iQ I (fun hx4=>?_) (fun hx4=>?_)
 ·have ht:=hno (by rw [hx1,hx2,hx3,hx4]; rfl)
  rw [ht]
  refine rE (tR (dR (.cons _ (.refl _)) ?_))
  exact ST.ret0 (.inl I) results34 ⟨hle1,hm,um,tv,I,hH,hU⟩
 ·have ht : takeP true S T p = T ++ [p]:=by rw [htk,hx1,hx2,hx3,hx4]; rfl
  rw [ht]
  have hU2:=hU.snoc p
  have hH2:=hH.snoc hx1
  refine kP (tN (sQ ?_))
  refine SC.drawT 3 [] [(0,2),(1,2),(2,2),(3,1),(4,2),(5,1),(6,2),(7,2),(8,2),(9,1),(10,2),(11,1),(12,0),(13,2),(14,0),(15,0),(16,2),(17,0)] Tryz.mixed (by kernel_rfl) ?_
  refine pU rfl (mV rfl) (pU rfl (nC rfl) (pU rfl (fA uT73 rfl sizeOf71 rfl) (pK rfl (qL (v:=.map (some mu)) isAgg71 rfl (cO 1 rfl rfl)) (pU rfl (iB uT44 zT3 rfl rfl dC dC) (pK rfl (qL (v:=vi p.1) iT3 rfl (cO 0 rfl rfl)) (pU rfl (mV rfl) (pU rfl (nC rfl) (pU rfl (fA uT73 rfl sizeOf71 rfl) (pK rfl (qL (v:=.map (some mu)) isAgg71 rfl (cO 1 rfl rfl)) (pU rfl (iB uT44 zT3 rfl rfl dC dC) (pK rfl (qL (v:=vi p.2) iT3 rfl (cO 0 rfl rfl)) (SP.o rfl (SO.mapEntry 3 mty71 rfl rfl rfl) dC (.inr (by rintro _ _ _ ⟨st1,j1,l1,rfl,rfl,rfl,hk1,hp1⟩; exact ⟨by exact Le.refl _,(by exact take_set_sub _ _ _ _)⟩)) ?_))))))))))))
  rintro _ _ _ ⟨st1,j1,l1,rfl,rfl,rfl,hk1,hp1⟩
  refine pU rfl (xT rfl rfl) (SP.on rfl (SO.entryStore 3 rfl rfl rfl rfl hk1) (.inr (by rintro _ _ _ ⟨rfl,rfl⟩; exact ⟨by exact Le.refl _,(by exact .cons_cons _ (.cons_cons _ (.cons_cons _ (List.nil_sublist _))))⟩)) ?_)
  rintro _ _ _ ⟨rfl,rfl⟩
  rw [← hp1]
  refine SP.o rfl (SO.mapEntry 3 mty71 rfl rfl rfl) dC (.inr (by rintro _ _ _ ⟨st2,j2,l2,rfl,rfl,rfl,hk2,hp2⟩; exact ⟨by exact Le.refl _,(by exact .cons_cons _ (.cons_cons _ (.cons_cons _ (List.nil_sublist _))))⟩)) ?_
  rintro _ _ _ ⟨st2,j2,l2,rfl,rfl,rfl,hk2,hp2⟩
  refine pU rfl (xT rfl rfl) (SP.on rfl (SO.entryStore 3 rfl rfl rfl rfl hk2) (.inr (by rintro _ _ _ ⟨rfl,rfl⟩; exact ⟨by exact Le.refl _,(by exact .cons_cons _ (.cons_cons _ (.cons_cons _ (List.nil_sublist _))))⟩)) ?_)
  rintro _ _ _ ⟨rfl,rfl⟩
  rw [← hp2]
  refine pN (tN (sQ ?_))
  refine dW [8] [(0,2),(1,2),(2,2),(3,1),(4,2),(5,1),(6,2),(7,1),(8,0)] Tryz.mixed (by kernel_rfl) ?_
  refine pU I (mV I) (pU I (nC I) (pU I (fA uT73 I sizeOf70 I) (pK I (qL (v:=.map (some mh)) isAgg70 I (cO 1 I I)) (pU I (iB uT44 zT3 I I dC dC) (pK I (qL (v:=vi p.1) iT3 I (cO 0 I I)) (pU I (iB uT44 zT3 I I dC dC) (pK I (qL (v:=vi p.2) iT3 I (cO 0 I I)) (SP.on I (SO.mapUpdate 2 mty70 I I I I) (.inl dC) ?_))))))))
  rintro _ _ _ ⟨rfl,rfl⟩
  refine pN (tN ?_)
  refine dW [7,10] [(0,2),(1,2),(2,2),(3,2),(4,1),(5,1),(6,0),(7,0),(8,2),(9,2),(10,0)] Tryz.mixed (by kernel_rfl) ?_
  refine pU rfl (mV rfl) (pU rfl (mV rfl) (pU rfl (nC rfl) (pU rfl (fA uT73 rfl sizeOf31 rfl) (pK rfl (qL (v:=tv) isAgg31 rfl (cO 1 rfl rfl)) (pK rfl (qV 0 iT44 zT44 rfl rfl rfl) (SP.o rfl (bS sty31 rfl rfl rfl (szs_mk ⟨rfl,trivial⟩) dC) dC (.inr (by rintro _ _ _ ⟨b75,rfl,rfl,rfl⟩; exact ⟨by exact Le.refl _,(by exact .cons _ (.refl _))⟩)) ?_))))))
  rintro _ _ _ ⟨b75,rfl,rfl,rfl⟩
  refine SP.o I (aP (e:=encPr) 4 p sty31 I I I I I oM oM) dC (.inl dC) ?_
  rintro tv' _ _ ⟨rfl,rfl⟩
  refine SP.facts fun ⟨w0,hw0⟩=>?_
  obtain ⟨q76,c76,rfl⟩:=rowA_form (e:=encPr) (l:=T ++ [p]) (i:=4) hw0 rfl
  clear hw0 w0
  refine pU rfl (nC rfl) (pU rfl (fA uT73 rfl sizeOf31 rfl) (SP.on rfl (SO.store1 1 sizeOf31 rfl rfl rfl rfl (bE rfl) (by rfl)) (.inl dC) ?_))
  rintro _ _ _ ⟨rfl,rfl⟩
  refine pN (dR (.cons _ (.refl _)) ?_)
  exact ST.ret0 (.inr I) results34 ⟨hle1,_,_,_,I,hH2,hU2⟩
def sidStep (S : Int → List Int) (c : Cl) : Int → List Int:=fun k=>if k = c.id then c.sides.map Side.cell else S k
def sidF (l : List Cl) : Int → List Int:=(canonC l).foldl sidStep (fun _=>[])
theorem SidM.put {g : PH} {m : List (Int × Value)} {S : Int → List Int} (h : SidM g m S) (c : Cl) {v : Value} (hv : Ints g v (c.sides.map Side.cell)) (hl : c.sides.length < 1099511627776) : SidM g (mput m c.id v) (sidStep S c):=fun k=>by
 unfold sidStep
 rw [mget_mput]
 by_cases e : k = c.id
 ·rw [if_pos e,if_pos e]
  exact ⟨v,I,hv,by rw [List.length_map]; exact hl⟩
 ·rw [if_neg e,if_neg e]
  exact h k
theorem Tryz.build73 (b : Bool) (x y z : Option Nat) (p : Option Addr) (n c : Nat) (w : World) : (Instr.build 73 #[(0,vb b),(1,.map x),(2,.map y),(3,.map z),(4,.slice p n c)]).run Tryz.prog w = .ok (.agg #[vb b,.map x,.map y,.map z,.slice p n c]) w:=by
 have h1 : (vb b).cells = #[vb b]:=rfl
 have h2 : ∀ x,(Value.map x).cells = #[.map x]:=fun _=>rfl
 have h3 : (Value.slice p n c).cells = #[.slice p n c]:=rfl
 simp [Instr.build,Instr.fill,h1,h2,h3]
 rfl
theorem perm4 (a b c d : Ent) (s : Own) : (a :: b :: c :: d :: s).Perm (d :: a :: c :: b :: s) :=
 (List.Perm.cons a (List.Perm.cons b (List.Perm.swap d c s))).trans ((List.Perm.cons a (List.Perm.swap d b (c :: s))).trans ((List.Perm.swap d a (b :: c :: s)).trans (List.Perm.cons d (List.Perm.cons a (List.Perm.swap c b s)))))
theorem begin_spec (E : World) (g : PH) (s : Own) (v : Value) (l : List Cl) (hv : Cells g v l) (hf : Fits l) :
  Ctr Tryz.prog E 33 #[.agg #[v]] g s (fun y g' s'=>Le g g' ∧ ∃ bt ms mh mu sm,y = pp bt 0 ∧ s' = pt bt (.cells #[vb (decide ((checkC l).2 = 0)),.map (some ms),.map (some mh),.map (some mu),.slice none 0 0] 73 (0,0)) :: mp mh [] :: mp mu [] :: rowA encPr 44 (.slice none 0 0) [] :: s ∧ Mp g' ms sm ∧ SidM g' sm (sidF l)):=by
 have hfc:=canonC_fits hf
 have hres : sidF l = (canonC l).foldl sidStep (fun _=>[]):=rfl
 rw [hres]
 refine Ctr.of (args:=[.agg #[v]]) func33 I ntmps33 (bE I) ?_
 refine SC.sR (SL.bx (bO I) fun b1=>?_)
 refine lA I (SL.nT (SC.sR (lK (qV 0 iT29 zT29 I I I) (lW (SO.call call24 I (check_spec E g _ v l hv hf)) ?_))))
 rintro _ _ _ ⟨rfl,rfl,rfl⟩
 refine lM I (lU (xT I I) (lU (xT I I) (lA I (lA I (SL.nT (SC.sR (lM I (lU (eQ I I) (lW (SO.mkMap) ?_)))))))))
 rintro _ _ _ ⟨b18,rfl,rfl,rfl⟩
 refine lW (SO.mkMap) ?_
 rintro _ _ _ ⟨b19,rfl,rfl,rfl⟩
 refine lW (SO.mkMap) ?_
 rintro _ _ _ ⟨b20,rfl,rfl,rfl⟩
 refine lU (SU.build I (build73 _ _ _ _ _ _ _)) (SL.bx (bO I) fun b22=>?_)
 refine lA I (SL.nT (sQ (SC.sR (lK (qV 4 iT29 zT29 I I I) (lW (SO.call call50 I (canon_spec E g _ v l hv hf)) ?_)))))
 rintro _ g1 _ ⟨rfl,hle1,u,rfl,hc⟩
 obtain ⟨rs,hrs,hall⟩:=hc
 obtain ⟨q,d,rfl⟩:=SlA.form hrs
 refine lU (SU.field uT29 I iT27 I I) (lU (eN uT27 I) (lM I (SL.nT (bK ?_))))
 generalize canonC l = A at *
 generalize decide ((checkC l).2 = 0) = rt at *
 have hrl:=hall.length
 have hAl:=hfc.1
 refine oP (ι:=Nat × PH × List (Int × Value)) (fun i=>[(5,pp b22 0),(25,.slice q rs.length d),(26,vi rs.length),(27,vi i.1)]) (fun i=>i.2.1) (fun i=>pt b22 (.cells #[vb rt,.map (some b18),.map (some b19),.map (some b20),.slice none 0 0] 73 (0,0)) :: mp b20 [] :: mp b19 [] :: mp b18 i.2.2 :: pt b1 (.cells #[v] 29 (0,0)) :: s)
  (fun i=>i.1 ≤ A.length ∧ Le g1 i.2.1 ∧ SidM i.2.1 i.2.2 ((A.take i.1).foldl sidStep (fun _=>[]))) (fun i=>A.length - i.1) (0,g1,[])
  sB rfl rfl ⟨Nat.zero_le _,Le.refl _,fun k=>⟨_,rfl,Sl.nil g1 _,by simp⟩⟩ ?_
 rintro ⟨k,g2,sm⟩ ⟨hk,hle2,hS⟩
 dsimp only at hk hle2 hS ⊢
 refine SC.sR (lU (lS I I) (SL.nT (sQ ?_)))
 refine iP I (fun hlt=>?_) (fun hlt=>?_)
 ·have hkl : k < A.length:=oM
  have hkr : k < rs.length:=oM
  have hb1:=SlA.based hrs oM
  have hgk : rs[((k : Nat) : Int).toNat]? = some rs[k]:=gE hkr
  have hcr:=CellR.mono hle2 (hall.get (gE hkl) (gE hkr))
  have hsl:=hfc.2 A[k] (gM hkl)
  have htk : (A.take (k + 1)).foldl sidStep (fun _=>[]) = sidStep ((A.take k).foldl sidStep (fun _=>[])) A[k]:=by rw [tS hkl,List.foldl_append]; rfl
  generalize A[k] = c at *
  generalize hrk : rs[k] = rk at *
  obtain ⟨xi,xd,xp,xn,xc⟩:=rk
  obtain ⟨e1,e2,hxs⟩:=hcr
  dsimp only at e1 e2 hxs
  have hxn : xn = c.sides.length:=Sl.slen hxs
  subst hxn e1 e2
  refine kP (tN (sQ (bK (SC.sR (lU (iA uT27 zT54 I I hb1 oM sL) (lK (eA iT54 zT54 I (SlA.rd (SlA.mono hrs hle2)) hgk) (SL.bx (aL zeroValue54) fun b7=>?_)))))))
  refine SL.O2 (sK 0 zT54 I I I I I sB) ?_
  refine SL.nT (SC.sR (lW (bS sty22 I I I (szs_mk trivial) dC) ?_))
  rintro _ _ _ ⟨b31,rfl,rfl,rfl⟩
  refine SL.emptyRow 3 1 (some ⟨b31,0,none⟩) ?_
  refine SL.to (g':=g2) (s':=rowA encInt 3 (.slice (some ⟨b31,0,none⟩) 0 0) [] :: pt b7 (.cells #[vi c.id,vi c.dim,.slice xp c.sides.length xc] 54 (0,0)) :: pt b22 (.cells #[vb rt,.map (some b18),.map (some b19),.map (some b20),.slice none 0 0] 73 (0,0)) :: mp b20 [] :: mp b19 [] :: mp b18 sm :: pt b1 (.cells #[v] 29 (0,0)) :: s) (fun w hw=>hw.sublist (.cons_cons _ (.cons _ (.refl _)))) ?_
  refine lA I (SL.nT (sQ (SC.sR (lU (fA uT54 I zT37 I) (lK (qL (v:=.slice xp c.sides.length xc) iT37 I (cO 1 I I)) (lU (eN uT37 I) (lM I (SL.nT (bK ?_)))))))))
  refine oP (ι:=Value × Nat) (fun i=>[(5,pp b22 0),(7,pp b7 0),(8,i.1),(25,.slice q rs.length d),(26,vi rs.length),(27,vi k),(33,.slice xp c.sides.length xc),(34,vi c.sides.length),(35,vi i.2)]) (fun _=>g2)
   (fun i=>rowA encInt 3 i.1 ((c.sides.take i.2).map Side.cell) :: pt b7 (.cells #[vi c.id,vi c.dim,.slice xp c.sides.length xc] 54 (0,0)) :: pt b22 (.cells #[vb rt,.map (some b18),.map (some b19),.map (some b20),.slice none 0 0] 73 (0,0)) :: mp b20 [] :: mp b19 [] :: mp b18 sm :: pt b1 (.cells #[v] 29 (0,0)) :: s)
   (fun i=>i.2 ≤ c.sides.length) (fun i=>c.sides.length - i.2) (.slice (some ⟨b31,0,none⟩) 0 0,0) sB rfl rfl (Nat.zero_le _) ?_
  rintro ⟨w,j⟩ hj
  dsimp only at hj ⊢
  refine SC.sR (lU (lS I I) (SL.nT (sQ ?_)))
  refine iP I (fun hjl=>?_) (fun hjl=>?_)
  ·have hjS : j < c.sides.length:=oM
   have hb2:=SlA.based hxs oM
   have hgj : c.sides[((j : Nat) : Int).toNat]? = some c.sides[j]:=gE hjS
   have hll : ((c.sides.take j).map Side.cell).length = j:=by rw [List.length_map,List.length_take]; omega
   refine kP (tN (sQ (bK (SC.sR (lU (iA uT37 zT56 I I hb2 oM sL) (lK (eA iT56 zT56 I (SlA.rd hxs) hgj) (SL.bx (aL zeroValue56) fun b10=>?_)))))))
   refine SL.O2 (sK 0 zT56 I I I I I sB) ?_
   refine SL.nT (rG (lM I (lU (fA uT56 I zT3 I) (lK (qL (v:=vi c.sides[j].cell) iT3 I (cO 0 I I)) (lW (bS sty22 I I I (szs_mk ⟨I,trivial⟩) dC) ?_)))))
   rintro _ _ _ ⟨b42,rfl,rfl,rfl⟩
   refine lW (aP (e:=encInt) 1 c.sides[j].cell sty22 I I I I I oM oM) ?_
   rintro w3 _ _ ⟨rfl,rfl⟩
   refine lA I (nL (bN (tN (rG (lU (aD I I oM) (lM I (nL (dR (.cons _ (.refl _)) ?_))))))))
   exact ST.again (w3,j + 1) sB rfl (by dsimp only; rw [tS hjS,List.map_append]; rfl) (by dsimp only; omega) (by dsimp only; omega)
  ·have hjj : c.sides.take j = c.sides:=tL oM
   rw [hjj]
   refine xI (tX (tX (bX (tN (fS fun g3 hle3 hs3=>?_)))))
   refine dW [7] [(0,2),(1,2),(2,2),(3,1),(4,2),(5,1),(6,2),(7,0)] Tryz.mixed (by kernel_rfl) ?_
   refine pU I (mV I) (pU I (nC I) (pU I (fA uT73 I sizeOf69 I) (pK I (qL (v:=.map (some b18)) isAgg69 I (cO 1 I I)) (pU I (fA uT54 I zT3 I) (pK I (qL (v:=vi c.id) iT3 I (cO 0 I I)) (pU I (mV I) (SP.on I (SO.mapUpdate 4 mty69 I I I I) (.inl dC) ?_)))))))
   rintro _ _ _ ⟨rfl,rfl⟩
   refine pN (bN (tN (rG (lU (aD I I oM) (lM I (nL (dR (.cons _ (.refl _)) ?_)))))))
   exact ST.again (k + 1,g3,mput sm c.id w) sB I I ⟨by dsimp only; omega,hle2.trans hle3,by dsimp only; rw [htk]; exact (hS.mono hle3).put c hs3 hsl⟩ (by dsimp only; omega)
 ·have hkk : A.take k = A:=tL oM
  rw [hkk] at hS
  refine xI (tX (tX (bX (tN (SC.sR (lM I (lA I (SL.nT (rE (ST.perm (perm4 _ _ _ _ _) (ST.freezeMap fun g3 hle3 hm3=>?_)))))))))))
  refine ST.to (g':=g3) (s':=[pt b22 (.cells #[vb rt,.map (some b18),.map (some b19),.map (some b20),.slice none 0 0] 73 (0,0)),mp b19 [],mp b20 []] ++ rowA encPr 44 (.slice none 0 0) [] :: s) (fun w hw=>((hw.sublist (.cons_cons _ (.cons_cons _ (.cons_cons _ (.cons _ (.refl _)))))).nilRow 44 2).perm (List.perm_middle (l₁:=[pt b22 (.cells #[vb rt,.map (some b18),.map (some b19),.map (some b20),.slice none 0 0] 73 (0,0)),mp b19 [],mp b20 []])).symm) ?_
  exact ST.ret1 (.inl I) results33 I ⟨hle1.trans (hle2.trans hle3),b22,b18,b19,b20,sm,I,I,hm3,hS.mono hle3⟩
theorem all_spec (E : World) (g : PH) (s : Own) (v : Value) :
  Ctr Tryz.prog E 36 #[.agg #[v]] g s (fun r g' s'=>s = s' ∧ Le g g' ∧ ∃ b,r = .func (.func 66) #[] #[pp b 0] ∧ g' b = some (.cells #[v] 29 (0,0))):=by
 refine Ctr.of (args:=[.agg #[v]]) func36 I ntmps36 (bE I) ?_
 refine SC.sR (SL.bx (bO I) fun b1=>?_)
 refine lA I (SL.nT (SC.sR (lU (SU.mkFunc I) (lA I (SL.nT (rE (ST.freeze fun g1 hle hb=>?_)))))))
 exact ST.ret1 (.inl I) results36 I ⟨I,hle,_,I,hb⟩
def pairsOf (l : List Cl) (c : Cl) : List Pr:=(aboveC l c.id).map fun h=>(c.id,h)
theorem flat_split {A : List Cl} {f : Cl → List Pr} {k j : Nat} (hk : k < A.length) (hj : j < (f A[k]).length) : A.flatMap f = ((A.take k).flatMap f ++ (f A[k]).take j) ++ (f A[k])[j] :: ((f A[k]).drop (j + 1) ++ (A.drop (k + 1)).flatMap f):=by
 have e1 : A = A.take k ++ A[k] :: A.drop (k + 1):=by rw [List.getElem_cons_drop,List.take_append_drop]
 have e2 : f A[k] = (f A[k]).take j ++ (f A[k])[j] :: (f A[k]).drop (j + 1):=by rw [List.getElem_cons_drop,List.take_append_drop]
 calc A.flatMap f = (A.take k ++ A[k] :: A.drop (k + 1)).flatMap f:=by rw [← e1]
  _ = (A.take k).flatMap f ++ (f A[k] ++ (A.drop (k + 1)).flatMap f):=by rw [List.flatMap_append,List.flatMap_cons]
  _ = (A.take k).flatMap f ++ (((f A[k]).take j ++ (f A[k])[j] :: (f A[k]).drop (j + 1)) ++ (A.drop (k + 1)).flatMap f):=by rw [← e2]
  _ = _:=by simp only [List.append_assoc,List.cons_append]
theorem all_gives (E : World) (g0 : PH) (b : Nat) (v : Value) (l : List Cl) (hb : g0 b = some (.cells #[v] 29 (0,0))) (hv : Cells g0 v l) (hf : Fits l) :
  Gives2 Tryz.prog E 66 [pp b 0] (fun p : Pr=>[.agg #[vi p.1,vi p.2]]) (pairsP l) g0:=by
 intro y ι G S J i0 h0 hmono hup hY sx
 have hfc:=canonC_fits hf
 have hres : pairsP l = (canonC l).flatMap (pairsOf l):=rfl
 rw [hres] at hY ⊢
 have hm0:=hmono _ _ h0
 have habl : ∀ id,(aboveC l id).length < 1099511627776:=fun id=>Nat.lt_of_le_of_lt (above_len l id) (tabC_fits hf).1
 refine Ctr.ofX (args:=[.func (.yield y) #[] #[],pp b 0]) func66 I ntmps66 (bE I) ?_
 refine XC.seq ?_
 refine XC.region ?_
 refine XL.q (SQ.loadAggAt (vs:=[v]) iT29 zT29 rfl rfl (fun j u hj=>by rcases j with _ | j; (· simp at hj; subst hj; exact cK (hmono _ _ h0 _ _ hb) rfl); simp at hj)) dC ?_
 refine XL.o (SO.call call50 I (canon_spec E (G i0) _ v l (hv.mono hm0) hf)) dC ?_
 rintro _ g1 _ ⟨rfl,hle1,u,rfl,hc⟩
 obtain ⟨rs,hrs,hall⟩:=hc
 obtain ⟨q,d,rfl⟩:=SlA.form hrs
 refine XL.u (SU.field uT29 I iT27 I I) dC ?_
 refine XL.u (eN uT27 I) dC ?_
 refine XL.u (mV I) dC ?_
 refine XL.nil ?_
 refine XT.thenN ?_
 refine XC.block ?_
 generalize canonC l = A at *
 have hrl:=hall.length
 have hAl:=hfc.1
 obtain ⟨i1,hJ1,hG1,hS1⟩:=hup _ _ _ h0 hle1
 refine XC.loop (ι:=ι × Nat) (fun z=>[(0,.func (.yield y) #[] #[]),(1,pp b 0),(9,.slice q rs.length d),(10,vi rs.length),(11,vi z.2)]) (fun z=>G z.1) (fun z=>S z.1 ++ sx) (fun z=>z.2 ≤ A.length ∧ Le g1 (G z.1) ∧ J ((A.take z.2).flatMap (pairsOf l)) z.1) (fun z=>A.length - z.2) (i1,0)
  sB hG1 (by dsimp only; rw [hS1]) ⟨Nat.zero_le _,by dsimp only; rw [hG1]; exact Le.refl _,hJ1⟩ ?_
 rintro ⟨i,k⟩ ⟨hk,hle2,hJ⟩
 dsimp only at hk hle2 hJ ⊢
 have hm:=hmono _ _ hJ
 refine XC.seq ?_
 refine XC.region ?_
 refine XL.u (lS I I) dC ?_
 refine XL.nil ?_
 refine XT.thenN ?_
 refine XC.seq ?_
 refine XC.ifP I (fun hlt=>?_) (fun hlt=>?_)
 ·have hkl : k < A.length:=oM
  have hkr : k < rs.length:=oM
  have hb1:=SlA.based hrs oM
  have hgk : rs[((k : Nat) : Int).toNat]? = some rs[k]:=gE hkr
  have hcr:=CellR.mono hle2 (hall.get (gE hkl) (gE hkr))
  have hfs : ∀ j (hj : j < (pairsOf l A[k]).length),A.flatMap (pairsOf l) = ((A.take k).flatMap (pairsOf l) ++ (pairsOf l A[k]).take j) ++ (pairsOf l A[k])[j] :: ((pairsOf l A[k]).drop (j + 1) ++ (A.drop (k + 1)).flatMap (pairsOf l)):=fun j hj=>flat_split hkl hj
  have htk : (A.take (k + 1)).flatMap (pairsOf l) = (A.take k).flatMap (pairsOf l) ++ pairsOf l A[k]:=by rw [tS hkl,List.flatMap_append]; simp
  generalize A[k] = c at *
  generalize hrk : rs[k] = rk at *
  obtain ⟨xi,xd,xp,xn,xc⟩:=rk
  obtain ⟨e1,e2,hxs⟩:=hcr
  dsimp only at e1 e2 hxs
  subst e1 e2
  have hal:=habl c.id
  refine XC.skip ?_
  refine XT.thenN ?_
  refine XC.seq ?_
  refine XC.block ?_
  refine XC.seq ?_
  refine XC.region ?_
  refine XL.u (iA uT27 zT54 I I hb1 oM sL) dC ?_
  refine XL.q (eA iT54 zT54 I (SlA.rd (SlA.mono hrs hle2)) hgk) dC ?_
  refine XL.o (aL zeroValue54) dC ?_
  rintro _ _ _ ⟨b4,rfl,rfl,rfl⟩
  refine XL.on (sK 0 zT54 I I I I I sB) ?_
  rintro _ _ _ ⟨rfl,rfl⟩
  refine XL.nil ?_
  refine XT.thenN ?_
  refine XC.seq ?_
  refine XC.region ?_
  refine XL.q (SQ.loadAggAt (vs:=[v]) iT29 zT29 rfl rfl (fun j u hj=>by rcases j with _ | j; (· simp at hj; subst hj; exact cK (hm _ _ hb) rfl); simp at hj)) dC ?_
  refine XL.u (fA uT54 I zT3 I) dC ?_
  refine XL.q (qL (v:=vi c.id) iT3 I (cO 0 I I)) dC ?_
  refine XL.o (SO.call call55 I (above_spec E (G i) _ v l c.id (hv.mono hm) hf)) dC ?_
  rintro av g3 _ ⟨rfl,hle3,hav⟩
  obtain ⟨qa,da,rfl⟩:=SlA.form hav
  refine XL.u (eN uT22 I) dC ?_
  refine XL.u (mV I) dC ?_
  refine XL.nil ?_
  refine XT.thenN ?_
  refine XC.block ?_
  obtain ⟨i2,hJ2,hG2,hS2⟩:=hup _ _ _ hJ hle3
  have hpo : pairsOf l c = (aboveC l c.id).map fun h=>(c.id,h):=rfl
  rw [hpo] at hfs htk
  generalize aboveC l c.id = B at *
  refine XC.to (g':=g3) (s':=S i ++ (pt b4 (.cells #[vi c.id,vi c.dim,.slice xp xn xc] 54 (0,0)) :: sx)) (fun w hw=>hw.perm List.perm_middle.symm) ?_
  refine XC.loop (ι:=ι × Nat) (fun z=>[(0,.func (.yield y) #[] #[]),(1,pp b 0),(4,pp b4 0),(9,.slice q rs.length d),(10,vi rs.length),(11,vi k),(18,.slice qa B.length da),(19,vi B.length),(20,vi z.2)]) (fun z=>G z.1) (fun z=>S z.1 ++ (pt b4 (.cells #[vi c.id,vi c.dim,.slice xp xn xc] 54 (0,0)) :: sx)) (fun z=>z.2 ≤ B.length ∧ Le g3 (G z.1) ∧ J ((A.take k).flatMap (pairsOf l) ++ (B.map fun h=>(c.id,h)).take z.2) z.1) (fun z=>B.length - z.2) (i2,0)
   sB hG2 (by dsimp only; rw [hS2]) ⟨Nat.zero_le _,by dsimp only; rw [hG2]; exact Le.refl _,by simpa using hJ2⟩ ?_
  rintro ⟨i3,j⟩ ⟨hj,hle4,hJ3⟩
  dsimp only at hj hle4 hJ3 ⊢
  refine XC.seq ?_
  refine XC.region ?_
  refine XL.u (lS I I) dC ?_
  refine XL.nil ?_
  refine XT.thenN ?_
  refine XC.seq ?_
  refine XC.ifP I (fun hjl=>?_) (fun hjl=>?_)
  ·have hjB : j < B.length:=oM
   have hjM : j < (B.map fun h=>(c.id,h)).length:=by rw [List.length_map]; exact hjB
   have hb2:=SlA.based hav oM
   have hgj : B[((j : Nat) : Int).toNat]? = some B[j]:=gE hjB
   have hy:=hY _ _ _ i3 (pt b4 (.cells #[vi c.id,vi c.dim,.slice xp xn xc] 54 (0,0)) :: sx) (hfs j hjM) hJ3
   have htj : (B.map fun h=>(c.id,h)).take (j + 1) = (B.map fun h=>(c.id,h)).take j ++ [(c.id,B[j])]:=by rw [tS hjM,List.getElem_map]
   have hxe : (B.map fun h=>(c.id,h))[j] = (c.id,B[j]):=List.getElem_map ..
   rw [hxe] at hy
   dsimp only at hy
   refine XC.skip ?_
   refine XT.thenN ?_
   refine XC.seq ?_
   refine XC.block ?_
   refine XC.seq ?_
   refine XC.region ?_
   refine XL.u (iA uT22 zT3 I I hb2 oM sL) dC ?_
   refine XL.q (eB iT3 I (SlA.rd (SlA.mono hav hle4)) hgj I) dC ?_
   refine XL.u (aS I) dC ?_
   refine XL.nil ?_
   refine XT.thenN ?_
   refine XC.seq ?_
   refine XC.region ?_
   refine XL.u (mV I) dC ?_
   refine XL.u (fA uT54 I zT3 I) dC ?_
   refine XL.q (qL (v:=vi c.id) iT3 I (cO (cs:=#[vi c.id,vi c.dim,.slice xp xn xc]) (T:=54) (fr:=(0,0)) (S i3).length (by simp) I)) dC ?_
   refine XL.u (mV I) dC ?_
   refine XL.u (SU.build I (build44 _ _)) dC ?_
   refine XL.x (XO.yield I I hy) dC ?_
   rintro _ _ _ ⟨rfl,j',hJ',hL',rfl,rfl⟩
   refine XL.u (SU.not I) dC ?_
   refine XL.nil ?_
   refine XT.thenN ?_
   refine XC.condF I ?_
   refine XC.skip ?_
   refine XT.blockN ?_
   refine XT.thenN ?_
   refine XC.region ?_
   refine XL.u (aD I I oM) dC ?_
   refine XL.u (mV I) dC ?_
   refine XL.nil ?_
   exact XT.again (j',j + 1) sB I I ⟨by dsimp only; omega,hle4.trans hL',by dsimp only; rw [htj,← List.append_assoc]; exact hJ'⟩ (by dsimp only; omega)
  ·have hjj : (B.map fun h=>(c.id,h)).take j = B.map fun h=>(c.id,h):=tL (by rw [List.length_map]; omega)
   rw [hjj,← htk] at hJ3
   refine XC.exit ?_
   refine XT.thenX ?_
   refine XT.thenX ?_
   refine XT.blockX ?_
   refine XT.blockN ?_
   refine XT.thenN ?_
   refine XC.region ?_
   refine XL.u (aD I I oM) dC ?_
   refine XL.u (mV I) dC ?_
   refine XL.nil ?_
   refine XT.drop ((List.Sublist.refl _).append (List.sublist_cons_self _ _)) ?_
   exact XT.again (i3,k + 1) sB I I ⟨by dsimp only; omega,hle2.trans (hle3.trans hle4),hJ3⟩ (by dsimp only; omega)
 ·have hkk : A.take k = A:=tL oM
  rw [hkk] at hJ
  refine XC.exit ?_
  refine XT.thenX ?_
  refine XT.thenX ?_
  refine XT.blockX ?_
  exact XT.leave0 (.inr I) (ST.ret0 (.inr I) results66 ⟨i,hJ,I,I⟩)
theorem takeP_len (r : Bool) (S : Int → List Int) (T : List Pr) (p : Pr) : (takeP r S T p).length ≤ T.length + 1:=by
 unfold takeP
 split
 ·simp
 ·omega
theorem foldP_len (r : Bool) (S : Int → List Int) : ∀ (m T : List Pr),(m.foldl (takeP r S) T).length ≤ T.length + m.length
 | [],T=>lR _
 | p :: m,T=>by
  have:=foldP_len r S m (takeP r S T p)
  have:=takeP_len r S T p
  rw [List.foldl_cons,List.length_cons]
  omega
theorem sid_fold : ∀ (A : List Cl) (S : Int → List Int) (k : Int),(A.map Cl.id).Nodup → A.foldl sidStep S k = match findT A k with
  | some c=>c.sides.map Side.cell
  | none=>S k
 | [],_,_,_=>rfl
 | c :: A,S,k,h=>by
  rw [List.map_cons,List.nodup_cons] at h
  rw [List.foldl_cons,sid_fold A _ k h.2]
  unfold findT
  rw [List.find?_cons]
  by_cases e : c.id = k
  ·rw [decide_eq_true e]
   have hn : A.find? (fun c=>decide (c.id = k)) = none:=List.find?_eq_none.2 fun d hd=>by
    have : d.id ≠ k:=fun e2=>h.1 (by rw [e,← e2]; exact List.mem_map.2 ⟨d,hd,rfl⟩)
    simpa using this
   rw [hn]
   unfold sidStep
   rw [if_pos e.symm]
  ·rw [decide_eq_false e]
   cases A.find? (fun c=>decide (c.id = k)) with
   | some d=>rfl
   | none =>
    unfold sidStep
    rw [if_neg (fun e2=>e e2.symm)]
theorem sid_right {l : List Cl} (h : (checkC l).2 = 0) : sidF l = sidC l:=by
 have hr:=rt_of h
 have ht : tabC l = canonC l:=tabC_strict hr.asc
 have hnd : ((canonC l).map Cl.id).Nodup:=by
  rw [List.Nodup,List.pairwise_map]
  exact hr.asc.imp fun h=>by omega
 funext k
 unfold sidF sidC
 rw [sid_fold _ _ _ hnd]
 have hf : findC l k = findT (canonC l) k:=by unfold findC findT; rw [ht]
 rw [hf]
 cases findT (canonC l) k <;> rfl
theorem keepP_sid (l : List Cl) (m : List Pr) : keepP (decide ((checkC l).2 = 0)) (sidF l) m = keepR l m:=by
 rw [← keep_eq]
 by_cases h : (checkC l).2 = 0
 ·rw [sid_right h]
 ·rw [decide_eq_false h]
  unfold keepP
  rw [keepP_wrong,keepP_wrong]
theorem extendP_sid (l : List Cl) (m : List Pr) : extendP (decide ((checkC l).2 = 0)) (sidF l) l m = extendR l m:=by
 rw [← extend_eq]
 by_cases h : (checkC l).2 = 0
 ·rw [sid_right h]
 ·rw [decide_eq_false h]
  unfold extendP keepP
  rw [keepP_wrong,keepP_wrong,keepP_wrong,keepP_wrong]
theorem HiM.nil : HiM [] []:=fun k=>rfl
theorem UsM.nil : UsM [] []:=fun k=>rfl
theorem keepProg_spec (E : World) (g : PH) (s : Own) (v u : Value) (l : List Cl) (m : List Pr) (hv : Cells g v l) (hf : Fits l) (hu : SlA encPr g u m) (hl : m.length < 1099511627775) :
  Ctr Tryz.prog E 13 #[.agg #[v],u] g s (fun r g' s'=>s = s' ∧ Le g g' ∧ SlA encPr g' r (keepR l m)):=by
 obtain ⟨p,c,rfl⟩:=SlA.form hu
 have hres:=keepP_sid l m
 unfold keepP at hres
 rw [← hres]
 clear hres
 refine Ctr.of (args:=[.agg #[v],.slice p m.length c]) func13 I ntmps13 (bE I) ?_
 refine SC.sR (SL.bx (bO I) fun b2=>?_)
 refine lA I (SL.nT (SC.sR (lK (qV 0 iT29 zT29 I I I) (lW (SO.call call33 I (begin_spec E g _ v l hv hf)) ?_))))
 rintro _ g1 _ ⟨hle1,bt,ms,mh,mu,sm,rfl,rfl,hsm,hS⟩
 refine lA I (SL.nT (sQ (SC.sR (lM I (lU (eN uT31 I) (lM I (SL.nT (bK ?_))))))))
 generalize decide ((checkC l).2 = 0) = rt at *
 generalize sidF l = SS at *
 refine oP (ι:=Nat × PH × List (Int × Value) × List (Int × Value) × Value) (fun i=>[(5,pp bt 0),(10,.slice p m.length c),(11,vi m.length),(12,vi i.1)]) (fun i=>i.2.1) (fun i=>pt bt (.cells #[vb rt,.map (some ms),.map (some mh),.map (some mu),i.2.2.2.2] 73 (0,0)) :: mp mh i.2.2.1 :: mp mu i.2.2.2.1 :: rowA encPr 44 i.2.2.2.2 ((m.take i.1).foldl (takeP rt SS) []) :: pt b2 (.cells #[v] 29 (0,0)) :: s)
  (fun i=>i.1 ≤ m.length ∧ Le g1 i.2.1 ∧ HiM i.2.2.1 ((m.take i.1).foldl (takeP rt SS) []) ∧ UsM i.2.2.2.1 ((m.take i.1).foldl (takeP rt SS) [])) (fun i=>m.length - i.1) (0,g1,[],[],.slice none 0 0)
  sB rfl rfl ⟨Nat.zero_le _,Le.refl _,HiM.nil,UsM.nil⟩ ?_
 rintro ⟨k,g2,hm,um,tv⟩ ⟨hk,hle2,hH,hU⟩
 dsimp only at hk hle2 hH hU ⊢
 refine SC.sR (lU (lS I I) (SL.nT (sQ ?_)))
 refine iP I (fun hlt=>?_) (fun hlt=>?_)
 ·have hkl : k < m.length:=oM
  have hb1:=SlA.based hu oM
  have hgk : m[((k : Nat) : Int).toNat]? = some m[k]:=gE hkl
  have hfl:=foldP_len rt SS (m.take k) []
  rw [List.length_take,List.length_nil] at hfl
  have htk : (m.take (k + 1)).foldl (takeP rt SS) [] = takeP rt SS ((m.take k).foldl (takeP rt SS) []) m[k]:=by rw [tS hkl,List.foldl_append]; rfl
  generalize (m.take k).foldl (takeP rt SS) [] = T at *
  generalize m[k] = x at *
  refine kP (tN (sQ (bK (SC.sR (lU (iA uT31 zT44 I I hb1 oM sL) (lK (eA iT44 zT44 I (SlA.rd (SlA.mono hu (hle1.trans hle2))) hgk) (SL.bx (aL zeroValue44) fun b7=>?_)))))))
  refine SL.O2 (sK 0 zT44 I I I I I sB) ?_
  refine SL.nT (cP (List.perm_middle (l₁:=[pt bt (.cells #[vb rt,.map (some ms),.map (some mh),.map (some mu),tv] 73 (0,0)),mp mh hm,mp mu um,rowA encPr 44 tv T])).symm (rG (lM I (lK (qV 4 iT44 zT44 I I I) (lW (SO.call call34 I (takeP_spec E g2 _ bt ms mh mu x SS sm hm um T rt tv (hsm.mono hle2) (hS.mono hle2) hH hU oM)) ?_)))))
  rintro _ g3 _ ⟨hle3,hm',um',tv',rfl,hH',hU'⟩
  refine nL (bN (tN (rG (lU (aD I I oM) (lM I (nL (dR (.cons_cons _ (.cons_cons _ (.cons_cons _ (.cons_cons _ (.cons _ (.refl _)))))) ?_)))))))
  exact ST.again (k + 1,g3,hm',um',tv') sB I (by dsimp only; rw [htk]) ⟨by dsimp only; omega,hle2.trans hle3,by dsimp only; rw [htk]; exact hH',by dsimp only; rw [htk]; exact hU'⟩ (by dsimp only; omega)
 ·have hkk : m.take k = m:=tL oM
  rw [hkk]
  refine xI (tX (tX (bX (tN (SC.sR (lM I (lU (nC I) (lU (fA uT73 I sizeOf31 I) (lK (qL (v:=tv) isAgg31 I (cO 0 I I)) (lA I (SL.nT (rE (ST.perm (List.perm_middle (l₁:=[pt bt (.cells #[vb rt,.map (some ms),.map (some mh),.map (some mu),tv] 73 (0,0)),mp mh hm,mp mu um])) (fT fun g3 hle3 hs3=>?_))))))))))))))
  refine dR (s':=s) (.cons _ (.cons _ (.cons _ (.cons _ (.refl _))))) ?_
  exact ST.ret1 (.inl I) results13 I ⟨I,hle1.trans (hle2.trans hle3),hs3⟩
theorem extendProg_spec (E : World) (g : PH) (s : Own) (v u : Value) (l : List Cl) (m : List Pr) (hv : Cells g v l) (hf : Fits l) (hln : l.length ≤ 100000) (hu : SlA encPr g u m) (hl : m.length < 500000000000) :
  Ctr Tryz.prog E 15 #[.agg #[v],u] g s (fun r g' s'=>s = s' ∧ Le g g' ∧ SlA encPr g' r (extendR l m)):=by
 obtain ⟨p,c,rfl⟩:=SlA.form hu
 have hres:=extendP_sid l m
 unfold extendP keepP at hres
 rw [← hres]
 clear hres
 have hpl : (pairsP l).length ≤ 10000000000:=by
  have h1:=pairsTo_len l (canonC l)
  have h2 : (canonC l).length ≤ 100000:=by rw [canonC_length]; exact hln
  have h3 : (tabC l).length ≤ 100000:=Nat.le_trans (tabC_length l) hln
  exact Nat.le_trans h1 (Nat.mul_le_mul h2 h3)
 refine Ctr.ofX (args:=[.agg #[v],.slice p m.length c]) func15 I ntmps15 (bE I) ?_
 refine XC.seq ?_
 refine XC.region ?_
 refine XL.o (bO I) dC ?_
 rintro _ _ _ ⟨b2,rfl,rfl,rfl⟩
 refine XL.u (aS I) dC ?_
 refine XL.nil ?_
 refine XT.thenN ?_
 refine XC.seq ?_
 refine XC.region ?_
 refine XL.q (qV 0 iT29 zT29 I I I) dC ?_
 refine XL.o (SO.call call33 I (begin_spec E g _ v l hv hf)) dC ?_
 rintro _ g1 _ ⟨hle1,bt,ms,mh,mu,sm,rfl,rfl,hsm,hS⟩
 refine XL.o (aL zeroValue66) dC ?_
 rintro _ _ _ ⟨b5,rfl,rfl,rfl⟩
 refine XL.on (sK 0 sizeOf66 I I I I I sB) ?_
 rintro _ _ _ ⟨rfl,rfl⟩
 refine XL.nil ?_
 refine XT.thenN ?_
 refine XC.seq ?_
 refine XC.seq ?_
 refine XC.region ?_
 refine XL.u (mV I) dC ?_
 refine XL.u (eN uT31 I) dC ?_
 refine XL.u (mV I) dC ?_
 refine XL.nil ?_
 refine XT.thenN ?_
 refine XC.block ?_
 generalize decide ((checkC l).2 = 0) = rt at *
 generalize sidF l = SS at *
 refine XC.to (g':=g1) (s':=[pt bt (.cells #[vb rt,.map (some ms),.map (some mh),.map (some mu),.slice none 0 0] 73 (0,0)),mp mh [],mp mu [],rowA encPr 44 (.slice none 0 0) []] ++ pt b5 (.cells #[pp bt 0] 66 (0,0)) :: pt b2 (.cells #[v] 29 (0,0)) :: s) (fun w hw=>hw.perm (List.perm_middle (l₁:=[pt bt (.cells #[vb rt,.map (some ms),.map (some mh),.map (some mu),.slice none 0 0] 73 (0,0)),mp mh [],mp mu [],rowA encPr 44 (.slice none 0 0) []])).symm) ?_
 refine XC.loop (ι:=Nat × PH × List (Int × Value) × List (Int × Value) × Value) (fun i=>[(2,pp b2 0),(5,pp b5 0),(11,.slice p m.length c),(12,vi m.length),(13,vi i.1)]) (fun i=>i.2.1) (fun i=>pt bt (.cells #[vb rt,.map (some ms),.map (some mh),.map (some mu),i.2.2.2.2] 73 (0,0)) :: mp mh i.2.2.1 :: mp mu i.2.2.2.1 :: rowA encPr 44 i.2.2.2.2 ((m.take i.1).foldl (takeP rt SS) []) :: pt b5 (.cells #[pp bt 0] 66 (0,0)) :: pt b2 (.cells #[v] 29 (0,0)) :: s)
  (fun i=>i.1 ≤ m.length ∧ Le g1 i.2.1 ∧ HiM i.2.2.1 ((m.take i.1).foldl (takeP rt SS) []) ∧ UsM i.2.2.2.1 ((m.take i.1).foldl (takeP rt SS) [])) (fun i=>m.length - i.1) (0,g1,[],[],.slice none 0 0)
  sB rfl rfl ⟨Nat.zero_le _,Le.refl _,HiM.nil,UsM.nil⟩ ?_
 rintro ⟨k,g2,hm,um,tv⟩ ⟨hk,hle2,hH,hU⟩
 dsimp only at hk hle2 hH hU ⊢
 refine XC.seq ?_
 refine XC.region ?_
 refine XL.u (lS I I) dC ?_
 refine XL.nil ?_
 refine XT.thenN ?_
 refine XC.seq ?_
 refine XC.ifP I (fun hlt=>?_) (fun hlt=>?_)
 ·have hkl : k < m.length:=oM
  have hb1:=SlA.based hu oM
  have hgk : m[((k : Nat) : Int).toNat]? = some m[k]:=gE hkl
  have hfl:=foldP_len rt SS (m.take k) []
  rw [List.length_take,List.length_nil] at hfl
  have htk : (m.take (k + 1)).foldl (takeP rt SS) [] = takeP rt SS ((m.take k).foldl (takeP rt SS) []) m[k]:=by rw [tS hkl,List.foldl_append]; rfl
  generalize (m.take k).foldl (takeP rt SS) [] = T at *
  generalize m[k] = x at *
  refine XC.skip ?_
  refine XT.thenN ?_
  refine XC.seq ?_
  refine XC.block ?_
  refine XC.seq ?_
  refine XC.region ?_
  refine XL.u (iA uT31 zT44 I I hb1 oM sL) dC ?_
  refine XL.q (eA iT44 zT44 I (SlA.rd (SlA.mono hu (hle1.trans hle2))) hgk) dC ?_
  refine XL.o (aL zeroValue44) dC ?_
  rintro _ _ _ ⟨b7,rfl,rfl,rfl⟩
  refine XL.on (sK 0 zT44 I I I I I sB) ?_
  rintro _ _ _ ⟨rfl,rfl⟩
  refine XL.nil ?_
  refine XT.thenN ?_
  refine XC.to (g':=g2) (s':=[pt bt (.cells #[vb rt,.map (some ms),.map (some mh),.map (some mu),tv] 73 (0,0)),mp mh hm,mp mu um,rowA encPr 44 tv T] ++ pt b7 (.cells #[vi x.1,vi x.2] 44 (0,0)) :: pt b5 (.cells #[pp bt 0] 66 (0,0)) :: pt b2 (.cells #[v] 29 (0,0)) :: s) (fun w hw=>hw.perm (List.perm_middle (l₁:=[pt bt (.cells #[vb rt,.map (some ms),.map (some mh),.map (some mu),tv] 73 (0,0)),mp mh hm,mp mu um,rowA encPr 44 tv T])).symm) ?_
  refine XC.region ?_
  refine XL.q (qL (v:=pp bt 0) isAgg66 I (cO 5 I I)) dC ?_
  refine XL.q (qV 4 iT44 zT44 I I I) dC ?_
  refine XL.o (SO.call call34 I (takeP_spec E g2 _ bt ms mh mu x SS sm hm um T rt tv (hsm.mono hle2) (hS.mono hle2) hH hU oM)) dC ?_
  rintro _ g3 _ ⟨hle3,hm',um',tv',rfl,hH',hU'⟩
  refine XL.nil ?_
  refine XT.blockN ?_
  refine XT.thenN ?_
  refine XC.region ?_
  refine XL.u (aD I I oM) dC ?_
  refine XL.u (mV I) dC ?_
  refine XL.nil ?_
  refine XT.drop (.cons_cons _ (.cons_cons _ (.cons_cons _ (.cons_cons _ (.cons _ (.refl _)))))) ?_
  exact XT.again (k + 1,g3,hm',um',tv') sB I (by dsimp only; rw [htk]) ⟨by dsimp only; omega,hle2.trans hle3,by dsimp only; rw [htk]; exact hH',by dsimp only; rw [htk]; exact hU'⟩ (by dsimp only; omega)
 ·have hkk : m.take k = m:=tL oM
  rw [hkk] at hH hU ⊢
  have hKl:=foldP_len rt SS m []
  rw [List.length_nil] at hKl
  generalize m.foldl (takeP rt SS) [] = K at *
  have h12:=hle1.trans hle2
  refine XC.exit ?_
  refine XT.thenX ?_
  refine XT.thenX ?_
  refine XT.blockX ?_
  refine XT.thenN ?_
  refine XC.seq ?_
  refine XC.seq ?_
  refine XC.region ?_
  refine XL.q (qV 5 iT29 zT29 I I I) dC ?_
  refine XL.o (SO.call call36 I (all_spec E g2 _ v)) dC ?_
  rintro _ g4 _ ⟨rfl,hle4,bA,rfl,hbA⟩
  refine XL.nil ?_
  refine XT.thenN ?_
  refine XC.block ?_
  refine XC.rangeFuncB (α:=Pr) (ι:=PH × List (Int × Value) × List (Int × Value) × Value × List Pr) (κ:=Nat) (encs:=fun p=>[.agg #[vi p.1,vi p.2]]) (xs:=pairsP l) (g0:=g4) (fun i=>i.1) (fun i=>pt bt (.cells #[vb rt,.map (some ms),.map (some mh),.map (some mu),i.2.2.2.1] 73 (0,0)) :: mp mh i.2.1 :: mp mu i.2.2.1 :: rowA encPr 44 i.2.2.2.1 i.2.2.2.2 :: pt b5 (.cells #[pp bt 0] 66 (0,0)) :: pt b2 (.cells #[v] 29 (0,0)) :: [])
   (fun pre i=>Le g4 i.1 ∧ i.2.2.2.2 = pre.foldl (takeP rt SS) K ∧ HiM i.2.1 i.2.2.2.2 ∧ UsM i.2.2.1 i.2.2.2.2) (g4,hm,um,tv,K) s
   (fun x=>[(23,.agg #[vi x.1,vi x.2]),(5,pp b5 0)]) (fun _ _ _ b8=>[(8,pp b8 0),(5,pp b5 0)]) (fun x b8=>[pt b8 (.cells #[vi x.1,vi x.2] 44 (0,0))])
   rfl rfl call66 (fun _=>rfl) rfl rfl (all_gives E g4 bA v l hbA (hv.mono (h12.trans hle4)) hf) (fun _ _ h=>h.1) (fun pre i g' hJ hl=>⟨(g',i.2),⟨hJ.1.trans hl,hJ.2⟩,rfl,rfl⟩) ⟨Le.refl _,rfl,hH,hU⟩
   (fun x a h=>params1 (h.sub (g:=[(5,pp b5 0)]) ⟨rfl,trivial⟩) dC) ?_ ?_ ?_
  ·intro y pre x i sx hJ
   refine XC.region ?_
   refine XL.o (aL zeroValue44) dC ?_
   rintro _ _ _ ⟨b8,rfl,rfl,rfl⟩
   refine XL.on (sK 0 zT44 I I I I I sB) ?_
   rintro _ _ _ ⟨rfl,rfl⟩
   refine XL.nil ?_
   exact XT.assignEndA b8 sB I
  ·rintro y pre x suf ⟨g5,hm5,um5,tv5,T5⟩ sx b8 - hxs ⟨hle5,hT5,hH5,hU5⟩
   dsimp only at hle5 hT5 hH5 hU5 ⊢
   have hTl : T5.length < 1099511627775:=by
    have h1:=foldP_len rt SS pre K
    have h2 : pre.length ≤ (pairsP l).length:=by rw [hxs,List.length_append]; omega
    rw [← hT5] at h1
    omega
   have hle15:=hle2.trans (hle4.trans hle5)
   refine XC.to (g':=g5) (s':=[pt bt (.cells #[vb rt,.map (some ms),.map (some mh),.map (some mu),tv5] 73 (0,0)),mp mh hm5,mp mu um5,rowA encPr 44 tv5 T5] ++ pt b8 (.cells #[vi x.1,vi x.2] 44 (0,0)) :: pt b5 (.cells #[pp bt 0] 66 (0,0)) :: pt b2 (.cells #[v] 29 (0,0)) :: sx) (fun w hw=>hw.perm (List.perm_middle (l₁:=[pt bt (.cells #[vb rt,.map (some ms),.map (some mh),.map (some mu),tv5] 73 (0,0)),mp mh hm5,mp mu um5,rowA encPr 44 tv5 T5])).symm) ?_
   refine XC.block ?_
   refine XC.region ?_
   refine XL.q (qL (v:=pp bt 0) isAgg66 I (cO 5 I I)) dC ?_
   refine XL.q (qV 4 iT44 zT44 I I I) dC ?_
   refine XL.o (SO.call call34 I (takeP_spec E g5 _ bt ms mh mu x SS sm hm5 um5 T5 rt tv5 (hsm.mono hle15) (hS.mono hle15) hH5 hU5 hTl)) dC ?_
   rintro _ g6 _ ⟨hle6,hm',um',tv',rfl,hH',hU'⟩
   refine XL.nil ?_
   refine XT.blockN ?_
   refine XT.drop (.cons_cons _ (.cons_cons _ (.cons_cons _ (.cons_cons _ (.cons _ (.refl _)))))) ?_
   exact XT.roundEnd2 (g6,hm',um',tv',takeP rt SS T5 x) rfl rfl ⟨hle5.trans hle6,by dsimp only; rw [List.foldl_append,← hT5]; rfl,hH',hU'⟩ hle6
  ·rintro D ⟨g5,hm5,um5,tv5,T5⟩ ⟨hle5,hT5,hH5,hU5⟩
   dsimp only at hle5 hT5 hH5 hU5 ⊢
   refine XT.blockN ?_
   refine XT.thenN ?_
   refine XC.seq ?_
   refine XC.region ?_
   refine XL.q (qL (v:=pp bt 0) isAgg66 I (cO 5 I I)) dC ?_
   refine XL.u (nC I) dC ?_
   refine XL.u (fA uT73 I sizeOf31 I) dC ?_
   refine XL.q (qL (v:=tv5) isAgg31 I (cO 1 I I)) dC ?_
   refine XL.u (aS I) dC ?_
   refine XL.nil ?_
   refine XT.thenN ?_
   refine XC.ret ?_
   refine XT.leave1 (.inl I) ?_
   refine ST.perm (List.perm_middle (l₁:=[pt bt (.cells #[vb rt,.map (some ms),.map (some mh),.map (some mu),tv5] 73 (0,0)),mp mh hm5,mp mu um5])) (fT fun g7 hle7 hs7=>?_)
   refine dR (s':=s) (.cons _ (.cons _ (.cons _ (.cons _ (.cons _ (.refl _)))))) ?_
   refine ST.ret1 (.inl I) results15 I ⟨I,h12.trans (hle4.trans (hle5.trans hle7)),by rw [← hT5]; exact hs7⟩
theorem build8_side (a b : Int) (w : World) : (Instr.build 56 #[(0,vi a),(1,vi b)]).run Tryz.prog w = .ok (.agg #[vi a,vi b]) w:=by
 have h1 : ∀ n,(vi n).cells = #[vi n]:=fun _=>rfl
 simp [Instr.build,Instr.fill,h1]
 rfl
theorem build8_cell (a b : Int) (w : World) : (Instr.build 54 #[(0,vi a),(1,vi b)]).run Tryz.prog w = .ok (.agg #[vi a,vi b,.slice none 0 0]) w:=by
 have h1 : ∀ n,(vi n).cells = #[vi n]:=fun _=>rfl
 simp [Instr.build,Instr.fill,h1]
 rfl
def smallI (r : List Int) : Prop:=∀ n ∈ r,-4611686018427387904 ≤ n ∧ n ≤ 4611686018427387904
theorem cell8_spec (E : World) (g : PH) (s : Own) (v : Value) (id dim : Int) (r : List Int) (hv : Ints g v r) (hl : r.length < 1099511627776) (hr : smallI r) :
  Ctr Tryz.prog E 97 #[vi id,vi dim,v] g s (fun y g' s'=>s = s' ∧ Le g g' ∧ ∃ x,y = rcv x ∧ CellR g' (cellB id dim r) x):=by
 obtain ⟨p,c,rfl⟩:=SlA.form hv
 refine Ctr.of (args:=[vi id,vi dim,.slice p r.length c]) func97 I ntmps97 (bE I) ?_
 refine SC.sR (SL.bx (aL zeroValue54) fun b6=>?_)
 refine SL.nT (SC.sR (lM I (lM I (lU (SU.build I (build8_cell _ _)) (SL.bx (aL zeroValue54) fun b7=>?_)))))
 refine SL.O2 (sK 0 zT54 I I I I I sB) ?_
 refine SL.nT (sQ (SC.sR (lA I (SL.nT (bK (SC.nilRow 56 2 ?_))))))
 refine oP (ι:=Value × Nat) (fun i=>[(2,.slice p r.length c),(6,pp b6 0),(7,pp b7 0),(8,vi i.2)]) (fun _=>g) (fun i=>rowA encSide 56 i.1 ((r.take i.2).map sideB) :: pt b7 (.cells #[vi id,vi dim,i.1] 54 (0,0)) :: pt b6 (.cells #[vi 0,vi 0,.slice none 0 0] 54 (0,0)) :: s) (fun i=>i.2 ≤ r.length) (fun i=>r.length - i.2) (.slice none 0 0,0)
  sB rfl rfl (Nat.zero_le _) ?_
 rintro ⟨w,k⟩ hk
 dsimp only at hk ⊢
 refine sQ (SC.sR (lM I (lM I (lU (eN uT22 I) (lU (lS I I) (SL.nT ?_))))))
 refine iP I (fun hlt=>?_) (fun hlt=>?_)
 ·have hkl : k < r.length:=oM
  have hb1:=SlA.based hv oM
  have hgk : r[((k : Nat) : Int).toNat]? = some r[k]:=gE hkl
  have hsm:=hr _ (gM hkl)
  have htk : (r.take (k + 1)).map sideB = (r.take k).map sideB ++ [sideB r[k]]:=by rw [tS hkl,List.map_append]; rfl
  have hll : ((r.take k).map sideB).length = k:=by rw [List.length_map,List.length_take]; omega
  generalize r[k] = n at *
  refine kP (tN (sQ (bK (SC.sR (lM I (lM I (lU (iA uT22 zT3 I I hb1 oM sL) (lK (eB iT3 I (SlA.rd hv) hgk I) (lU (SU.build I (build8_side _ _)) (SL.bx (aL zeroValue56) fun b9=>?_))))))))))
  refine SL.O2 (sK 0 zT56 I I I I I sB) ?_
  refine SL.nT (sQ (SC.sR (lM I (lM I (lU (iA uT22 zT3 I I hb1 oM sL) (lK (eB iT3 I (SlA.rd hv) hgk I) (lU (lS I I) (SL.nT ?_))))))))
  refine iP I (fun hneg=>?_) (fun hneg=>?_)
  ·have hsb : sideB n = ⟨-n,-1⟩:=by unfold sideB; rw [if_pos hneg]
   refine rG (lM I (lM I (lU (iA uT22 zT3 I I hb1 oM sL) (lK (eB iT3 I (SlA.rd hv) hgk I) (lU (SU.eq (v':=vi (-n)) (SU.neg I) (congrArg vi (by rw [IntWalk.i64_in _ oM]; omega))) ?_)))))
   refine lU (SU.build I (build8_side _ _)) (SL.O2 (sK 0 zT56 I I I I I sB) ?_)
   refine SL.nT (rG (lU (fA uT54 I zT37 I) (lK (qL (v:=w) iT37 I (cO 2 I I)) (lK (qV 0 iT56 zT56 I I I) (lW (bS sty37 I I I (szs_mk ⟨I,trivial⟩) dC) ?_)))))
   rintro _ _ _ ⟨b38,rfl,rfl,rfl⟩
   refine lW (aP (e:=encSide) 1 ⟨-n,-1⟩ sty37 I I I I I oM oM) ?_
   rintro w3 _ _ ⟨rfl,rfl⟩
   refine SL.facts fun ⟨w0,hw0⟩=>?_
   obtain ⟨q3,d3,rfl⟩:=rowA_form (e:=encSide) (l:=(r.take k).map sideB ++ [⟨-n,-1⟩]) (i:=1) hw0 rfl
   clear hw0 w0
   refine lU (fA uT54 rfl zT37 rfl) (SL.O2 (SO.store1 2 zT37 rfl rfl rfl rfl (bE rfl) (by rfl)) ?_)
   refine nL (bN (tN (rG (lM I (lU (aD I I oM) (lA I (nL (dR (.cons _ (.refl _)) ?_))))))))
   exact ST.again (.slice q3 ((r.take k).map sideB ++ [(⟨-n,-1⟩ : Side)]).length d3,k + 1) sB rfl (by dsimp only; rw [htk,hsb]; rfl) (by dsimp only; omega) (by dsimp only; omega)
  ·have hsb : sideB n = ⟨n,1⟩:=by unfold sideB; rw [if_neg hneg]
   refine kP (tN (rG (lU (fA uT54 I zT37 I) (lK (qL (v:=w) iT37 I (cO 2 I I)) (lK (qV 0 iT56 zT56 I I I) (lW (bS sty37 I I I (szs_mk ⟨I,trivial⟩) dC) ?_))))))
   rintro _ _ _ ⟨b38,rfl,rfl,rfl⟩
   refine lW (aP (e:=encSide) 1 ⟨n,1⟩ sty37 I I I I I oM oM) ?_
   rintro w3 _ _ ⟨rfl,rfl⟩
   refine SL.facts fun ⟨w0,hw0⟩=>?_
   obtain ⟨q3,d3,rfl⟩:=rowA_form (e:=encSide) (l:=(r.take k).map sideB ++ [⟨n,1⟩]) (i:=1) hw0 rfl
   clear hw0 w0
   refine lU (fA uT54 rfl zT37 rfl) (SL.O2 (SO.store1 2 zT37 rfl rfl rfl rfl (bE rfl) (by rfl)) ?_)
   refine nL (bN (tN (rG (lM I (lU (aD I I oM) (lA I (nL (dR (.cons _ (.refl _)) ?_))))))))
   exact ST.again (.slice q3 ((r.take k).map sideB ++ [(⟨n,1⟩ : Side)]).length d3,k + 1) sB rfl (by dsimp only; rw [htk,hsb]; rfl) (by dsimp only; omega) (by dsimp only; omega)
 ·have hkk : r.take k = r:=tL oM
  rw [hkk]
  refine SC.facts fun ⟨w0,hw0⟩=>?_
  obtain ⟨q3,d3,rfl⟩:=rowA_form (e:=encSide) (l:=r.map sideB) (i:=0) hw0 rfl
  clear hw0 w0
  refine xI (tX (tX (bX (tN (SC.sR (lK (qV 1 iT54 zT54 I I I) (SL.O2 (sK 2 zT54 I I I I I sB) ?_)))))))
  refine SL.nT (rE (fT fun g1 hle1 hs1=>?_))
  exact ST.retCD 1 s (.inl I) results97 I iT54 zT54 I I (.cons _ (.cons _ (.refl _))) ⟨I,hle1,⟨id,dim,q3,(r.map sideB).length,d3⟩,I,I,I,hs1⟩
theorem rowsC_snoc : ∀ (l : List (List Int)) (n : Int) (r : List Int),rowsC n (l ++ [r]) = rowsC n l ++ [cellB (n + l.length) (r.headD 0) r.tail]
 | [],n,r=>by simp [rowsC]
 | a :: l,n,r=>by
  have ih:=rowsC_snoc l (n + 1) r
  rw [List.cons_append,rowsC,rowsC,ih,List.cons_append,List.length_cons]
  congr 4
  omega
theorem all2_snoc8 {α β : Type} {R : α → β → Prop} : ∀ {l : List α} {m : List β} {a : α} {b : β},All2 R l m → R a b → All2 R (l ++ [a]) (m ++ [b])
 | [],[],_,_,_,h=>⟨h,trivial⟩
 | _ :: _,_ :: _,_,_,h,hr=>⟨h.1,all2_snoc8 h.2 hr⟩
 | [],_ :: _,_,_,h,_=>h.elim
 | _ :: _,[],_,_,h,_=>h.elim
theorem complexOf_spec (E : World) (g : PH) (s : Own) (v : Value) (ls : List (List Int)) (hv : Lists g v ls) (hl : ls.length < 1000000) (hr : ∀ r ∈ ls,r ≠ [] ∧ r.length < 1000000 ∧ smallI r) :
  Ctr Tryz.prog E 59 #[v] g s (fun y g' s'=>s = s' ∧ Le g g' ∧ ∃ u,y = .agg #[u] ∧ Cells g' u (rowsC 1 ls)):=by
 obtain ⟨rs,hrs,hall⟩:=hv
 obtain ⟨p,c,rfl⟩:=SlA.form hrs
 have hrl:=hall.length
 refine Ctr.of (args:=[.slice p rs.length c]) func59 I ntmps59 (bE I) ?_
 refine SC.sR (SL.bx (aL zeroValue29) fun b2=>?_)
 refine SL.nT (SC.sR (SL.bx (aL zeroValue29) fun b3=>?_))
 refine SL.nT (sQ (SC.sR (lA I (SL.nT (bK (SC.nilRow 54 3 ?_))))))
 refine oP (ι:=Value × List Rc × Nat × PH) (fun i=>[(0,.slice p rs.length c),(2,pp b2 0),(3,pp b3 0),(4,vi i.2.2.1)]) (fun i=>i.2.2.2) (fun i=>rowA encCell 54 i.1 i.2.1 :: pt b3 (.cells #[i.1] 29 (0,0)) :: pt b2 (.cells #[.slice none 0 0] 29 (0,0)) :: s) (fun i=>i.2.2.1 ≤ ls.length ∧ Le g i.2.2.2 ∧ All2 (CellR i.2.2.2) (rowsC 1 (ls.take i.2.2.1)) i.2.1 ∧ i.2.1.length = i.2.2.1) (fun i=>ls.length - i.2.2.1) (.slice none 0 0,[],0,g)
  sB rfl rfl ⟨Nat.zero_le _,Le.refl _,trivial,rfl⟩ ?_
 rintro ⟨w,xs,k,g1⟩ ⟨hk,hle1,hxs,hxl⟩
 dsimp only at hk hle1 hxs hxl ⊢
 refine sQ (SC.sR (lM I (lM I (lU (eN uT108 I) (lU (lS I I) (SL.nT ?_))))))
 refine iP I (fun hlt=>?_) (fun hlt=>?_)
 ·have hkl : k < ls.length:=oM
  have hkr : k < rs.length:=oM
  have hb1:=SlA.based hrs oM
  have hgk : rs[((k : Nat) : Int).toNat]? = some rs[k]:=gE hkr
  have hrow:=ListR.mono hle1 (hall.get (gE hkl) (gE hkr))
  obtain ⟨hne,hrl2,hsm⟩:=hr _ (gM hkl)
  have htk : rowsC 1 (ls.take (k + 1)) = rowsC 1 (ls.take k) ++ [cellB ((k : Int) + 1) (ls[k].headD 0) ls[k].tail]:=by
   rw [tS hkl,rowsC_snoc,List.length_take,Nat.min_eq_left oM]
   congr 3
   omega
  generalize ls[k] = r at *
  generalize rs[k] = x at *
  obtain ⟨xp,xn,xc⟩:=x
  have hxn : xn = r.length:=hrow.len
  subst hxn
  have hrow : Ints g1 (.slice xp r.length xc) r:=hrow
  have hpos : 0 < r.length:=List.length_pos_iff.2 hne
  have hb2:=SlA.based hrow hpos
  have hhd : r[((0 : Int)).toNat]? = some (r.headD 0):=by
   cases r with
   | nil=>exact absurd rfl hne
   | cons a t=>rfl
  have hcut:=SlA.cut hrow (l:=1) (m:=r.length) oM (lR _)
  have htl : (r.drop 1).take (r.length - 1) = r.tail:=by rw [tL (by rw [List.length_drop]; exact lR _),List.drop_one]
  rw [htl] at hcut
  have hsmt : smallI r.tail:=fun n hn=>hsm n (List.mem_of_mem_tail hn)
  have htll : r.tail.length < 1099511627776:=by rw [List.length_tail]; omega
  refine kP (tN (sQ (bK ?_)))
  refine dW [17,19] [(0,2),(1,1),(2,2),(3,2),(4,2),(5,2),(6,2),(7,1),(8,2),(9,1),(10,2),(11,2),(12,2),(13,1),(14,2),(15,0),(16,0),(17,0),(18,2),(19,0)] Tryz.mixed (by kernel_rfl) ?_
  refine pU rfl (fA uT29 rfl zT27 rfl) (pK rfl (qL (v:=w) iT27 rfl (cO 1 rfl rfl)) (pU rfl (mV rfl) (pU rfl (aD rfl rfl oM) (pU rfl (mV rfl) (pU rfl (mV rfl) (pU rfl (iA uT108 zT22 rfl rfl hb1 oM sL) (pK rfl (eB (e:=encSv) (u:=.slice xp r.length xc) iT22 rfl (SlA.rd (SlA.mono hrs hle1)) hgk rfl) (pU rfl (iA uT22 zT3 rfl rfl hb2 dC sL) (pK rfl (eB iT3 rfl (SlA.rd hrow) hhd rfl) (pU rfl (mV rfl) (pU rfl (mV rfl) (pU rfl (iA uT108 zT22 rfl rfl hb1 oM sL) (pK rfl (eB (e:=encSv) (u:=.slice xp r.length xc) iT22 rfl (SlA.rd (SlA.mono hrs hle1)) hgk rfl) (pU rfl (SU.sliceL uT22 zT3 rfl rfl dC oM) (SP.o rfl (SO.call call97 rfl (cell8_spec E g1 _ _ ((k : Int) + 1) (r.headD 0) r.tail hcut htll hsmt)) dC (.inr (by rintro _ g2 _ ⟨rfl,hle2,x,rfl,hx⟩; exact ⟨by assumption,(by exact .refl _)⟩)) ?_)))))))))))))))
  rintro _ g2 _ ⟨rfl,hle2,x,rfl,hx⟩
  obtain ⟨yi,yd,yp,yn,yc⟩:=x
  refine SP.o rfl (bS sty27 rfl rfl rfl (szs_mk ⟨rfl,trivial⟩) dC) dC (.inr (by rintro _ _ _ ⟨b27,rfl,rfl,rfl⟩; exact ⟨by assumption,(by exact .cons _ (.refl _))⟩)) ?_
  rintro _ _ _ ⟨b27,rfl,rfl,rfl⟩
  refine SP.o I (aP (e:=encCell) 0 ⟨yi,yd,yp,yn,yc⟩ sty27 I I I I I oM oM) dC (.inl dC) ?_
  rintro w3 _ _ ⟨rfl,rfl⟩
  refine SP.facts fun ⟨w0,hw0⟩=>?_
  obtain ⟨q3,d3,rfl⟩:=rowA_form (e:=encCell) (l:=xs ++ [⟨yi,yd,yp,yn,yc⟩]) (i:=0) hw0 rfl
  clear hw0 w0
  refine pU I (fA uT29 I zT27 I) (SP.on I (sK 1 zT27 I I I I I sB) (.inl dC) ?_)
  rintro _ _ _ ⟨rfl,rfl⟩
  refine pN (bN (tN (rG (lM I (lU (aD I I oM) (lA I (nL ?_)))))))
  exact ST.again (.slice q3 (xs ++ [(⟨yi,yd,yp,yn,yc⟩ : Rc)]).length d3,xs ++ [⟨yi,yd,yp,yn,yc⟩],k + 1,g2) sB I I ⟨by dsimp only; omega,hle1.trans hle2,by dsimp only; rw [htk]; exact all2_snoc8 (hxs.mono fun _ _ h=>CellR.mono hle2 h) hx,by simp; omega⟩ (by dsimp only; omega)
 ·have hkk : ls.take k = ls:=tL oM
  rw [hkk] at hxs
  refine SC.facts fun ⟨w0,hw0⟩=>?_
  obtain ⟨q3,d3,rfl⟩:=rowA_form (e:=encCell) (l:=xs) (i:=0) hw0 rfl
  clear hw0 w0
  refine xI (tX (tX (bX (tN (SC.sR (lK (qV 1 iT29 zT29 I I I) (SL.O2 (sK 2 zT29 I I I I I sB) ?_)))))))
  refine SL.nT (rE (fT fun g2 hle2 hs2=>?_))
  exact ST.retCD 1 s (.inl I) results59 I iT29 zT29 I I (.cons _ (.cons _ (.refl _))) ⟨I,hle1.trans hle2,_,I,xs,hs2,hxs.mono fun _ _ h=>CellR.mono hle2 h⟩
theorem sphL_length (n : Nat) : (sphL n).length = 2 * n + 2:=by
 induction n with
 | zero=>rfl
 | succ n ih=>rw [sphL,List.length_append,ih]; simp; omega
theorem sphL_fine : ∀ (n : Nat),n ≤ 100 → ∀ r ∈ sphL n,r ≠ [] ∧ r.length < 1000000 ∧ smallI r
 | 0,_,r,hr=>by
  simp [sphL] at hr
  subst hr
  exact ⟨by simp,by simp,fun n hn=>by simp at hn; omega⟩
 | n + 1,h,r,hr=>by
  rw [sphL] at hr
  rcases List.mem_append.1 hr with hr | hr
  ·exact sphL_fine n oM r hr
  ·simp at hr
   subst hr
   unfold sphRow
   split
   ·exact ⟨by simp,by simp,fun n hn=>by simp at hn; omega⟩
   ·exact ⟨by simp,by simp,fun n hn=>by simp at hn; omega⟩
theorem sphere_spec (E : World) (g : PH) (s : Own) (n : Nat) (hn : n ≤ 100) : Ctr Tryz.prog E 60 #[vi (n : Int)] g s (fun y g' s'=>s = s' ∧ Le g g' ∧ ∃ u,y = .agg #[u] ∧ Cells g' u (rowsC 1 (sphL n))):=by
 refine Ctr.of (args:=[vi (n : Int)]) func60 I ntmps60 (bE I) ?_
 refine SC.sR (SL.bx (aL zeroValue29) fun b2=>?_)
 refine SL.nT (SC.sR (lW (bS sty22 I I I (szs_mk ⟨I,trivial⟩) dC) ?_))
 rintro _ _ _ ⟨b7,rfl,rfl,rfl⟩
 refine SL.freeze fun g1 hle1 hb7=>?_
 refine lW (bS sty22 I I I (szs_mk ⟨I,trivial⟩) dC) ?_
 rintro _ _ _ ⟨b8,rfl,rfl,rfl⟩
 refine SL.freeze fun g2 hle2 hb8=>?_
 refine lW (bS sty108 I I I (szs_mk sB) dC) ?_
 rintro _ _ _ ⟨b9,rfl,rfl,rfl⟩
 refine SL.to (fun w hw=>At.litRow (e:=encSv) (l:=[⟨some ⟨b7,0,none⟩,1,1⟩,⟨some ⟨b8,0,none⟩,1,1⟩]) (n:=1) hw I I dC) ?_
 refine lA I (SL.nT (sQ (SC.sR (lA I (SL.nT (bK ?_))))))
 refine oP (ι:=PH × Value × List Sv × Nat) (fun i=>[(0,vi (n : Int)),(2,pp b2 0),(3,i.2.1),(4,vi ((i.2.2.2 : Int) + 1))]) (fun i=>i.1)
  (fun i=>rowA encSv 22 i.2.1 i.2.2.1 :: pt b2 (.cells #[.slice none 0 0] 29 (0,0)) :: s)
  (fun i=>Le g i.1 ∧ i.2.2.2 ≤ n ∧ All2 (ListR i.1) (sphL i.2.2.2) i.2.2.1) (fun i=>n - i.2.2.2)
  (g2,.slice (some ⟨b9,0,none⟩) 2 2,[⟨some ⟨b7,0,none⟩,1,1⟩,⟨some ⟨b8,0,none⟩,1,1⟩],0) sB rfl rfl ⟨hle1.trans hle2,Nat.zero_le _,SlA.lit (hle2 _ _ hb7) rfl rfl,SlA.lit hb8 rfl rfl,trivial⟩ ?_
 rintro ⟨g3,ov,rs,k⟩ ⟨hle,hk,hrs⟩
 dsimp only at hle hk hrs ⊢
 have hrl:=hrs.length
 rw [sphL_length] at hrl
 refine sQ (SC.sR (lM I (lM I (lU (SU.leq I I) (SL.nT ?_)))))
 refine iP I (fun hlt=>?_) (fun hlt=>?_)
 ·have hkn : k < n:=oM
  have hmod : ((k : Int) + 1).tmod 2 = ((k : Int) + 1) % 2:=Int.tmod_eq_emod_of_nonneg oM
  refine kP (tN (sQ (bK (SC.sR (lM I (lU (SU.eq (v':=vi (2 * ((k : Int) + 1))) (SU.mul I I oM) I) (lU (sU I I oM) (lA I (SL.nT (SC.sR (lM I (lM I (lU (SU.eq (v':=vi (-(2 * ((k : Int) + 1) - 1))) (SU.neg I) (congrArg vi (by rw [IntWalk.i64_in _ oM]; omega))) ?_)))))))))))))
  refine lM I (lU (SU.eq (v':=vi (2 * ((k : Int) + 1))) (aD I I oM) (congrArg vi oM)) (lW (bS sty22 I I I (szs_mk sB) dC) ?_))
  rintro _ _ _ ⟨b23,rfl,rfl,rfl⟩
  refine SL.freeze fun g4 hle4 hb23=>?_
  have hi23 : ListR g4 [(k : Int) + 1,-(2 * ((k : Int) + 1) - 1),2 * ((k : Int) + 1)] ⟨some ⟨b23,0,none⟩,3,3⟩:=SlA.lit hb23 rfl rfl
  refine lA I (SL.nT (sQ (SC.sR (lM I (lU (SU.rem I I dC) (lU (eQ I I) (SL.nT ?_)))))))
  refine iP I (fun he=>?_) (fun he=>?_)
  ·have hrow : sphRow ((k : Int) + 1) = [(k : Int) + 1,2 * ((k : Int) + 1) - 1,-(2 * ((k : Int) + 1))]:=by
    have he2:=he
    rw [hmod] at he2
    unfold sphRow
    rw [if_pos he2]
   refine rG (lM I (lM I (lM I (lU (SU.eq (v':=vi (2 * ((k : Int) + 1))) (aD I I oM) (congrArg vi oM)) (lU (SU.eq (v':=vi (-(2 * ((k : Int) + 1)))) (SU.neg I) (congrArg vi (by rw [IntWalk.i64_in _ oM]; omega))) ?_)))))
   refine lW (bS sty22 I I I (szs_mk sB) dC) ?_
   rintro _ _ _ ⟨b32,rfl,rfl,rfl⟩
   refine SL.freeze fun g5 hle5 hb32=>?_
   have hi32 : ListR g5 [(k : Int) + 1,2 * ((k : Int) + 1) - 1,-(2 * ((k : Int) + 1))] ⟨some ⟨b32,0,none⟩,3,3⟩:=SlA.lit hb32 rfl rfl
   refine lA I (SL.nT (sQ (SC.sR (lM I (lU (eQ I I) (SL.nT ?_))))))
   refine iP I (fun h1=>?_) (fun h1=>?_)
   ·have he2:=he
    rw [hmod] at he2
    exact absurd h1 oM
   ·refine kP (tN (rG (lM I (lM I (lM I (lW (bS sty108 I I I (szs_mk sB) dC) ?_))))))
    rintro _ _ _ ⟨b39,rfl,rfl,rfl⟩
    refine SL.freeze fun g7 hle7 hb39=>?_
    refine lW (aQ (e:=encSv) (m:=[⟨some ⟨b32,0,none⟩,3,3⟩,⟨some ⟨b32,0,none⟩,3,3⟩]) 0 sty108 I I I (SlA.lit (e:=encSv) hb39 I I) lN lN) ?_
    rintro ov' _ _ ⟨rfl,rfl⟩
    refine lA I (nL (bN (tN (rG (lM I (lU (aD I I oM) (lA I (nL ?_))))))))
    refine ST.again (g7,ov',rs ++ [⟨some ⟨b32,0,none⟩,3,3⟩,⟨some ⟨b32,0,none⟩,3,3⟩],k + 1) sB I I ⟨hle.trans (hle4.trans (hle5.trans hle7)),lN,?_⟩ lN
    dsimp only
    rw [sphL,hrow]
    exact (hrs.mono fun _ _=>ListR.mono (hle4.trans (hle5.trans hle7))).append ⟨ListR.mono hle7 hi32,ListR.mono hle7 hi32,trivial⟩
  ·have hrow : sphRow ((k : Int) + 1) = [(k : Int) + 1,-(2 * ((k : Int) + 1) - 1),2 * ((k : Int) + 1)]:=by
    have he2:=he
    rw [hmod] at he2
    unfold sphRow
    rw [if_neg he2]
   refine kP (tN (sQ (SC.sR (lM I (lU (eQ I I) (SL.nT ?_))))))
   refine iP I (fun h1=>?_) (fun h1=>?_)
   ·have hk0 : k = 0:=oM
    subst hk0
    refine rG (lW (bS sty22 I I I (szs_mk sB) dC) ?_)
    rintro _ _ _ ⟨b35,rfl,rfl,rfl⟩
    refine SL.freeze fun g6 hle6 hb35=>?_
    have hi35 : ListR g6 [1,-1,2] ⟨some ⟨b35,0,none⟩,3,3⟩:=SlA.lit hb35 rfl rfl
    refine lA I (SL.nT (rG (lM I (lM I (lM I (lW (bS sty108 I I I (szs_mk sB) dC) ?_))))))
    rintro _ _ _ ⟨b39,rfl,rfl,rfl⟩
    refine SL.freeze fun g7 hle7 hb39=>?_
    refine lW (aQ (e:=encSv) (m:=[⟨some ⟨b35,0,none⟩,3,3⟩,⟨some ⟨b35,0,none⟩,3,3⟩]) 0 sty108 I I I (SlA.lit (e:=encSv) hb39 I I) lN lN) ?_
    rintro ov' _ _ ⟨rfl,rfl⟩
    refine lA I (nL (bN (tN (rG (lM I (lU (aD I I oM) (lA I (nL ?_))))))))
    refine ST.again (g7,ov',rs ++ [⟨some ⟨b35,0,none⟩,3,3⟩,⟨some ⟨b35,0,none⟩,3,3⟩],1) sB I I ⟨hle.trans (hle4.trans (hle6.trans hle7)),lN,?_⟩ lN
    dsimp only
    rw [show (1 : Nat) = 0 + 1 from rfl,sphL,hrow]
    exact (hrs.mono fun _ _=>ListR.mono (hle4.trans (hle6.trans hle7))).append ⟨ListR.mono hle7 hi35,ListR.mono hle7 hi35,trivial⟩
   ·refine kP (tN (rG (lM I (lM I (lM I (lW (bS sty108 I I I (szs_mk sB) dC) ?_))))))
    rintro _ _ _ ⟨b39,rfl,rfl,rfl⟩
    refine SL.freeze fun g7 hle7 hb39=>?_
    refine lW (aQ (e:=encSv) (m:=[⟨some ⟨b23,0,none⟩,3,3⟩,⟨some ⟨b23,0,none⟩,3,3⟩]) 0 sty108 I I I (SlA.lit (e:=encSv) hb39 I I) lN lN) ?_
    rintro ov' _ _ ⟨rfl,rfl⟩
    refine lA I (nL (bN (tN (rG (lM I (lU (aD I I oM) (lA I (nL ?_))))))))
    refine ST.again (g7,ov',rs ++ [⟨some ⟨b23,0,none⟩,3,3⟩,⟨some ⟨b23,0,none⟩,3,3⟩],k + 1) sB I I ⟨hle.trans (hle4.trans hle7),lN,?_⟩ lN
    dsimp only
    rw [sphL,hrow]
    exact (hrs.mono fun _ _=>ListR.mono (hle4.trans hle7)).append ⟨ListR.mono hle7 hi23,ListR.mono hle7 hi23,trivial⟩
 ·have hkn : k = n:=oM
  subst hkn
  refine xI (tX (tX (bX (tN (sQ (fS fun g8 hle8 hs8=>?_))))))
  have hov : Lists g8 ov (sphL k):=⟨rs,hs8,hrs.mono fun _ _=>ListR.mono hle8⟩
  refine rG (lM I (lW (SO.call call59 I (complexOf_spec E g8 _ _ _ hov (by rw [sphL_length]; omega) (sphL_fine k hn))) ?_))
  rintro _ g9 _ ⟨rfl,hle9,u,rfl,hu⟩
  obtain ⟨q9,d9,rfl⟩:=hu.form
  refine SL.O2 (sK 0 zT29 I I I I I sB) ?_
  refine SL.nT (rE ?_)
  exact ST.retCD 0 s (.inl I) results60 I iT29 zT29 I I (.cons _ (.refl _)) ⟨I,hle.trans (hle8.trans hle9),_,I,hu⟩
def mooreK (k : Nat) : List (List Int):=(List.range k).map fun k : Nat=>[1,-1,((2 + k % 3 : Nat) : Int)]
def mooreR (n k : Nat) : List (List Int):=(List.range k).map fun k : Nat=>[2,((8 + k : Nat) : Int),((5 + k % 3 : Nat) : Int),-((8 + (k + 1) % (3 * n) : Nat) : Int)]
def moore0 : List (List Int):=[[0],[0],[0],[0],[1,-2,3],[1,-3,4],[1,-4,2]]
theorem mooreK_succ (k : Nat) : mooreK (k + 1) = mooreK k ++ [[1,-1,((2 + k % 3 : Nat) : Int)]]:=by simp [mooreK,List.range_succ]
theorem mooreR_succ (n k : Nat) : mooreR n (k + 1) = mooreR n k ++ [[2,((8 + k : Nat) : Int),((5 + k % 3 : Nat) : Int),-((8 + (k + 1) % (3 * n) : Nat) : Int)]]:=by simp [mooreR,List.range_succ]
theorem mooreK_length (k : Nat) : (mooreK k).length = k:=by simp [mooreK]
theorem mooreR_length (n k : Nat) : (mooreR n k).length = k:=by simp [mooreR]
theorem mooreL_eq (n : Nat) : mooreL n = moore0 ++ mooreK (3 * n) ++ mooreR n (3 * n):=rfl
theorem mooreL_fine (n : Nat) (hn : n ≤ 100) : ∀ r ∈ mooreL n,r ≠ [] ∧ r.length < 1000000 ∧ smallI r:=by
 intro r hr
 rw [mooreL_eq] at hr
 rcases List.mem_append.1 hr with hr | hr
 ·rcases List.mem_append.1 hr with hr | hr
  ·have h0 : ∀ r ∈ moore0,r ≠ [] ∧ r.length < 1000000 ∧ ∀ n ∈ r,-4611686018427387904 ≤ n ∧ n ≤ 4611686018427387904:=by decide
   exact h0 r hr
  ·obtain ⟨k,hk,rfl⟩:=List.mem_map.1 hr
   refine ⟨by simp,by simp,fun m hm=>?_⟩
   have:=Nat.mod_lt k (show 0 < 3 by decide)
   simp only [List.mem_cons,List.not_mem_nil,or_false] at hm
   omega
 ·obtain ⟨k,hk,rfl⟩:=List.mem_map.1 hr
  have hk:=List.mem_range.1 hk
  refine ⟨by simp,by simp,fun m hm=>?_⟩
  have h3:=Nat.mod_lt k (show 0 < 3 by decide)
  have h4:=Nat.mod_lt (k + 1) (show 0 < 3 * n by omega)
  simp only [List.mem_cons,List.not_mem_nil,or_false] at hm
  omega
theorem moore_spec (E : World) (g : PH) (s : Own) (n : Nat) (hn : n ≤ 100) : Ctr Tryz.prog E 61 #[vi (n : Int)] g s (fun y g' s'=>s = s' ∧ Le g g' ∧ ∃ u,y = .agg #[u] ∧ Cells g' u (rowsC 1 (mooreL n))):=by
 refine Ctr.of (args:=[vi (n : Int)]) func61 I ntmps61 (bE I) ?_
 refine SC.sR (SL.bx (aL zeroValue29) fun b2=>?_)
 refine SL.nT (SC.sR (lW (bS sty22 I I I (szs_mk ⟨I,trivial⟩) dC) ?_))
 rintro _ _ _ ⟨b6,rfl,rfl,rfl⟩
 refine SL.freeze fun g1 hle1 hb6=>?_
 refine lW (bS sty22 I I I (szs_mk ⟨I,trivial⟩) dC) ?_
 rintro _ _ _ ⟨b7,rfl,rfl,rfl⟩
 refine SL.freeze fun g2 hle2 hb7=>?_
 refine lW (bS sty22 I I I (szs_mk ⟨I,trivial⟩) dC) ?_
 rintro _ _ _ ⟨b8,rfl,rfl,rfl⟩
 refine SL.freeze fun g3 hle3 hb8=>?_
 refine lW (bS sty22 I I I (szs_mk ⟨I,trivial⟩) dC) ?_
 rintro _ _ _ ⟨b9,rfl,rfl,rfl⟩
 refine SL.freeze fun g4 hle4 hb9=>?_
 refine lW (bS sty22 I I I (szs_mk sB) dC) ?_
 rintro _ _ _ ⟨b10,rfl,rfl,rfl⟩
 refine SL.freeze fun g5 hle5 hb10=>?_
 refine lW (bS sty22 I I I (szs_mk sB) dC) ?_
 rintro _ _ _ ⟨b11,rfl,rfl,rfl⟩
 refine SL.freeze fun g6 hle6 hb11=>?_
 refine lW (bS sty22 I I I (szs_mk sB) dC) ?_
 rintro _ _ _ ⟨b12,rfl,rfl,rfl⟩
 refine SL.freeze fun g7 hle7 hb12=>?_
 refine lW (bS sty108 I I I (szs_mk sB) dC) ?_
 rintro _ _ _ ⟨b13,rfl,rfl,rfl⟩
 refine SL.to (fun w hw=>At.litRow (e:=encSv) (l:=[⟨some ⟨b6,0,none⟩,1,1⟩,⟨some ⟨b7,0,none⟩,1,1⟩,⟨some ⟨b8,0,none⟩,1,1⟩,⟨some ⟨b9,0,none⟩,1,1⟩,⟨some ⟨b10,0,none⟩,3,3⟩,⟨some ⟨b11,0,none⟩,3,3⟩,⟨some ⟨b12,0,none⟩,3,3⟩]) (n:=6) hw I I dC) ?_
 refine lA I (SL.nT (sQ (SC.sR (lA I (SL.nT (bK ?_))))))
 refine oP (ι:=PH × Value × List Sv × Nat) (fun i=>[(0,vi (n : Int)),(2,pp b2 0),(3,i.2.1),(4,vi (i.2.2.2 : Int))]) (fun i=>i.1)
  (fun i=>rowA encSv 22 i.2.1 i.2.2.1 :: pt b2 (.cells #[.slice none 0 0] 29 (0,0)) :: s)
  (fun i=>Le g i.1 ∧ i.2.2.2 ≤ 3 * n ∧ All2 (ListR i.1) (moore0 ++ mooreK i.2.2.2) i.2.2.1) (fun i=>3 * n - i.2.2.2)
  (g7,.slice (some ⟨b13,0,none⟩) 7 7,[⟨some ⟨b6,0,none⟩,1,1⟩,⟨some ⟨b7,0,none⟩,1,1⟩,⟨some ⟨b8,0,none⟩,1,1⟩,⟨some ⟨b9,0,none⟩,1,1⟩,⟨some ⟨b10,0,none⟩,3,3⟩,⟨some ⟨b11,0,none⟩,3,3⟩,⟨some ⟨b12,0,none⟩,3,3⟩],0) sB rfl rfl ⟨(hle1.trans (hle2.trans (hle3.trans (hle4.trans (hle5.trans (hle6.trans hle7)))))),Nat.zero_le _,⟨SlA.lit (hle7 _ _ (hle6 _ _ (hle5 _ _ (hle4 _ _ (hle3 _ _ (hle2 _ _ hb6)))))) rfl rfl,SlA.lit (hle7 _ _ (hle6 _ _ (hle5 _ _ (hle4 _ _ (hle3 _ _ hb7))))) rfl rfl,SlA.lit (hle7 _ _ (hle6 _ _ (hle5 _ _ (hle4 _ _ hb8)))) rfl rfl,SlA.lit (hle7 _ _ (hle6 _ _ (hle5 _ _ hb9))) rfl rfl,SlA.lit (hle7 _ _ (hle6 _ _ hb10)) rfl rfl,SlA.lit (hle7 _ _ hb11) rfl rfl,SlA.lit hb12 rfl rfl,trivial⟩⟩ ?_
 rintro ⟨g8,ov,rs,k⟩ ⟨hle,hk,hrs⟩
 dsimp only at hle hk hrs ⊢
 have hrl:=hrs.length
 rw [List.length_append,mooreK_length,show moore0.length = 7 from rfl] at hrl
 refine sQ (SC.sR (lM I (lM I (lU (SU.mul I I oM) (lU (lS I I) (SL.nT ?_))))))
 refine iP I (fun hlt=>?_) (fun hlt=>?_)
 ·have hkn : k < 3 * n:=oM
  refine kP (tN (sQ (bK (rG (lM I (lM I (lU (SU.eq (v':=vi ((k % 3 : Nat) : Int)) (SU.rem I I dC) I) (lU (SU.eq (v':=vi ((2 + k % 3 : Nat) : Int)) (aD I I oM) (congrArg vi oM)) (lW (bS sty22 I I I (szs_mk sB) dC) ?_)))))))))
  rintro _ _ _ ⟨b24,rfl,rfl,rfl⟩
  refine SL.freeze fun g9 hle9 hb24=>?_
  have hi24 : ListR g9 [1,-1,((2 + k % 3 : Nat) : Int)] ⟨some ⟨b24,0,none⟩,3,3⟩:=SlA.lit hb24 rfl rfl
  refine lW (bS sty108 I I I (szs_mk ⟨I,trivial⟩) dC) ?_
  rintro _ _ _ ⟨b25,rfl,rfl,rfl⟩
  refine SL.freeze fun g10 hle10 hb25=>?_
  refine lW (aQ (e:=encSv) (m:=[⟨some ⟨b24,0,none⟩,3,3⟩]) 0 sty108 I I I (SlA.lit (e:=encSv) hb25 I I) lN lN) ?_
  rintro ov' _ _ ⟨rfl,rfl⟩
  refine lA I (nL (bN (tN (rG (lM I (lU (aD I I oM) (lA I (nL ?_))))))))
  refine ST.again (g10,ov',rs ++ [⟨some ⟨b24,0,none⟩,3,3⟩],k + 1) sB I I ⟨hle.trans (hle9.trans hle10),lN,?_⟩ lN
  dsimp only
  rw [mooreK_succ,← List.append_assoc]
  exact (hrs.mono fun _ _=>ListR.mono (hle9.trans hle10)).append ⟨ListR.mono hle10 hi24,trivial⟩
 ·have hkn : k = 3 * n:=oM
  subst hkn
  refine xI (tX (tX (bX (tN (sQ (SC.sR (lA I (SL.nT (bK ?_)))))))))
  refine oP (ι:=PH × Value × List Sv × Nat) (fun i=>[(0,vi (n : Int)),(2,pp b2 0),(3,i.2.1),(5,vi (i.2.2.2 : Int))]) (fun i=>i.1) (fun i=>rowA encSv 22 i.2.1 i.2.2.1 :: pt b2 (.cells #[.slice none 0 0] 29 (0,0)) :: s) (fun i=>Le g i.1 ∧ i.2.2.2 ≤ 3 * n ∧ All2 (ListR i.1) (moore0 ++ mooreK (3 * n) ++ mooreR n i.2.2.2) i.2.2.1) (fun i=>3 * n - i.2.2.2) (g8,ov,rs,0) sB I I ⟨hle,Nat.zero_le _,by simpa [mooreR] using hrs⟩ ?_
  clear hrs hrl hlt hle
  rintro ⟨g11,ov,rs,k⟩ ⟨hle,hk,hrs⟩
  dsimp only at hle hk hrs ⊢
  have hrl:=hrs.length
  rw [List.length_append,List.length_append,mooreK_length,mooreR_length,show moore0.length = 7 from rfl] at hrl
  refine sQ (SC.sR (lM I (lM I (lU (SU.mul I I oM) (lU (lS I I) (SL.nT ?_))))))
  refine iP I (fun hlt=>?_) (fun hlt=>?_)
  ·have hkn : k < 3 * n:=oM
   have h43:=Nat.mod_lt (k + 1) (show 0 < 3 * n by omega)
   refine kP (tN (sQ (bK (rG (lM I (lM I (lU (SU.eq (v':=vi ((8 + k : Nat) : Int)) (aD I I oM) (congrArg vi oM)) (lM I (lU (SU.eq (v':=vi ((k % 3 : Nat) : Int)) (SU.rem I I dC) I) (lU (SU.eq (v':=vi ((5 + k % 3 : Nat) : Int)) (aD I I oM) (congrArg vi oM)) (lM I (lU (SU.eq (v':=vi ((k + 1 : Nat) : Int)) (aD I I oM) I) (lM I (lU (SU.eq (v':=vi ((3 * n : Nat) : Int)) (SU.mul I I oM) (congrArg vi oM)) (lU (SU.eq (v':=vi (((k + 1) % (3 * n) : Nat) : Int)) (SU.rem I I oM) I) (lU (SU.eq (v':=vi ((8 + (k + 1) % (3 * n) : Nat) : Int)) (aD I I oM) (congrArg vi oM)) (lU (SU.eq (v':=vi (-((8 + (k + 1) % (3 * n) : Nat) : Int))) (SU.neg I) (congrArg vi (by rw [IntWalk.i64_in _ oM]; omega))) ?_)))))))))))))))))
   refine lW (bS sty22 I I I (szs_mk sB) dC) ?_
   rintro _ _ _ ⟨b46,rfl,rfl,rfl⟩
   refine SL.freeze fun g12 hle12 hb46=>?_
   have hi46 : ListR g12 [2,((8 + k : Nat) : Int),((5 + k % 3 : Nat) : Int),-((8 + (k + 1) % (3 * n) : Nat) : Int)] ⟨some ⟨b46,0,none⟩,4,4⟩:=SlA.lit hb46 rfl rfl
   refine lW (bS sty108 I I I (szs_mk ⟨I,trivial⟩) dC) ?_
   rintro _ _ _ ⟨b47,rfl,rfl,rfl⟩
   refine SL.freeze fun g13 hle13 hb47=>?_
   refine lW (aQ (e:=encSv) (m:=[⟨some ⟨b46,0,none⟩,4,4⟩]) 0 sty108 I I I (SlA.lit (e:=encSv) hb47 I I) lN lN) ?_
   rintro ov' _ _ ⟨rfl,rfl⟩
   refine lA I (nL (bN (tN (rG (lM I (lU (aD I I oM) (lA I (nL ?_))))))))
   refine ST.again (g13,ov',rs ++ [⟨some ⟨b46,0,none⟩,4,4⟩],k + 1) sB I I ⟨hle.trans (hle12.trans hle13),lN,?_⟩ lN
   dsimp only
   rw [mooreR_succ,← List.append_assoc]
   exact (hrs.mono fun _ _=>ListR.mono (hle12.trans hle13)).append ⟨ListR.mono hle13 hi46,trivial⟩
  ·have hkn : k = 3 * n:=oM
   subst hkn
   refine xI (tX (tX (bX (tN (sQ (fS fun g14 hle14 hs14=>?_))))))
   have hov : Lists g14 ov (mooreL n):=⟨rs,hs14,hrs.mono fun _ _=>ListR.mono hle14⟩
   refine rG (lM I (lW (SO.call call59 I (complexOf_spec E g14 _ _ _ hov (by rw [mooreL_eq,List.length_append,List.length_append,mooreK_length,mooreR_length,show moore0.length = 7 from I]; omega) (mooreL_fine n hn))) ?_))
   rintro _ g15 _ ⟨rfl,hle15,u,rfl,hu⟩
   obtain ⟨q9,d9,rfl⟩:=hu.form
   refine SL.O2 (sK 0 zT29 I I I I I sB) ?_
   refine SL.nT (rE ?_)
   exact ST.retCD 0 s (.inl I) results61 I iT29 zT29 I I (.cons _ (.refl _)) ⟨I,hle.trans (hle14.trans hle15),_,I,hu⟩
end Go.Proofs.YteahknngoogpaaaGreatDoor
