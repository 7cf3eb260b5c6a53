/- 16 -/
import Derived.Test.YtbbppeihhkhkcaaGreatDoorAn15
set_option linter.unusedSimpArgs false
set_option linter.unusedVariables false
namespace Go.Proofs.YtbbppeihhkhkcaaGreatDoor
open _root_.Go.Proofs.Tryz _root_.Go.Proofs.YtbbppeihhkhkcaaGreatDoor.Tryz
open Go Go.Sy Go.Pl Go.Proofs Go.Shelf Go.Sort
set_option maxRecDepth 100000
set_option maxHeartbeats 4000000
theorem CD (E:World)(g:PH)(s:Own)(v:Value)(l:List Cl)(R:ai g v l)(P:aJ l) :
  Ctr Tryz.prog E 53 #[.agg #[v]] g s (fun r g' s'=>Le g g'∧∃ v ds,r = .agg #[v]∧s'=rowA encCell 56 v ds::s∧ax (an g') (aa l) ds):=by
 obtain ⟨rs,B,t⟩:=R;have Q:=t.length;have S:=P.1;have w:=ax.sortBy (f:=Cl.id) (h:=Rc.id) (fun a b h=>h.1.symm) t;obtain ⟨p,c,rfl⟩:=za4 B;refine zb2 (args:=[.agg #[.slice p rs.length c]]) func53 I ntmps53 (bE I)<|rZ (bW (bO I) fun b1=>?_);refine bW (aL zl9) fun b2=>tZ<|rZ<|lU (fA dn I cq I)<|SL.K (qL eh I<|cO 1 I I)<|lW (SO.call call117 I<|AW E g _ _ 118 #[] Rc.id (FH E g) rs B oM) ?_;rintro r3 _ _ ⟨rfl,rfl⟩;refine zd4 fun ⟨w0,z⟩=>?_;obtain ⟨q,d,rfl⟩:=ag (i:=0) z rfl;have H:0<(sortBy Rc.id rs).length→based (.slice q (sortBy Rc.id rs).length d)=true:=fun h=>(by obtain ⟨b0,c0,T⟩:=bw (i:=0) z rfl h; rw[T]; rfl);clear z w0;refine aT I<|sQ<|sW I<|lU (eN aB I)<|lM I<|tZ<|bK ?_;have U:(sortBy Rc.id rs).length=rs.length:=ez rs;refine oP (ι:=PH×List Rc×List Rc×List Cl×List Cl) (fun i=>[(2,pp b2 0),(3,.slice q (sortBy Rc.id rs).length d),(9,vi (sortBy Rc.id rs).length),(10,vi i.2.1.length)]) (fun i=>i.1)
  (fun i=>rowA encCell 56 (.slice q (sortBy Rc.id rs).length d) (i.2.1++i.2.2.1)::pt b2 (.cells #[.slice none 0 0] 29 (0,0))::pt b1 (.cells #[.slice p rs.length c] 29 (0,0))::s)
  (fun i=>Le g i.1∧ax (em<|mns i.1 g) i.2.2.2.1 i.2.1∧ax (an g) i.2.2.2.2 i.2.2.1∧aa l=i.2.2.2.1++i.2.2.2.2.map ci∧(i.2.1.length+i.2.2.1.length=(sortBy Rc.id rs).length∧∀ x∈i.2.2.2.2,x∈l)) (fun i=>i.2.2.1.length)
  (g,[],sortBy Rc.id rs,[],sortBy Cl.id l) sB rfl rfl ⟨zb9 g,trivial,w,by simp[aa],by simp,fun x V=>(fD l x).1 V⟩ ?_
 rintro ⟨g1,ds,rest,dl,rl⟩ ⟨j,hd,hr,k,e,m⟩;dsimp only at j hd hr k e m ⊢;have W:=hr.length;refine rZ<|yL I<|tZ<|sQ<|iP I (fun J=>?_) (fun J=>?_)
 ·cases rest with
  | nil=>simp at e; omega
  | cons x rest =>
  obtain ⟨cx,L,C,A,M⟩:=hr.cons_right;subst C;have N:cx.sides.length<1099511627776:=P.2 cx (m cx (by simp));simp only[zf1] at e;have D:(ds++x::rest)[((ds.length:Nat):Int).toNat]?=some x:=bM oM;have n:based (.slice q (sortBy Rc.id rs).length d)=true:=H oM;refine kP (tN (sQ (bK (sW I (aT I (rG (lM I (lM I (lM I (lM I (lU (iA aB aw I I n oM sL) (lU (fC ao I aM I n) (SL.K (aZ (o:=2) br I (zb7 0 I) D I) (lW (SO.call call119 I (AV E g1 _ _ 120 #[] ak.cell (Bb E g1) cx.sides (A.2.2.mono j) N)) ?_))))))))))))));rintro r20 _ _ ⟨rfl,rfl⟩;refine SL.freezeRowK fun g2 u F=>?_;obtain ⟨q2,d2,rfl⟩:=F.form;refine lU (iA aB aw I I n oM sL) (lU (fC ao I aM I n) (oZ (SO.partA (o:=2) 0 ⟨x.id,x.dim,q2,_,d2⟩ aM I I I D I I dC I) (SL.nil (bN (tN (rG (yD I (lM I (SL.nil ?_)))))))));exact ST.again (g2,ds++[⟨x.id,x.dim,q2,(sortBy ak.cell cx.sides).length,d2⟩],rest,dl++[ci cx],L) ⟨I,I,I,bD lN,trivial⟩ I (by
    dsimp only;rw[show (ds++x::rest).set ((ds.length:Nat):Int).toNat ⟨x.id,x.dim,q2,(sortBy ak.cell cx.sides).length,d2⟩=ds++[⟨x.id,x.dim,q2,(sortBy ak.cell cx.sides).length,d2⟩]++rest by rw[dN oM]; simp];rfl) ⟨j.trans u,(hd.mono fun _ _=>em.mono (ik u)).append ⟨(by exact⟨A.1,A.2.1,F.mono (jU j)⟩:em (mns g2 g) (ci cx) ⟨x.id,x.dim,q2,(sortBy ak.cell cx.sides).length,d2⟩),trivial⟩,M,by rw[k]; simp,lN,fun y X=>m y (by simp[X])⟩ lN
 ·have O:rest=[]:=zf6 oM;subst O;have G:rl=[]:=hr.nil_right;subst G;refine xI<|tX<|tX<|bX<|tN<|sW I<|lU (za3 I<|build29 _ I)<|oZ (sK 1 ae I I I I I sB)<|tZ<|rE<|ST.retCD 1 (rowA encCell 56 (.slice q (sortBy Rc.id rs).length d) (ds++[])::s) (.inl I) results53 I aj ae I I (.cons_cons _<|.cons _<|.cons _<|.refl _) ⟨j,_,_,I,I,?_⟩;rw[k,zc7];simpa using hd.mono fun _ _ h=>h.cr<|fw _ _
def Tryz.sortCl_ren:Ren :=
 {
  f:=fun x =>
   match x with
   | 6=>86
   | 15=>156
   | 14=>155
   | 28=>209
   | 29=>210
   | 20=>201
   | 21=>202
   | 22=>203
   | 23=>204
   | 24=>205
   | 25=>206
   | 26=>207
   | 27=>208
   | 46=>258
   | 47=>259
   | 48=>260
   | 49=>261
   | 50=>262
   | 57=>282
   | n=>n,
  t:=fun x =>
   match x with
   | 22=>27
   | 24=>56
   | 25=>140
   | 3=>3
   | 39=>203
   | 0=>0
   | 53=>239
   | 55=>145
   | 4=>4
   | 46=>233
   | 45=>232
   | 50=>149
   | 5=>5
   | 9=>9
   | 66=>270
   | 70=>274
   | 76=>292
   | 77=>293
   | n=>n,
  g:=fun x =>
   have n:=x;
   n }
theorem Tryz.sortCl:SlLaysF0.n6 Tryz.prog Tryz.sortCl_ren :=
  {
  mixed:=Eq.refl true,
  f6 :=
   Exists.intro "slices.SortFunc[[]cocycle/api.Cell,cocycle/api.Cell]"
    ⟨zg5 (id (Eq.refl true)),
     zb8 func86
      (ze4 some
       kR)⟩,
  f14 :=
   Exists.intro "slices.pdqsortCmpFunc[cocycle/api.Cell]"
    ⟨zg5 (id (Eq.refl true)),
     zb8 func155
      (ze4 some
       kR)⟩,
  f15:=zb8 func156<|ze4 some kR,
  f20 :=
   Exists.intro "slices.insertionSortCmpFunc[cocycle/api.Cell]"
    ⟨zg5 (id (Eq.refl true)),
     zb8 func201
      (ze4 some
       kR)⟩,
  f21 :=
   Exists.intro "slices.heapSortCmpFunc[cocycle/api.Cell]"
    ⟨zg5 (id (Eq.refl true)),
     zb8 func202
      (ze4 some
       kR)⟩,
  f22 :=
   Exists.intro "slices.breakPatternsCmpFunc[cocycle/api.Cell]"
    ⟨zg5 (id (Eq.refl true)),
     zb8 func203
      (ze4 some
       kR)⟩,
  f23 :=
   Exists.intro "slices.choosePivotCmpFunc[cocycle/api.Cell]"
    ⟨zg5 (id (Eq.refl true)),
     zb8 func204
      (ze4 some
       kR)⟩,
  f24 :=
   Exists.intro "slices.reverseRangeCmpFunc[cocycle/api.Cell]"
    ⟨zg5 (id (Eq.refl true)),
     zb8 func205
      (ze4 some
       kR)⟩,
  f25 :=
   Exists.intro "slices.partialInsertionSortCmpFunc[cocycle/api.Cell]"
    ⟨zg5 (id (Eq.refl true)),
     zb8 func206
      (ze4 some
       kR)⟩,
  f26 :=
   Exists.intro "slices.partitionEqualCmpFunc[cocycle/api.Cell]"
    ⟨zg5 (id (Eq.refl true)),
     zb8 func207
      (ze4 some
       kR)⟩,
  f27 :=
   Exists.intro "slices.partitionCmpFunc[cocycle/api.Cell]"
    ⟨zg5 (id (Eq.refl true)),
     zb8 func208
      (ze4 some
       kR)⟩,
  f28:=zb8 func209<|ze4 some kR,
  f29:=zb8 func210<|ze4 some kR,
  f46 :=
   Exists.intro "slices.siftDownCmpFunc[cocycle/api.Cell]"
    ⟨zg5 (id (Eq.refl true)),
     zb8 func258
      (ze4 some
       kR)⟩,
  f47:=zb8 func259<|ze4 some kR,
  f48:=zb8 func260<|ze4 some kR,
  f49 :=
   Exists.intro "slices.medianAdjacentCmpFunc[cocycle/api.Cell]"
    ⟨zg5 (id (Eq.refl true)),
     zb8 func261
      (ze4 some
       kR)⟩,
  f50 :=
   Exists.intro "slices.medianCmpFunc[cocycle/api.Cell]"
    ⟨zg5 (id (Eq.refl true)),
     zb8 func262
      (ze4 some
       kR)⟩,
  f57 :=
   Exists.intro "slices.order2CmpFunc[cocycle/api.Cell]"
    ⟨zg5 (id (Eq.refl true)),
     zb8 func282
      (ze4 some
       kR)⟩,
  t0:=uT0,a0:=isAgg0,z0:=sizeOf0,v0:=zl6,t3:=uT3,
  a3:=iT3,z3:=zT3,v3:=zm4,t4:=uT4,a4:=isAgg4,
  z4:=zT4,v4:=zl5,t5:=uT5,a5:=isAgg5,z5:=sizeOf5,
  v5:=zeroValue5,t9:=uT9,a9:=isAgg9,z9:=sizeOf9,v9:=zeroValue9,
  t22:=aB,a22:=eh,z22:=cq,v22:=zeroValue27,
  t25:=underlying140,a25:=isAgg140,z25:=sizeOf140,v25:=zeroValue140,
  t39:=jN,a39:=isAgg203,z39:=sizeOf203,v39:=zeroValue203,
  t45:=underlying232,a45:=isAgg232,z45:=sizeOf232,v45:=zeroValue232,
  t46:=underlying233,a46:=isAgg233,z46:=sizeOf233,v46:=zeroValue233,
  t50:=underlying149,a50:=isAgg149,z50:=sizeOf149,v50:=zeroValue149,
  t53:=underlying239,a53:=isAgg239,z53:=sizeOf239,v53:=zeroValue239,
  t55:=nj,a55:=isAgg145,z55:=sizeOf145,v55:=zeroValue145,
  t66:=underlying270,a66:=isAgg270,z66:=sizeOf270,v66:=zeroValue270,
  t70:=underlying274,a70:=isAgg274,z70:=sizeOf274,v70:=zeroValue274,
  t76:=underlying292,a76:=isAgg292,z76:=sizeOf292,v76:=zeroValue292,
  t77:=underlying293,a77:=isAgg293,z77:=sizeOf293,v77:=zeroValue293 }
instance inhRc:Inhabited Rc:=⟨⟨0,0,⟨none,0,0⟩⟩⟩
def EE (x y:Rc):Int:=orI [ie x.dim y.dim,ie x.id y.id]
theorem lD (x y:Rc):EE x y<0↔x.dim<y.dim∨(x.dim=y.dim∧x.id<y.id):=by
 unfold EE orI orI orI ie;split <;> split <;> (try split)<;>(try split)<;>simp_all <;> omega
theorem swoD:SWO (ltOf EE):=⟨fun x=>by simp[ltOf,lD],fun x y z a b=>by simp[ltOf,lD] at *; omega,fun x y z a b=>by simp[ltOf,lD] at *; omega⟩
theorem Dr {l:List Rc}(h:l.Pairwise fun a b=>a.id<b.id){x y:Rc}(c:x∈l)(g:y∈l)(d:x.id=y.id):x=y:=by
 induction l with
 | nil=>cases c
 | cons a l ih =>
  rw[zk5] at h
  rcases zf3.1 c with e1 | e <;> rcases zf3.1 g with e2 | f
  ·rw[e1,e2]
  ·have:=h.1 y f; rw[e1] at d; omega
  ·have:=h.1 x e; rw[e2] at d; omega
  ·exact ih h.2 e f
theorem zx {l l':List Rc}(f:l'.Perm l)(m:l'.Pairwise fun x y=>¬ EE y x<0)(d:l.Pairwise fun a b=>a.id<b.id):l'=sortBy Rc.dim l:=by
 refine bI (m.imp fun h=>by rw[lD] at h; omega) ⟨f.length_eq,fun c=>?_⟩;refine (f.filter _).eq_of_pairwise (le:=fun x y=>x.dim=y.dim→¬ y.id<x.id) (fun x y n o p q=>?_) ?_ ?_
 ·obtain ⟨g,i⟩:=zh6.1 n;obtain ⟨j,k⟩:=zh6.1 o;have e1:x.dim=c:=by simpa using i
  have e2:y.dim=c:=by simpa using k
  have r:=p oM;have s:=q oM;exact Dr d (f.subset g) j oM
 ·exact (m.filter _).imp fun h e=>by rw[lD] at h; omega
 ·exact (d.filter _).imp fun h _=>by omega
theorem DZ:GA Tryz.prog 87 encCell.enc EE:=by
 intro E g s x y;obtain ⟨x1,x2,⟨xp,xn,xc⟩⟩:=x;obtain ⟨y1,y2,⟨yp,yn,yc⟩⟩:=y;refine zb2 (args:=[.agg #[vi x1,vi x2,.slice xp xn xc],.agg #[vi y1,vi y2,.slice yp yn yc]]) func87 I ntmps87 (bE I)<|rZ (bW (bO I) fun b2=>?_);refine bW (bO I) fun b3=>aT I<|sQ<|dW [] [(0,2),(1,1),(2,2),(3,1),(5,2),(6,1),(7,2),(8,1),(4,0),(9,0),(10,0),(11,0),(12,2)] ze5 kR<|pU I (fA ao I zT3 I)<|pK I (qL (v:=vi x2) iT3 I<|cO 1 I I)<|pU I (fA ao I zT3 I)<|pK I (qL (v:=vi y2) iT3 I<|cO 0 I I)<|pU I (fA ao I zT3 I)<|pK I (qL (v:=vi x1) iT3 I<|cO 1 I I)<|pU I (fA ao I zT3 I)<|pK I (qL (v:=vi y1) iT3 I<|cO 0 I I)<|SP.o I (SO.call call90 I<|dH E g _ x2 y2) dC (.inr iR) ?_;rintro _ _ _ ⟨rfl,rfl,rfl⟩;refine SP.o I (SO.call call90 I<|dH E g _ x1 y1) dC (.inr iR) ?_;rintro _ _ _ ⟨rfl,rfl,rfl⟩;refine SP.o I (bS sty52 I I I (ab sB) dC) dC (.inr iR) ?_;rintro _ _ _ ⟨a,rfl,rfl,rfl⟩;refine SP.o I (SO.call call157 I<|A5 E g _ _ [ie x2 y2,ie x1 y1] (Rd.pt 0 I) ⟨_,_,I⟩ (fun _=>I) (by simp)) dC (.inr iR) ?_;rintro _ _ _ ⟨rfl,rfl,rfl⟩;exact pU I (aS I)<|pN<|tN<|rE<|dR (s':=s) uR<|za8 (.inl I) results87 I ⟨I,I,I⟩
theorem zA (E:World)(g:PH)(s:Own)(v:Value)(l:List Rc)(i:Nat)(d:s[i]?=some (rowA encCell 56 v l))(hl:l.length<1099511627776)(c:l.Pairwise fun a b=>a.id<b.id) :
  Ctr Tryz.prog E 86 #[v,.func (.func 87) #[] #[]] g s (fun _ g' s'=>g=g'∧s'=s.set i (rowA encCell 56 v<|sortBy Rc.dim l)) :=
 (xO Tryz.sortCl encCell dT aw EE swoD 87 call87 DZ 56 E g s v l i d hl).mono fun _ _ _ ⟨e,l',f,j,k⟩=>⟨e,by rw[k,zx f j c]⟩
def EK (E:World)(cv:Value)(pr:Rc→Bool)(g:PH):Prop:=∀ s x,cz Tryz.prog E cv [.agg (encCell.enc x).toArray] g s (fun r g' s'=>r=vb (pr x)∧g=g'∧s=s')
theorem Fn {r:Value}{l:List Rc}{pr:Rc→Bool}(h:(r=vi (-1)∧∀ x∈l,pr x=false)∨∃ (A:List Rc) (x:Rc) (R:List Rc),l=A++x::R∧r=vi A.length∧(∀ y∈A,pr y=false)∧pr x=true):∃ n:Int,r=vi n:=by
 rcases h with ⟨h,_⟩ | ⟨_,_,_,_,h,_⟩
 ·exact⟨_,h⟩
 ·exact⟨_,h⟩
theorem zZ (E:World)(g:PH)(s:Own)(v cv:Value)(l:List Rc)(pr:Rc→Bool)(d:EK E cv pr g)(hl:l.length<1099511627776) :
  Ctr Tryz.prog E 154 #[v,cv] g (rowA encCell 56 v l::s) (fun r g' s'=>g=g'∧s'=rowA encCell 56 v l::s∧((r=vi (-1)∧∀ x∈l,pr x=false)∨∃ A x R,l=A++x::R∧r=vi A.length∧(∀ y∈A,pr y=false)∧pr x=true)):=by
 refine Ctr.facts fun ⟨w0,e⟩=>?_;obtain ⟨p,c,rfl⟩:=ag (i:=0) e rfl;have m:=fun h=>rT (i:=0) e rfl h;clear e w0;refine zb2 (args:=[.slice p l.length c,cv]) func154 I ntmps154 (bE I)<|rZ<|aT I<|sQ<|sW I<|lU (eN aB I)<|lM I<|tZ<|bK<|oP (ι:=Nat) (fun k=>[(0,.slice p l.length c),(1,cv),(7,vi l.length),(8,vi k)]) (fun _=>g) (fun _=>rowA encCell 56 (.slice p l.length c) l::s) (fun k=>k≤l.length∧∀ y∈l.take k,pr y=false) (fun k=>l.length - k) 0
  sB rfl rfl ⟨zf8 _,by simp⟩ ?_
 rintro k ⟨B,a⟩;refine rZ<|yL I<|tZ<|sQ<|iP I (fun n=>?_) (fun n=>?_)
 ·have f:k<l.length:=oM;obtain ⟨b,cap,rfl,rfl,z⟩:=m oM;have o:l[((k:Nat):Int).toNat]?=some l[k]:=List.getElem?_eq_getElem f;have q:l.take (k+1)=l.take k++[l[k]]:=tS f;have t:l=l.take k++l[k]::l.drop (k+1):=by rw[← zg8 f,zj4]
  generalize l[k]=x at *;refine kP<|tN<|sQ<|bK<|sW I<|aT I<|sW I<|lM I<|lM I<|lU (iA aB aw I I I oM sL)<|SL.K (SQ.elemA dT aw I (zb7 0 I) o)<|lW (SO.callV I I<|d _ x) ?_;rintro _ _ _ ⟨rfl,rfl,rfl⟩;refine tZ<|iQ I (fun u=>?_) (fun u=>?_)
  ·exact sW I<|aT I<|rE<|bR<|tR<|tR<|bR<|tR<|za8 (.inl I) results154 I ⟨I,I,.inr ⟨l.take k,x,l.drop<|k+1,t,by rw[ze6,Nat.min_eq_left B],a,u⟩⟩
  ·refine kP (bN (tN (rG (yD I (lM I (SL.nil ?_))))));exact ST.again (k+1) sB I I ⟨oM,fun y j=>by
    rw[q,zf5] at j
    rcases j with j | j
    ·exact a y j
    ·rw[zh9.1 j];simpa using u⟩ oM
 ·refine xI<|tX<|tX<|bX<|tN<|rZ<|aT I<|rE ?_;have w:l.take k=l:=tL oM;rw[w] at a;exact za8 (.inl I) results154 I ⟨I,I,.inl ⟨I,a⟩⟩
theorem xg (E:World)(g:PH)(s:Own)(v cv:Value)(l:List Rc)(pr:Rc→Bool)(d:EK E cv pr g)(hl:l.length<1099511627776) :
  Ctr Tryz.prog E 84 #[v,cv] g (rowA encCell 56 v l::s) (fun r g' s'=>g=g'∧s'=rowA encCell 56 r (l.filter fun x=>!pr x)::s):=by
 refine Ctr.facts fun ⟨w0,m⟩=>?_;obtain ⟨p,c,rfl⟩:=ag (i:=0) m rfl;have u:=fun h=>rT (i:=0) m rfl h;clear m w0;refine zb2 (args:=[.slice p l.length c,cv]) func84 I ntmps84 (bE I)<|rZ<|aT I<|sW I<|lM I<|lW (SO.call call154 I<|zZ E g s _ cv l pr d hl) ?_;rintro r10 _ _ ⟨rfl,rfl,e⟩;obtain ⟨n,rfl⟩:=Fn e;refine aT I<|sQ<|sW I<|yE I<|tZ<|iP I (fun T=>?_) (fun T=>?_)
 ·rcases e with ⟨G,t⟩ | ⟨A,x,R,G,t,O,P⟩
  ·exact sW I<|aT I<|rE<|tR<|za8 (.inl I) results84 I ⟨I,by rw[List.filter_eq_self.2 fun x H=>by rw[t x H]; rfl]⟩
  ·exact absurd (Value.int.inj t).2 oM
 ·rcases e with ⟨G,t⟩ | ⟨A,x,R,o,t,O,P⟩
  ·exact absurd (Value.int.inj G).2 oM
  obtain rfl:n=A.length:=(Value.int.inj t).2;have Q:l.length=A.length+1+R.length:=by rw[o]; simp; omega
  obtain ⟨b,cap,rfl,rfl,S⟩:=u oM;have U:l.filter (fun x=>!pr x)=A++R.filter (fun x=>!pr x):=by
   rw[o,zh8,List.filter_cons_of_neg (by rw[P]; simp),List.filter_eq_self.2 fun x H=>by rw[O x H]; rfl]
  refine kP<|tN<|sQ<|sW I<|yD I<|aT I<|bK<|oP (ι:=List Rc×List Rc×Rc×List Rc) (fun i=>[(0,.slice (some ⟨b,0,none⟩) l.length<|cap+1),(1,cv),(5,vi i.1.length),(6,vi<|i.1.length+i.2.1.length+1)]) (fun _=>g)
   (fun i=>rowA encCell 56 (.slice (some ⟨b,0,none⟩) l.length<|cap+1) (i.1++(i.2.1++[i.2.2.1])++i.2.2.2)::s)
   (fun i=>l.filter (fun x=>!pr x)=i.1++i.2.2.2.filter (fun x=>!pr x)∧i.1.length+i.2.1.length+1+i.2.2.2.length=l.length) (fun i=>i.2.2.2.length)
   (A,[],x,R) sB rfl (by dsimp only; rw[o]; simp) ⟨U,by dsimp only; simp; omega⟩ ?_
  rintro ⟨D,J0,z,R'⟩ ⟨F,k⟩;dsimp only at F k ⊢;have V:(D++(J0++[z])++R').length=l.length:=lN;refine sQ<|sW I<|lM I<|lU (eN aB I)<|yL I<|tZ<|iP I (fun L=>?_) (fun L=>?_)
  ·cases R' with
   | nil=>simp at k; omega
   | cons y R2 =>
   simp only[zf1] at k;have M:(D++(J0++[z])++y::R2)[((D.length:Nat)+(J0.length:Nat)+1:Int).toNat]?=some y:=bM lN;obtain ⟨y1,y2,⟨yp,yn,yc⟩⟩:=y;refine kP (tN<|sQ<|bK<|sW I<|lM I<|lU (iA aB aw I I I oM sL)<|SL.K (SQ.elemA dT aw I (zb7 0 I) M)<|bW (aL zl7) fun b7=>?_);refine oZ (sK 0 aw I I I I I sB)<|tZ<|sW I<|SL.K (qV 0 dT aw I I I)<|lW (SO.callV I I<|d _ ⟨y1,y2,⟨yp,yn,yc⟩⟩) ?_;rintro _ _ _ ⟨rfl,rfl,rfl⟩;refine lU (SU.not I)<|tZ<|iQ I (fun q=>?_) (fun q=>?_)
   ·have B:pr ⟨y1,y2,⟨yp,yn,yc⟩⟩=false:=by simpa using q
    refine sW I<|lM I<|SL.K (qV 0 dT aw I I I)<|lU (iA aB aw I I I oM sL)<|oZ (SO.setA (a:=⟨y1,y2,⟨yp,yn,yc⟩⟩) 1 aw I I I lN I)<|tZ<|rG<|lM I<|yD I<|lA I<|SL.nil<|bN<|tN<|rG<|lM I<|yD I<|lA I<|SL.nil ?_;generalize (⟨y1,y2,⟨yp,yn,yc⟩⟩:Rc)=y at *;have f:∃ J',(D++(J0++[z])++y::R2).set ((D.length:Nat):Int).toNat y=(D++[y])++(J'++[y])++R2∧J'.length=J0.length:=by
     cases J0 with
     | nil=>exact⟨[],by rw[show D++([]++[z])++y::R2=D++z::y::R2 by simp,dN oM]; simp,rfl⟩
     | cons j J1=>exact⟨J1++[z],by rw[show D++(j::J1++[z])++y::R2=D++j::(J1++[z]++y::R2) by simp,dN oM]; simp,by simp⟩
    obtain ⟨J',f,W⟩:=f;refine ST.to (fun w C=>?_) (g':=g) (s':=rowA encCell 56 (.slice (some ⟨b,0,none⟩) l.length<|cap+1) ((D++[y])++(J'++[y])++R2)::s) ?_
    ·rw[← f]; exact C.sublist<|.cons _<|.refl _
    exact ST.again (D++[y],J',y,R2) ⟨I,I,bD lN,bD lN,trivial⟩ I I ⟨by rw[F]; dsimp only; rw[List.filter_cons_of_pos (by rw[B]; rfl)]; simp,lN⟩ lN
   ·have N:pr ⟨y1,y2,⟨yp,yn,yc⟩⟩=true:=by simpa using q
    refine kP<|bN<|tN<|rG<|lM I<|yD I<|lA I<|SL.nil ?_;generalize (⟨y1,y2,⟨yp,yn,yc⟩⟩:Rc)=y at *;refine ST.to (fun w C=>?_) (g':=g) (s':=rowA encCell 56 (.slice (some ⟨b,0,none⟩) l.length<|cap+1) (D++((J0++[z])++[y])++R2)::s) ?_
    ·rw[show D++((J0++[z])++[y])++R2=D++(J0++[z])++y::R2 by simp]; exact C.sublist<|.cons _<|.refl _
    exact ST.again (D,J0++[z],y,R2) ⟨I,I,I,bD lN,trivial⟩ I I ⟨by rw[F]; dsimp only; rw[List.filter_cons_of_neg (by rw[N]; simp)],lN⟩ lN
  ·have X:R'=[]:=zf6 oM;subst X;simp only[zc5] at k;refine xI<|tX<|tX<|bX<|tN<|rZ ?_;refine SL.to (fun w C=>At.shrink (i:=0) (D:=D) (J:=J0++[z]) C (by rw[zc7]; rfl) rfl) ?_;refine lM I<|lM I<|lU (SU.eq (v':=.slice (some ⟨b,D.length * 3,none⟩) (l.length - D.length)<|cap+1 - D.length) (SU.sliceL aB aw I I oM oM)<|by rw[Int.toNat_natCast,oa oM,Nat.zero_add]) ?_;refine lO (SO.clearA (D:=D) 0 sty27 (mD (l:=[vi 0,vi 0,.slice none 0 0]) sB) I I I oM) ?_;rintro _ _ _ ⟨rfl,rfl⟩;refine tZ<|sW I<|lM I<|lU (SU.eq (v':=.slice (some ⟨b,0,none⟩) D.length<|cap+1) (SU.sliceH aB aw I I oM oM) (by rw[Int.toNat_natCast]; exact CR)) ?_;refine aT I<|rE ?_;exact za8 (.inl I) results84 I ⟨I,by rw[F]; simp⟩
open Go Go.Sy Go.Pl Go.Proofs
theorem Et {g:PH}:∀ {A:List Cl} {rs:List Rc},ax (an g) A rs→rs.map Rc.id=A.map Cl.id
 | [],[],_=>rfl
 | [],_::_,h=>False.elim h
 | _::_,[],h=>False.elim h
 | a::A,r::rs,h=>by rw[zg6,zg6,h.1.1,Et h.2]
theorem Gg {g:PH}{A:List Cl}{rs:List Rc}(h:ax (an g) A rs)(d:A.Pairwise fun a b=>a.id<b.id):rs.Pairwise fun a b=>a.id<b.id:=by
 have c:(A.map Cl.id).Pairwise (· < ·):=zk6.2 d;rw[← Et h] at c;exact zk6.1 c
theorem uD {g:PH}(p:Int→Bool):∀ {A:List Cl} {rs:List Rc},ax (an g) A rs→ax (an g) (A.filter fun c=>p c.id) (rs.filter fun r=>p r.id)
 | [],[],_=>trivial
 | [],_::_,h=>False.elim h
 | _::_,[],h=>False.elim h
 | a::A,r::rs,h=>by
  have ih:=uD p h.2;rw[zi9,zi9,h.1.1];split
  ·exact⟨h.1,ih⟩
  ·exact ih
theorem GF (E:World)(g:PH)(b m:Nat)(rs:List Rc)(K:List Cl)(hb:g b=some (.cells #[.map<|some m] 126 (0,0)))(hm:Mp g m (rs.map aq))(a:ax (an g) K rs):EK E (.func (.func 85) #[] #[pp b 0]) (fun x=>(ah K x.id).isSome) g:=by
 intro s x;refine cz.mk (args:=[_]) (cap:=[pp b 0]) call85 ?_;obtain ⟨x1,x2,⟨xp,xn,xc⟩⟩:=x;obtain ⟨⟨yi,yd,yp,yn,yc⟩,c,d,-⟩:=dD a gW x1;have e:(ex (rs.map aq) x1).isSome=(ah K x1).isSome:=d;refine zb2 (args:=[.agg #[vi x1,vi x2,.slice xp xn xc],pp b 0]) func85 I ntmps85 (bE I)<|rZ (bW (bO I) fun b2=>?_);refine aT I<|rZ<|SL.K (qL (v:=.map<|some m) bl I<|cK hb I)<|lU (fA ao I zT3 I)<|SL.K (qL (v:=vi x1) iT3 I<|cO 0 I I)<|SL.K (SQ.eq (v':=.tuple #[.agg #[vi yi,vi yd,.slice yp yn yc],vb (ah K x1).isSome]) (SQ.lookupOk mty126 I I<|bh.known hm) (by rw[c,e]; rfl)) ?_;refine lM I (yX I<|yX I<|bW (aL zl7) fun b4=>?_);exact oZ (sK 0 aw I I I I I sB)<|aT I<|sW I<|aT I<|rE<|dR (s':=s) uR<|za8 (.inl I) results85 I ⟨I,I,I⟩
theorem yy (E:World)(g:PH)(s:Own)(b m:Nat)(rs:List Rc)(K:List Cl)(v:Value)(l:List Cl)(hb:g b=some (.cells #[.map<|some m] 126 (0,0)))(hm:Mp g m (rs.map aq))(j:ax (an g) K rs)(o:ai g v l)(p:aJ l)(k:(aa l).Pairwise fun a b=>a.id<b.id) :
  Ctr Tryz.prog E 83 #[.agg #[v],pp b 0] g s (fun r g' s'=>Le g g'∧∃ ds,s'=rowA encCell 56 r ds::s∧ax (an g') (sortBy Cl.dim<|(aa l).filter fun c=>!(ah K c.id).isSome) ds):=by
 obtain ⟨q,d,rfl⟩:=o.form;refine zb2 (args:=[.agg #[.slice q l.length d],pp b 0]) func83 I ntmps83 (bE I)<|rZ (bW (bO I) fun b2=>?_);refine aT I<|rZ<|SL.K (qV 0 aj ae I I I)<|lW (SO.call call53 I<|CD E g _ _ l o p) ?_;rintro _ g1 _ ⟨e,v1,ds,rfl,rfl,i⟩;have t:=i.length;have u:=(aA p).1;have n:=Gg i k;have w:=zc6 (fun x:Rc=>!(ah K x.id).isSome) ds;refine lU (SU.field dn I eh I I)<|lU (SU.mkFunc I)<|lW (SO.call call84 I<|xg E g1 _ v1 _ ds (fun x=>(ah K x.id).isSome) (GF E g1 b m rs K (e _ _ hb) (Mp.mono hm e)<|j.mono fun _ _=>an.mono e) oM) ?_;rintro r9 _ _ ⟨rfl,rfl⟩;refine aT I<|sW I<|lW (SO.call call86 I<|zA E g1 _ r9 _ 0 I oM<|n.filter _) ?_;rintro _ _ _ ⟨rfl,rfl⟩;exact tZ<|sW I<|aT I<|rE<|dR (s':=rowA encCell 56 r9 (sortBy Rc.dim<|ds.filter fun x=>!(ah K x.id).isSome)::s) (.cons_cons _<|.cons _<|.refl _)<|za8 (.inl I) results83 I ⟨e,_,I,ax.sortBy (f:=Cl.dim) (h:=Rc.dim) (fun a b h=>h.2.1.symm)<|uD (fun id=>!(ah K id).isSome) i⟩
theorem Ft (E:World)(g:PH):nr E (.func (.func 89) #[] #[]) encCell (fun x:Rc=>-x.dim) g:=by
 intro g' s x y a;refine cz.mk (args:=[_,_]) (cap:=[]) call89 ?_;obtain ⟨x1,x2,⟨xp,xn,xc⟩⟩:=x;obtain ⟨y1,y2,⟨yp,yn,yc⟩⟩:=y;have b:ie (-x2) (-y2)=ie y2 x2:=by unfold ie; split <;> split <;> (try split)<;>(try split)<;>omega
 dsimp only;rw[b];refine zb2 (args:=[.agg #[vi x1,vi x2,.slice xp xn xc],.agg #[vi y1,vi y2,.slice yp yn yc]]) func89 I ntmps89 (bE I)<|rZ (bW (bO I) fun b2=>?_);refine bW (bO I) fun b3=>aT I<|rZ<|lU (fA ao I zT3 I)<|SL.K (qL (v:=vi y2) iT3 I<|cO 0 I I)<|lU (fA ao I zT3 I)<|SL.K (qL (v:=vi x2) iT3 I<|cO 1 I I)<|lW (SO.call call90 I<|dH E g' _ y2 x2) ?_;rintro _ _ _ ⟨rfl,rfl,rfl⟩;exact aT I<|rE<|dR (s':=s) uR<|za8 (.inl I) results89 I ⟨I,I,I⟩
theorem CC {l M:List Cl}(h:Rt l)(a:M.Sublist l):aa M=M:=by
 unfold aa;rw[(bI (key:=Cl.id) ((h.asc.sublist a).imp fun h=>by omega)<|aI.refl M).symm];have:∀ c∈M,ci c=c:=fun c b=>by
  unfold ci;rw[(bI (key:=ak.cell) ((h.form c<|a.subset b).asc.imp fun h=>by omega)<|aI.refl c.sides).symm]
 rw[zc9 this];simp
theorem Bu (l:List Cl):sortBy (fun c:Cl=>-c.dim) (sortBy Cl.dim l)=sortBy (fun c:Cl=>-c.dim) l:=by
 have b:aI (fun c:Cl=>-c.dim) l (sortBy Cl.dim l):=by
  refine⟨(co (key:=Cl.dim) l).1,fun c=>?_⟩;have h:=(co (key:=Cl.dim) l).2<|-c;have e:(fun a:Cl=>-a.dim == c)=fun a:Cl=>a.dim == -c:=funext fun a=>by rw[Bool.eq_iff_iff]; simp; omega
  rw[e];exact h
 exact bI (di _)<|b.trans<|co _
theorem mW {α:Type}(key:α→Int)(l:List α):(sortBy key l).length=l.length:=(co (key:=key) l).1
theorem pO (E:World)(g:PH)(s:Own)(va vb':Value)(A B:List Cl)(ha:ai g va A)(hb:ai g vb' B)(fa:aJ A)(fb:aJ B)(ra:(ap A).2=0)(rb:(ap B).2=0) :
  Ctr Tryz.prog E 22 #[.agg #[va],.agg #[vb']] g s (fun r g' s'=>s=s'∧Le g g'∧Eds g' r (wl (aa A)<|aa B)):=by
 obtain ⟨pa,ca,rfl⟩:=ha.form;obtain ⟨pb,cb,rfl⟩:=hb.form;have rA:=iI ra;have rB:=iI rb;have tA:am A=aa A:=bP rA.asc;have tB:am B=aa B:=bP rB.asc;have J:=DB (aa A)<|aa B;have a5:=CC rA J;have c6:aJ (mB (aa A)<|aa B):=⟨Nat.lt_of_le_of_lt J.length_le (aA fa).1,fun c hc=>(aA fa).2 c<|J.subset hc⟩;have c7:((aa<|mB (aa A)<|aa B).map Cl.id).Nodup:=by rw[a5]; exact rA.ids.sublist<|J.map _
 have c9:wl (aa A) (aa B)=(sortBy (fun c:Cl=>-c.dim)<|sortBy Cl.dim<|(aa A).filter fun c=>!(ah (mB (aa A)<|aa B) c.id).isSome).map Fx++(sortBy Cl.dim<|(aa B).filter fun c=>!(ah (mB (aa A)<|aa B) c.id).isSome).map FV:=by rw[Bu]; rfl
 have e9:=(aA fa).1;have f1:=(aA fb).1;rw[c9];have d0:(sortBy Cl.dim<|(aa A).filter fun c=>!(ah (mB (aa A)<|aa B) c.id).isSome).length≤4000:=by
  rw[mW];exact zk9 (zc6 _ _) rA.few
 have f2:(sortBy Cl.dim<|(aa B).filter fun c=>!(ah (mB (aa A)<|aa B) c.id).isSome).length≤4000:=by
  rw[mW];exact zk9 (zc6 _ _) rB.few
 refine zb2 (args:=[.agg #[.slice pa A.length ca],.agg #[.slice pb B.length cb]]) func22 I ntmps22 (bE I)<|rZ (bW (bO I) fun b2=>?_);refine bW (bO I) fun b3=>aT I<|sQ<|rZ<|SL.K (qV 1 aj ae I I I)<|SL.K (qV 0 aj ae I I I)<|lW (bS sty109 I I I (ab sB) dC) ?_;rintro _ _ _ ⟨d1,rfl,rfl,rfl⟩;refine zb5 fun g1 u a9=>?_;have N:SlA dL g1 (.slice (some ⟨d1,0,none⟩) 2 2) [⟨pa,A.length,ca⟩,⟨pb,B.length,cb⟩]:=SlA.lit a9 rfl rfl;have L:=ha.mono u;have M:=hb.mono u;refine lW (SO.call call71 I<|po E g1 _ _ [A,B] _ N ⟨L,M,trivial⟩ (by intro l hl; simp at hl; rcases hl with rfl | rfl; exact fa; exact fb) (by simp) (by intro l hl; simp at hl; rcases hl with rfl | rfl; exact ra; exact rb)) ?_;rintro _ _ _ ⟨rfl,rfl,rfl⟩;refine lU (SU.eq (v':=vb false) (SU.not I) I)<|tZ<|za1 I<|kP<|tN<|rZ<|SL.K (qV 1 aj ae I I I)<|SL.K (qV 0 aj ae I I I)<|lW (SO.call call24 I<|B7 E g1 _ _ _ A B L M fa fb) ?_;rintro _ g2 _ ⟨rfl,w,uM,rfl,hM⟩;rw[tA,tB] at hM;refine lW (SO.call call72 I<|er E g2 _ uM _ hM c6 c7) ?_;rintro r21 g3 _ ⟨rfl,y,hT⟩;rw[a5] at hT;obtain ⟨m,rs,rfl,hm,z⟩:=hT;refine bW (aL zm2) fun b5=>oZ (sK 0 sizeOf126 I I I I I sB)<|tZ (sQ<|SC.freeze fun g4 d V=>?_);refine rG<|lU (SU.mkFunc I)<|aT I<|sW I<|SL.K (qV 1 aj ae I I I)<|lW (SO.callV I I<|cz.mk (cap:=[pp b5 0]) call83<|yy E g4 _ b5 m rs _ _ A V (Mp.mono hm d) (z.mono fun _ _=>an.mono d) ((L.mono w).mono<|y.trans d) fa rA.asc) ?_;rintro v7 g5 _ ⟨p,ds,rfl,W⟩;have e4:=W.length;refine aT I<|sW I<|lW (SO.call call88 I<|pm E g5 _ v7 _ (fun x:Rc=>-x.dim) (Ft E g5) ds oM) ?_;rintro _ _ _ ⟨rfl,rfl⟩;have b0:=ax.sortBy (f:=fun c:Cl=>-c.dim) (h:=fun x:Rc=>-x.dim) (fun a b h=>by have:=h.2.1; omega) W;rw[← mW (fun c:Cl=>-c.dim)] at d0;refine tZ (sQ<|fS fun g6 n X=>?_);obtain ⟨q6,d6,rfl⟩:=zc3 X;refine zb6 42 7<|rG<|aT I<|sQ<|sW I<|lU (eN aB I)<|lM I<|tZ<|bK ?_;have O:=b0.mono fun _ _=>an.mono n;have C:=(z.mono fun _ _=>an.mono d).mono fun _ _=>an.mono<|p.trans n;have b1:=Mp.mono (Mp.mono hm d)<|p.trans n;have b4:=n _ _<|p _ _ V;have b6:=(((M.mono w).mono<|y.trans d).mono p).mono n;have Y:=(u.trans<|w.trans<|y.trans d).trans<|p.trans n;have P:SlA encCell g6 (.slice q6 (sortBy (fun x:Rc=>-x.dim) ds).length d6) (sortBy (fun x:Rc=>-x.dim) ds):=X;clear X b0 W hm z V L M N hM;generalize sortBy (fun x:Rc=>-x.dim) ds=es at *;generalize (sortBy (fun c:Cl=>-c.dim)<|sortBy Cl.dim<|(aa A).filter fun c=>!(ah (mB (aa A)<|aa B) c.id).isSome)=GL at *;have f3:=O.length;refine oP (ι:=Nat×Value×List Er) (fun i=>[(3,pp b3 0),(6,.func (.func 83) #[] #[pp b5 0]),(8,i.2.1),(28,.slice q6 es.length d6),(29,vi es.length),(30,vi i.1)]) (fun _=>g6) (fun i=>rowA ia 42 i.2.1 i.2.2::pt b3 (.cells #[.slice pb B.length cb] 29 (0,0))::pt b2 (.cells #[.slice pa A.length ca] 29 (0,0))::s) (fun i=>i.1≤es.length∧i.2.2.length=i.1∧ax (EdK g6) ((GL.take i.1).map Fx) i.2.2) (fun i=>es.length - i.1) (0,.slice none 0 0,[]) sB I I ⟨zf8 _,I,trivial⟩ ?_;rintro ⟨j,ov,Z⟩ ⟨hj,d2,o⟩;dsimp only at hj d2 o ⊢;refine rZ<|yL I<|tZ<|sQ<|iP I (fun d3=>?_) (fun d3=>?_)
 ·have a0:j<es.length:=oM;have b7:j<GL.length:=oM;have d4:=za6 P oM;have d5:es[((j:Nat):Int).toNat]?=some es[j]:=List.getElem?_eq_getElem a0;have d7:=O.get (List.getElem?_eq_getElem b7)<|List.getElem?_eq_getElem a0;have a1:GL.take (j+1)=GL.take j++[GL[j]]:=tS b7;generalize es[j]=x at *;generalize GL[j]=cx at *;obtain ⟨xi,xd,⟨xp,xn,xc⟩⟩:=x;obtain rfl:xi=cx.id:=d7.1;have hE:EdK g6 (Fx cx) ⟨2,cx.id,0,0,0,⟨none,0,0⟩,⟨none,0,0⟩⟩:=⟨_,_,rfl,zc1 _ _,zc1 _ _⟩;refine kP (tN<|sQ<|bK<|rZ<|lU (iA aB aw I I d4 oM sL)<|SL.K (SQ.elemA dT aw I (za7 P) d5)<|bW (aL zl7) fun f4=>?_);refine oZ (sK 0 aw I I I I I sB)<|tZ<|rG<|lM I<|lU (fA ao I zT3 I)<|SL.K (qL (v:=vi cx.id) iT3 I<|cO 0 I I)<|lU (za3 I<|xB42 _ _)<|lW (bS sty62 I I I (ab ⟨I,trivial⟩) dC) ?_;rintro _ _ _ ⟨f5,rfl,rfl,rfl⟩;refine lW (aP (e:=ia) (l:=Z) 1 ⟨2,cx.id,0,0,0,⟨none,0,0⟩,⟨none,0,0⟩⟩ sty62 I I I I I oM oM) ?_;rintro ov' _ _ ⟨rfl,rfl⟩;exact lA I<|SL.nil<|bN<|tN<|rG<|yD I<|lM I<|SL.nil<|dR (.cons _<|.refl _)<|ST.again (j+1,ov',Z++[⟨2,cx.id,0,0,0,⟨none,0,0⟩,⟨none,0,0⟩⟩]) sB I I ⟨by dsimp only; omega,by dsimp only; rw[ze7,ze9]; omega,by dsimp only; rw[a1,zg7]; exact o.append ⟨hE,trivial⟩⟩ (by dsimp only; omega)
 ·have a0:j=es.length:=oM;have a1:GL.take j=GL:=tL oM;rw[a1] at o;have b8:=o.length;rw[ze8] at b8;refine xI<|tX<|tX<|bX<|tN<|sQ<|sW I<|SL.K (qV 1 aj ae I I I)<|lW (SO.callV I I<|cz.mk (cap:=[pp b5 0]) call83<|yy E g6 _ b5 m rs _ _ B b4 b1 C b6 fb rB.asc) ?_;rintro v43 g7 _ ⟨Q,q,rfl,R⟩;refine SL.freezeRowK fun g8 D F=>?_;have b9:=F.sl.mono<|fw _ _;obtain ⟨q8,d8,rfl⟩:=F.form;refine lU (eN aB I)<|lM I<|tZ<|bK ?_;have c0:=R.mono fun _ _=>an.mono D;have a2:=o.mono fun _ _=>EdK.mono<|Q.trans D;have a3:=Y.trans<|Q.trans D;clear F R b6 C b1 o;generalize (sortBy Cl.dim<|(aa B).filter fun c=>!(ah (mB (aa A)<|aa B) c.id).isSome)=NL at *;have f6:=c0.length;refine oP (ι:=Nat×Value×List Er) (fun i=>[(8,i.2.1),(43,.slice q8 q.length d8),(44,vi q.length),(45,vi i.1)]) (fun _=>g8) (fun i=>rowA ia 42 i.2.1 i.2.2::pt b3 (.cells #[.slice pb B.length cb] 29 (0,0))::pt b2 (.cells #[.slice pa A.length ca] 29 (0,0))::s) (fun i=>i.1≤q.length∧i.2.2.length=GL.length+i.1∧ax (EdK g8) (GL.map Fx++(NL.take i.1).map FV) i.2.2) (fun i=>q.length - i.1) (0,ov,Z) sB I I ⟨zf8 _,by dsimp only; omega,by simpa using a2⟩ ?_;rintro ⟨k,ow,a4⟩ ⟨hk,e0,t⟩;dsimp only at hk e0 t ⊢;refine rZ<|yL I<|tZ<|sQ ?_;refine iP I (fun c1=>?_) (fun c1=>?_)
  ·have S:k<q.length:=oM;have T:k<NL.length:=oM;have c2:=za6 b9 oM;have c3:q[((k:Nat):Int).toNat]?=some q[k]:=List.getElem?_eq_getElem S;have G:=c0.get (List.getElem?_eq_getElem T)<|List.getElem?_eq_getElem S;have H:NL.take (k+1)=NL.take k++[NL[k]]:=tS T;generalize q[k]=x at *;generalize NL[k]=cx at *;obtain ⟨xi,xd,⟨xp,xn,xc⟩⟩:=x;obtain rfl:xi=cx.id:=G.1;obtain rfl:xd=cx.dim:=G.2.1;have e1:SlA encSide g8 (.slice xp xn xc) cx.sides:=G.2.2;have e2:EdK g8 (FV cx) ⟨1,cx.id,cx.dim,0,0,⟨xp,xn,xc⟩,⟨none,0,0⟩⟩:=⟨_,_,rfl,e1,zc1 _ _⟩;refine kP (tN<|sQ<|bK<|rZ<|lU (iA aB aw I I c2 oM sL)<|SL.K (SQ.elemA dT aw I (za7 b9) c3)<|bW (aL zl7) fun f7=>?_);refine oZ (sK 0 aw I I I I I sB)<|tZ<|rG<|lM I<|lU (fA ao I zT3 I)<|SL.K (qL (v:=vi cx.id) iT3 I<|cO 0 I I)<|lU (fA ao I zT3 I)<|SL.K (qL (v:=vi cx.dim) iT3 I<|cO 0 I I)<|lU (fA ao I aM I)<|SL.K (qL (v:=.slice xp xn xc) br I<|cO 0 I I)<|lU (za3 I<|xA42 _ _ _ _ _ _)<|lW (bS sty62 I I I (ab ⟨I,trivial⟩) dC) ?_;rintro _ _ _ ⟨f8,rfl,rfl,rfl⟩;refine lW (aP (e:=ia) (l:=a4) 1 ⟨1,cx.id,cx.dim,0,0,⟨xp,xn,xc⟩,⟨none,0,0⟩⟩ sty62 I I I I I oM oM) ?_;rintro ow' _ _ ⟨rfl,rfl⟩;exact lA I<|SL.nil<|bN<|tN<|rG<|yD I<|lM I<|SL.nil<|dR (.cons _<|.refl _)<|ST.again (k+1,ow',a4++[⟨1,cx.id,cx.dim,0,0,⟨xp,xn,xc⟩,⟨none,0,0⟩⟩]) sB I I ⟨by dsimp only; omega,by dsimp only; rw[ze7,ze9]; omega,by dsimp only; rw[H,zg7,← zh1]; exact t.append ⟨e2,trivial⟩⟩ (by dsimp only; omega)
  ·have H:NL.take k=NL:=tL oM;rw[H] at t;refine xI (tX<|tX<|bX<|tN<|sQ<|fS fun g9 U c5=>?_);obtain ⟨q9,d9,rfl⟩:=zc3 c5;exact rG<|lM I<|aT I<|rE<|dR (s':=s) uR<|za8 (.inl I) results22 I ⟨I,a3.trans U,a4,c5,t.mono fun _ _=>EdK.mono U⟩
def GN (ts:List Tm):Prop:=∀ t∈ts,a7 t.1
structure Tame (ts:List Tm):Prop where
 part:∀ j r,(cf (ts.take j) r).natAbs≤1000000000
 coef:∀ t∈ts,t.2.natAbs≤1000000000
 len:ts.length<1000000
 fit:GN ts
theorem cZ (a:Int)(u:Value)(r:List (Int×Value))(k:Int):ex ((a,u)::r) k=if k=a then some u else ex r k:=by
 unfold ex;rw[fnd];split
 ·rfl
 ·exact me k r 1
set_option maxHeartbeats 8000000
theorem s3 {l:List Cl}{x:Cl}(a:x∈aa l):∃ y∈l,ci y=x:=by
 unfold aa at a;obtain ⟨y,b,rfl⟩:=zf4.1 a;exact⟨y,(fG (key:=Cl.id) l).mem_iff.1 b,I⟩
open Go.ChangeShapes Go.WideShapes Go.ChangeAt Go.RowKit
set_option maxRecDepth 100000
abbrev Ac:=Int×Int×Int×Int
def mC:Enc Ac 4:=⟨fun a=>[vi a.1,vi a.2.1,vi a.2.2.1,vi a.2.2.2],fun _=>rfl,fun _ u hu=>by simp at hu; rcases hu with rfl | rfl | rfl | rfl <;> rfl,by decide⟩
def A64 (a:Ac):Prop:=a7 a.1∧a7 a.2.1∧a7 a.2.2.1∧a7 a.2.2.2
theorem wk {n:Int}(h:(Lit.int .i64 n).wf=true):a7 n:=by
 have a:IntKind.i64.min≤n∧n≤IntKind.i64.max:=by simpa [Lit.wf] using h
 unfold a7;simp[IntKind.min,IntKind.max,IntKind.bits,IntKind.signed] at a;omega
theorem E9 {W:World}{k:Nat}{a:Addr}{len cap:Nat}{xs:List Value}(hl:len≤cap)(q:xs.length=len * k)(g:∀ i x,xs[i]?=some x→W.cell? (a.add i)=some x):Sl (tj W) k (.slice (some a) len cap) len xs:=by
 refine⟨some a,cap,I,⟨q,hl⟩,fun l=>?_⟩;obtain ⟨b,o,sp⟩:=a;have p:0<xs.length:=List.length_pos_iff.2 l;have m:=g 0 xs[0] (List.getElem?_eq_getElem p);have n:sp=none:=by simpa [Addr.add] using World.cell?_spot m
 subst n;have d:∀ i,(⟨b,o,none⟩:Addr).add i=⟨b,o+i,none⟩:=fun i=>by unfold Addr.add; split <;> simp_all
 simp only[d] at g;have c:∀ i x,xs[i]?=some x→∃ cs T fr,W.heap[b]?=some (.cells cs T fr)∧cs[o+i]?=some x:=fun i x r=>by
  have f:=g i x r;unfold World.cell? at f;split at f
  ·rename_i cs T fr s;exact⟨cs,T,fr,s,by simpa using f⟩
  ·cases f
 obtain ⟨cs,T,fr,hb,_⟩:=c 0 xs[0] (List.getElem?_eq_getElem p);refine⟨b,o,cs,T,fr,I,hb,fun j x t=>?_⟩;obtain ⟨cs',T',u,e,v⟩:=c j x t;rw[hb] at e;cases e;exact v
theorem Cy {α:Type}{k:Nat}(e:Enc α k){l:List α}{j:Nat}{x:Value}(h:(l.flatMap e.enc)[j]?=some x):∃ i a,l[i]?=some a∧j=i * k+j % k∧j % k<k∧(e.enc a)[j % k]?=some x:=by
 have b:=(zf7.1 h).1;rw[e.length] at b;have c:=e.pos;have d:j / k<l.length:=by rw[Nat.div_lt_iff_lt_mul c]; exact b
 have f:j % k<k:=Nat.mod_lt _ c;have g:j=j / k * k+j % k:=by rw[Nat.mul_comm]; exact (Nat.div_add_mod j k).symm
 refine⟨j / k,l[j / k],List.getElem?_eq_getElem d,g,f,?_⟩;have m:(e.enc l[j / k])[j % k]?=some ((e.enc l[j / k])[j % k]'(by rw[e.len]; exact f)):=List.getElem?_eq_getElem _;have n:=e.get (List.getElem?_eq_getElem d) m;rw[← g,h] at n;rw[m,← n]
section
variable {H:Type}{enc:TypeId×Value→H}{W:World}{base:Nat}{spare:Nat→Bool}{hd:Bool}
theorem Tryz.cells44:Tryz.prog.cellsOf 44=4:=by kernel_rfl
theorem Gq {fuel:Nat}{cs:List Value}{x:DataW H×List MemPlace}(h:DataW.trod enc Tryz.prog W base spare hd fuel 44 cs=some x):∃ a:Ac,cs=mC.enc a∧A64 a:=by
 obtain ⟨y0,y1,y2,y3,n,_,hl,e,f,g,i⟩:=Go.Joins.trod_struct4 ir h;rw[cells44] at hl
 match cs,hl with
 | [c0,c1,c2,c3],_ =>
  rw[cells3] at e f g i;obtain ⟨a,e0,_,wa⟩:=DataW.trod_int uT3 e;obtain ⟨b,e1,_,wb⟩:=DataW.trod_int uT3 f;obtain ⟨c,e2,_,wc⟩:=DataW.trod_int uT3 g;obtain ⟨d,e3,_,wd⟩:=DataW.trod_int uT3 i;simp at e0 e1 e2 e3;subst e0 e1 e2 e3;exact⟨(a,b,c,d),I,wk wa,wk wb,wk wc,wk wd⟩
theorem CN {fuel:Nat}{v:Value}{x:DataW H×List MemPlace}(h:DataW.trod enc Tryz.prog W base spare hd fuel 25 [v]=some x):∃ l:List Ac,SlA mC (tj W) v l∧∀ a∈l,A64 a:=by
 rcases Go.Deep.open_slice underlying25 h with ⟨c,_⟩ | ⟨a,len,cap,m,n,D,Pl,c,_,hl,_,o,_,B⟩
 ·simp at c;subst c;exact⟨[],zc1 _ _,by simp⟩
 ·simp at c;subst c;have C:len≤m:=by rw[o]; split <;> omega
  obtain ⟨f,t⟩:=Go.Deep.choose_lt (α:=Ac) (n:=len) (p:=fun i y=>A64 y∧∀ j x,(mC.enc y)[j]?=some x→W.cell? (a.add<|i * 4+j)=some x) fun i d=>by
   obtain ⟨cs',g,u⟩:=B i oM;rw[cells44] at g;obtain ⟨y,rfl,e⟩:=Gq u;obtain ⟨_,_,q⟩:=World.cells?_some g;refine⟨y,e,fun j x k=>?_⟩;have r:j<4:=by have:=(zf7.1 k).1; rwa [mC.len] at this
   rw[← Go.Deep.add_add,q j r,k]
  refine⟨(List.range len).map f,?_,fun z hz=>by
   obtain ⟨i,d,rfl⟩:=zf4.1 hz;exact (t i (List.mem_range.1 d)).1⟩
  show Sl (tj W) 4 _ ((List.range len).map f).length (((List.range len).map f).flatMap mC.enc);rw[ze8,zi6];refine E9 hl (by rw[mC.length,ze8,zi6]) fun j y k=>?_;obtain ⟨i,b,d,g,u,q⟩:=Cy mC k;rw[zi2] at d;cases s:(List.range len)[i]? with
  | none=>rw[s] at d; cases d
  | some z =>
   rw[s] at d;cases d;obtain ⟨w,A⟩:=zf7.1 s;simp at w A;subst A;rw[g];exact (t i w).2 _ _ q
theorem Av {v:Value}{d:DataW H}{p:List MemPlace}(h:DataW.Trod enc Tryz.prog W base spare hd 25 v d p)(c:v.cells = #[v]):∃ l:List Ac,SlA mC (tj W) v l∧∀ a∈l,A64 a:=by
 obtain ⟨f,b⟩:=h;rw[c] at b;exact CN b
end
theorem yR {l:List Cl}{e:Ed}(h:(dM l e).1=0)(hl:∀ c∈l,a7 c.id)(n:e.kind=1→a7 e.cell)(o:e.kind=3→a7 e.new∧a7 e.other):∀ c∈(dM l e).2,a7 c.id:=by
 obtain ⟨q,g,f,p⟩:=sd h;have hA:=iI g;have a:∀ c∈aa l,a7 c.id:=fun c g=>by
  obtain ⟨d,hd,e⟩:=s3 g;rw[← e];exact hl d hd
 rw[p];intro c i;obtain ⟨d,hd,rfl⟩:=s3 i;show a7 d.id;have j:=rJ f;unfold cG at hd
 rcases j with k | k | k | k | k
 ·rw[zg3 k] at hd
  rcases zf5.1 hd with hd | hd
  ·exact a d hd
  ·simp at hd; rw[hd]; exact n k
 ·rw[zg2 oM,zg3 k] at hd;exact a d (sz.1 hd).1
 ·rw[zg2 oM,zg2 oM,zg3 k] at hd;unfold bG at f;rw[zg2 oM,zg2 oM,zg3 k] at f;obtain ⟨c0,_,_,_,_,b⟩:=pg hA f;rw[b] at hd;obtain ⟨n1,n2⟩:=o k
  rcases zf5.1 hd with hd | hd
  ·simp at hd
   rcases hd with rfl | rfl
   ·exact n1
   ·exact n2
  ·obtain ⟨x,m,rfl⟩:=zf4.1 hd;rw[F4];exact a x m
 ·rw[zg2 oM,zg2 oM,zg2 oM,zg3 k] at hd;unfold ep at hd;obtain ⟨x,m,rfl⟩:=zf4.1 hd;exact a x (sz.1 m).1
 ·rw[zg2 oM,zg2 oM,zg2 oM,zg2 oM] at hd;exact a d (sz.1 hd).1
end Go.Proofs.YtbbppeihhkhkcaaGreatDoor
namespace Go.Sy
open Go
section
variable {P:Program}{N:Nat}{E:World}{f:Fr}{g:PH}{s:Own}{fn:Func}{R:Value→PH→Own→Prop}{e:Exit}
theorem ST.retC3 {T U:TypeId}{t u q m b k:Nat}{cs:Array Value}{fr:Nat×Nat}{x y z:Value}(i:Nat)(s':Own)(A:e = .ret∨e = .normal)(hr:fn.results = #[.cell t T,.tmp u,.tmp q,.tmp m])(B:aN f t=some (pp b 0))(C:aN f u=some x)(D:aN f q=some y)(hm:aN f m=some z)
  (F:∀ w,(isAgg T).run P w = .ok true w) (G:∀ w,(sizeOf T).run P w = .ok k w)
  (H:s[i]?=some (pt b<|.cells cs U fr)) (J:cs.size=k) (d:s'.Sublist s) (K:R (.tuple #[.agg cs,x,y,z]) g s'):ST N E (bodyPost P fn<|nh E R) e f g s :=
 fun a w c j=>by
  have L:=cd (P:=P) j F (by rw[J]; exact G) H;have l:=c.at_ t _ B;have n:=c.at_ u _ C;have o:=c.at_ q _ D;have p:=c.at_ m _ hm;simp only[Array.getD_eq_getD_getElem?] at l n o p;have r:(results fn a.tmps).run P w = .ok (.tuple #[.agg cs,x,y,z]) w:=by simp[results,hr,asAddr,pp,l,L,n,o,p]
  have v:nh E R (.returned<|.tuple #[.agg cs,x,y,z]) w:=⟨_,g,s',rfl,j.sublist d,K⟩
  rcases A with rfl | rfl
  ·exact⟨c.defers,_,r,v⟩
  ·exact⟨c.defers,_,r,v⟩
end
end Go.Sy
namespace Go.Proofs.YtbbppeihhkhkcaaGreatDoor
open _root_.Go.Proofs.Tryz _root_.Go.Proofs.YtbbppeihhkhkcaaGreatDoor.Tryz
open Go Go.Sy Go.Pl Go.Proofs
set_option maxRecDepth 100000
set_option maxHeartbeats 4000000
theorem uU {es:List Ed}{k:Nat}(h:k<es.length)(A:List Cl)(ss:List Stp):n9 A ss k (es.drop k)=if (dM A es[k]).1=0 then n9 (dM A es[k]).2 (ss++[imO A es[k]]) (k+1) (es.drop<|k+1) else (((dM A es[k]).1,(k:Int)),[],[]):=by
 rw[zg8 h];rfl
theorem yT {es:List Ed}{k:Nat}(h:es.length≤k)(A:List Cl)(ss:List Stp):n9 A ss k (es.drop k)=((0,0),A,ss):=by
 rw[List.drop_of_length_le h];rfl
theorem jM {g:PH}{p:Option Addr}{n c:Nat}{l:List Cl}(h:ai g (.slice p n c) l):n=l.length:=by
 obtain ⟨q,d,e⟩:=h.form;injection e
theorem zg.nil {g:PH}{code i:Int}:zg ((code,i),[],[]) (.tuple #[.agg #[.slice none 0 0],.slice none 0 0,vi i,vi code]) g:=⟨_,none,0,0,rfl,ai.nil g,Sts.nil g⟩
theorem BT (E:World)(g:PH)(s:Own)(v ev:Value)(l:List Cl)(es:List Ed)(L:ai g v l)(M:aJ l)(X:Eds g ev es)(Y:∀ e∈es,FB e)(Z:es.length<1099511627776) :
  Ctr Tryz.prog E 23 #[.agg #[v],ev] g s (fun r g' s'=>s=s'∧Le g g'∧zg (ig l es) r g'):=by
 obtain ⟨p,c,rfl⟩:=L.form;obtain ⟨rs,C,t⟩:=X;have a0:=t.length;obtain ⟨pe,ce,rfl⟩:=za4 C;refine zb2 (args:=[.agg #[.slice p l.length c],.slice pe rs.length ce]) func23 I ntmps23 (bE I)<|rZ (bW (bO I) fun b2=>?_);refine bW (aL zl9) fun b4=>lA I<|lA I<|aT I<|sQ<|bK<|sW I<|lU (eN tQ I)<|lU (gR I I)<|aT I<|iP I (fun h0=>?_) (fun h0=>?_)
 ·have D:ig l es=((2,0),[],[]):=by unfold ig; rw[zg3 oM]
  refine rZ<|lU (za3 I buildE29)<|oZ (sK 0 ae I I I I I sB)<|lA I<|lA I<|aT I<|rE<|bR<|tR ?_;rw[D];exact ST.retC3 0 s (.inl I) results23 I I I I aj ae I I (.cons _<|.cons _<|.refl _) ⟨I,zb9 _,zg.nil⟩
 ·by_cases hr:(ap l).2=0
  ·have D:ig l es=n9 (aa l) [] 0 es:=by unfold ig; rw[zg2 oM,zg2 oM]
   refine rZ<|SL.K (qV 1 aj ae I I I)<|lW (SO.call call41 I<|mg E g _ _ l L M true<|zg1 hr) ?_;rintro _ _ _ ⟨rfl,rfl,rfl⟩;refine lU (SU.not I)<|aT I<|za1 I<|kP<|bN<|tN<|rZ<|SL.K (qV 1 aj ae I I I)<|lW (SO.call call53 I<|eY E g _ _ l L M) ?_;rintro _ g1 _ ⟨rfl,j,u1,rfl,hA⟩;obtain ⟨p1,c1,rfl⟩:=hA.form;refine oZ (sK 1 ae I I I I I sB)<|tZ<|rZ<|aT I<|sQ<|sW I<|lU (eN tQ I)<|lM I<|tZ<|bK ?_;rw[D];have N:=aA M;generalize aa l=A at *;refine zb6 35 2<|oP (ι:=Nat×PH×List Cl×Option Addr×Nat×Value×List Sr×List Stp) (fun i=>[(2,pp b2 0),(4,pp b4 0),(8,i.2.2.2.2.2.1),(26,.slice pe rs.length ce),(27,vi rs.length),(28,vi i.1)]) (fun i=>i.2.1) (fun i=>rowA ox 35 i.2.2.2.2.2.1 i.2.2.2.2.2.2.1::pt b4 (.cells #[.slice none 0 0] 29 (0,0))::pt b2 (.cells #[.slice i.2.2.2.1 i.2.2.1.length i.2.2.2.2.1] 29 (0,0))::s)
    (fun i=>i.1≤es.length∧Le g1 i.2.1∧ai i.2.1 (.slice i.2.2.2.1 i.2.2.1.length i.2.2.2.2.1) i.2.2.1∧aJ i.2.2.1∧ax (StK i.2.1) i.2.2.2.2.2.2.2 i.2.2.2.2.2.2.1∧i.2.2.2.2.2.2.1.length=i.1∧n9 A [] 0 es=n9 i.2.2.1 i.2.2.2.2.2.2.2 i.1 (es.drop i.1)) (fun i=>es.length - i.1)
    (0,g1,A,p1,c1,.slice none 0 0,[],[]) sB rfl rfl ⟨zf8 _,zb9 _,hA,N,trivial,rfl,rfl⟩ ?_
   rintro ⟨k,gk,B,pk,ck,ov,m,ss⟩ ⟨hk,d,hB,F,n,O,b⟩;dsimp only at hk d hB F n O b ⊢;refine rZ<|yL I<|tZ<|sQ<|iP I (fun P=>?_) (fun P=>?_)
   ·have w:k<es.length:=oM;have G:k<rs.length:=oM;have H:=za5 C<|j.trans d;have Q:=za6 H oM;have R:rs[((k:Nat):Int).toNat]?=some rs[k]:=List.getElem?_eq_getElem G;have S:=(t.get (List.getElem?_eq_getElem w)<|List.getElem?_eq_getElem G).mono<|j.trans d;have T:=Y _<|gM w;rw[uU w] at b;generalize es[k]=e at *;generalize rs[k]=x at *;obtain ⟨x1,x2,x3,x4,x5,⟨x6,x7,x8⟩,⟨x9,a1,a2⟩⟩:=x;have U:=oX B e;refine kP<|tN<|SC.cut (ι:=PH×Option Addr×Nat×Value×Sr) (fun i=>[(2,pp b2 0),(4,pp b4 0),(8,i.2.2.2.1),(26,.slice pe rs.length ce),(27,vi rs.length),(28,vi k)]) (fun i=>i.1) (fun i=>rowA ox 35 i.2.2.2.1 (m++[i.2.2.2.2])::pt b4 (.cells #[.slice none 0 0] 29 (0,0))::pt b2 (.cells #[.slice i.2.1 (dM B e).2.length i.2.2.1] 29 (0,0))::s)
     (fun i=>Le gk i.1∧ai i.1 (.slice i.2.1 (dM B e).2.length i.2.2.1) (dM B e).2∧StK i.1 (imO B e) i.2.2.2.2∧n9 A [] 0 es=n9 (dM B e).2 (ss++[imO B e]) (k+1) (es.drop<|k+1)) ?_ ?_
    ·refine bK (sW I<|lU (iA tQ eu I I Q oM sL)<|SL.K (SQ.elemA j3 eu I (za7 H) R)<|bW (aL zm3) fun a3=>?_);refine lA I<|oZ (sK 0 eu rfl rfl rfl rfl rfl<|by (repeat' (first | exact trivial | refine⟨by rfl,?_⟩))) ?_;refine tZ<|rZ<|SL.K (qV 3 aj ae I I I)<|SL.K (qV 0 j3 eu I I I)<|lW (SO.call call12 I<|T E gk _ _ _ B hB F S) ?_;rintro _ g2 _ ⟨rfl,a,hR⟩;obtain ⟨⟨d1,d2,d3⟩,⟨⟨y1,y2,y3⟩,y4⟩,rfl,y,z⟩:=hR.one;have V:=jM y;subst V;refine lM I (yX I<|yX I<|yX I<|bW (aL zl9) fun a4=>?_);refine bW (aL zl4) fun a5=>?_;refine oZ (sK 1 ae I I I I I sB) ?_;refine oZ (sK 0 bQ I I I I I sB) ?_;refine aT I<|sQ<|sW I<|lU (nQ I I)<|tZ ?_;refine iP I (fun hz=>?_) (fun hz=>?_)
     ·refine rZ<|lU (za3 I buildE29)<|lM I<|lM I<|oZ (sK 4 ae I I I I I sB)<|lA I<|lA I<|aT I<|rE<|tR<|bR<|tR<|tR<|bR<|tR ?_;rw[zg2 hz] at b;rw[b];exact ST.retC3 4 s (.inl I) results23 I I I I aj ae I I (.cons _<|.cons _<|.cons _<|.cons _<|.cons _<|.cons _<|.refl _) ⟨I,j.trans<|d.trans a,zg.nil⟩
     ·have hz:=Decidable.not_not.1 hz;rw[zg3 hz] at b;refine kP<|tN ?_;refine SC.drawX [4,5] ze5 kR ?_;refine SX.u (i:=1) I kR (mV I) dC<|SX.q (i:=2) I kR (qV 0 gw bQ I I I) dC ?_;refine zd8 0 3 kR ?_ ?_
      ·refine SB.o (i:=0) I (SQ.sof<|qV 1 aj ae I I I) dC (.inr iR) ?_;rintro _ _ _ ⟨rfl,rfl,rfl⟩;refine zd7 3 kR ?_
       ·refine SB.o (i:=3) I (bS sty64 I I I (ab ⟨I,trivial⟩) dC) dC (.inr iR) ?_;rintro _ _ _ ⟨W,rfl,rfl,rfl⟩;refine zd7 4 kR ?_
        ·refine SB.o (i:=4) I (aP (e:=ox) (l:=m) 3 ⟨⟨y1,y2,y3⟩,y4⟩ sty64 I I I I I oM oM) dC (.inl dC) ?_;rintro f _ _ ⟨rfl,rfl⟩;refine zd7 5 kR ?_
         ·refine SB.on (i:=5) I (sK 5 ae I I I I I sB) (.inl dC) ?_;rintro _ _ _ ⟨rfl,rfl⟩;refine SX.u (i:=6) I kR (aS I) dC<|SX.nil kR<|bN ?_;refine dR (.cons _<|.cons _<|.cons _<|.refl _) ?_; exact za9 (g2,d1,d3,f,⟨⟨y1,y2,y3⟩,y4⟩) sB I I ⟨a,y,z,b⟩
      ·refine SB.o (i:=3) I (bS sty64 I I I (ab ⟨I,trivial⟩) dC) dC (.inr iR) ?_;rintro _ _ _ ⟨W,rfl,rfl,rfl⟩;refine zd8 0 4 kR ?_ ?_
       ·refine SB.o (i:=0) I (SQ.sof<|qV 2 aj ae I I I) dC (.inr iR) ?_;rintro _ _ _ ⟨rfl,rfl,rfl⟩;refine zd7 4 kR ?_
        ·refine SB.o (i:=4) I (aP (e:=ox) (l:=m) 3 ⟨⟨y1,y2,y3⟩,y4⟩ sty64 I I I I I oM oM) dC (.inl dC) ?_;rintro f _ _ ⟨rfl,rfl⟩;refine zd7 5 kR ?_
         ·refine SB.on (i:=5) I (sK 5 ae I I I I I sB) (.inl dC) ?_;rintro _ _ _ ⟨rfl,rfl⟩;refine SX.u (i:=6) I kR (aS I) dC<|SX.nil kR<|bN ?_;refine dR (.cons _<|.cons _<|.cons _<|.refl _) ?_; exact za9 (g2,d1,d3,f,⟨⟨y1,y2,y3⟩,y4⟩) sB I I ⟨a,y,z,b⟩
       ·refine SB.o (i:=4) I (aP (e:=ox) (l:=m) 3 ⟨⟨y1,y2,y3⟩,y4⟩ sty64 I I I I I oM oM) dC (.inl dC) ?_;rintro f _ _ ⟨rfl,rfl⟩;refine zd7 0 kR ?_
        ·refine SB.ob (i:=0) I (SQ.sof<|qV 1 aj ae I I I) dC kR ?_;rintro _ _ _ ⟨rfl,rfl,rfl⟩;refine zd7 5 kR ?_
         ·refine SB.on (i:=5) I (sK 5 ae I I I I I sB) (.inl dC) ?_;rintro _ _ _ ⟨rfl,rfl⟩;refine SX.u (i:=6) I kR (aS I) dC<|SX.nil kR<|bN ?_;refine dR (.cons _<|.cons _<|.cons _<|.refl _) ?_; exact za9 (g2,d1,d3,f,⟨⟨y1,y2,y3⟩,y4⟩) sB I I ⟨a,y,z,b⟩
    rintro ⟨g2,d1,d3,f,⟨⟨y1,y2,y3⟩,y4⟩⟩ ⟨a,y,z,b⟩;dsimp only at a y z b ⊢;exact rG<|yD I<|lM I<|SL.nil<|ST.again (k+1,g2,(dM B e).2,d1,d3,f,m++[⟨⟨y1,y2,y3⟩,y4⟩],ss++[imO B e]) sB I I ⟨by dsimp only; omega,d.trans a,y,U,(n.mono fun _ _=>StK.mono a).append ⟨z,trivial⟩,by dsimp only; rw[ze7,ze9]; omega,b⟩ (by dsimp only; omega)
   ·rw[yT oM] at b;refine xI (tX<|tX<|bX<|tN<|sQ<|fS fun g2 a J=>?_);obtain ⟨q2,d2,rfl⟩:=zc3 J;refine rG<|SL.K (qV 1 aj ae I I I)<|lM I<|oZ (sK 0 ae I I I I I sB)<|lA I<|lA I<|aT I<|rE ?_;rw[b];exact ST.retC3 0 s (.inl I) results23 I I I I aj ae I I (.cons _<|.cons _<|.refl _) ⟨I,j.trans<|d.trans a,_,_,_,_,I,hB.mono a,m,J,n.mono fun _ _=>StK.mono a⟩
  ·have D:ig l es=((1,0),[],[]):=by unfold ig; rw[zg2 oM,zg3 hr]
   refine rZ<|SL.K (qV 1 aj ae I I I)<|lW (SO.call call41 I<|mg E g _ _ l L M false<|zf9 hr) ?_;rintro _ _ _ ⟨rfl,rfl,rfl⟩;refine lU (SU.not I)<|aT I<|za2 I<|rZ<|lU (za3 I buildE29)<|oZ (sK 0 ae I I I I I sB)<|lA I<|lA I<|aT I<|rE<|bR<|tR ?_;rw[D];exact ST.retC3 0 s (.inl I) results23 I I I I aj ae I I (.cons _<|.cons _<|.refl _) ⟨I,zb9 _,zg.nil⟩
theorem rU (E:World)(g:PH)(s:Own)(v ev:Value)(l:List Cl)(es:List Ed)(S:ai g v l)(T:aJ l)(he:Eds g ev es)(hs:∀ e∈es,EdS e)(a1:es.length<1099511627776) :
  Ctr Tryz.prog E 69 #[.agg #[v],ev] g s (fun r g' s'=>s=s'∧Le g g'∧zg (ig l es) r g'):=by
 obtain ⟨p,c,rfl⟩:=S.form;obtain ⟨rs,N,G⟩:=he;have a2:=G.length;obtain ⟨pe,ce,rfl⟩:=za4 N;refine zb2 (args:=[.agg #[.slice p l.length c],.slice pe rs.length ce]) func69 I ntmps69 (bE I)<|rZ (bW (bO I) fun b2=>?_);refine bW (aL zl9) fun b4=>lA I<|lA I<|aT I<|sQ<|sW I<|lU (eN tQ I)<|lU (gR I I)<|tZ<|iP I (fun h0=>?_) (fun h0=>?_)
 ·have O:ig l es=((2,0),[],[]):=by unfold ig; rw[zg3 oM]
  refine rZ<|lU (za3 I buildE29)<|oZ (sK 0 ae I I I I I sB)<|lA I<|lA I<|aT I<|rE<|tR ?_;rw[O];exact ST.retC3 0 s (.inl I) results69 I I I I aj ae I I (.cons _<|.cons _<|.refl _) ⟨I,zb9 _,zg.nil⟩
 ·refine kP<|tN<|rZ<|SL.K (qV 1 aj ae I I I)<|lW (SO.call call94 I<|dQ E g _ _ l S T) ?_;rintro _ g0 _ ⟨rfl,rfl,w⟩;rw[dG];have U:=S.mono w;refine aT I<|sQ<|sW I<|lU (SU.notP I)<|tZ<|iP I (fun hr=>?_) (fun hr=>?_)
  ·have O:ig l es=((1,0),[],[]):=by unfold ig; rw[zg2 oM,zg3 hr]
   refine rZ<|lU (za3 I buildE29)<|oZ (sK 0 ae I I I I I sB)<|lA I<|lA I<|aT I<|rE<|tR ?_;rw[O];exact ST.retC3 0 s (.inl I) results69 I I I I aj ae I I (.cons _<|.cons _<|.refl _) ⟨I,w,zg.nil⟩
  ·have O:ig l es=n9 (aa l) [] 0 es:=by unfold ig; rw[zg2 oM,zg2 hr]
   refine kP<|tN<|rZ<|SL.K (qV 1 aj ae I I I)<|lW (SO.call call102 I<|bZ E g0 _ _ l U T) ?_;rintro _ g1 _ ⟨rfl,f,u1,rfl,hA⟩;obtain ⟨p1,c1,rfl⟩:=hA.form;have f:=w.trans f;refine bW (aL zl9) fun b9=>oZ (sK 0 ae I I I I I sB)<|tZ<|rZ<|aT I<|sQ<|rZ<|aT I<|bK ?_;rw[O];have V:=aA T;generalize aa l=A at *;refine zb6 35 2<|oP (ι:=Nat×PH×List Cl×Option Addr×Nat×Value×List Sr×List Stp) (fun i=>[(1,.slice pe rs.length ce),(4,pp b4 0),(9,pp b9 0),(10,i.2.2.2.2.2.1),(11,vi i.1)]) (fun i=>i.2.1) (fun i=>rowA ox 35 i.2.2.2.2.2.1 i.2.2.2.2.2.2.1::pt b9 (.cells #[.slice i.2.2.2.1 i.2.2.1.length i.2.2.2.2.1] 29 (0,0))::pt b4 (.cells #[.slice none 0 0] 29 (0,0))::pt b2 (.cells #[.slice p l.length c] 29 (0,0))::s)
    (fun i=>i.1≤es.length∧Le g1 i.2.1∧ai i.2.1 (.slice i.2.2.2.1 i.2.2.1.length i.2.2.2.2.1) i.2.2.1∧aJ i.2.2.1∧ax (StK i.2.1) i.2.2.2.2.2.2.2 i.2.2.2.2.2.2.1∧i.2.2.2.2.2.2.1.length=i.1∧n9 A [] 0 es=n9 i.2.2.1 i.2.2.2.2.2.2.2 i.1 (es.drop i.1)) (fun i=>es.length - i.1)
    (0,g1,A,p1,c1,.slice none 0 0,[],[]) sB rfl rfl ⟨zf8 _,zb9 _,hA,V,trivial,rfl,rfl⟩ ?_
   rintro ⟨k,gk,B,pk,ck,ov,D,ss⟩ ⟨hk,j,hB,F,y,W,m⟩;dsimp only at hk j hB F y W m ⊢;refine sQ<|sW I<|lM I<|lU (eN tQ I)<|yL I<|tZ<|iP I (fun X=>?_) (fun X=>?_)
   ·have J:k<es.length:=oM;have P:k<rs.length:=oM;have Q:=za5 N<|f.trans j;have Y:=za6 Q oM;have Z:rs[((k:Nat):Int).toNat]?=some rs[k]:=List.getElem?_eq_getElem P;have L:=(G.get (List.getElem?_eq_getElem J)<|List.getElem?_eq_getElem P).mono<|f.trans j;have t:=hs _<|gM J;rw[uU J] at m;generalize es[k]=e at *;generalize rs[k]=x at *;obtain ⟨x1,x2,x3,x4,x5,⟨x6,x7,x8⟩,⟨x9,a3,a4⟩⟩:=x;have a0:=oX B e;refine kP<|tN<|sQ<|bK<|SC.cut (ι:=Nat×Nat×PH×Sv×Sr) (fun i=>[(1,.slice pe rs.length ce),(4,pp b4 0),(9,pp b9 0),(10,ov),(11,vi k),(12,pp i.1 0),(13,pp i.2.1 0),(14,vi (dM B e).1)]) (fun i=>i.2.2.1) (fun i=>pt i.2.1 (.cells #[.slice i.2.2.2.2.sv.p i.2.2.2.2.sv.n i.2.2.2.2.sv.c,vb i.2.2.2.2.bk] 35 (0,0))::pt i.1 (.cells #[.slice i.2.2.2.1.p (dM B e).2.length i.2.2.2.1.c] 29 (0,0))::rowA ox 35 ov D::pt b9 (.cells #[.slice pk B.length ck] 29 (0,0))::pt b4 (.cells #[.slice none 0 0] 29 (0,0))::pt b2 (.cells #[.slice p l.length c] 29 (0,0))::s)
     (fun i=>Le gk i.2.2.1∧ai i.2.2.1 (.slice i.2.2.2.1.p (dM B e).2.length i.2.2.2.1.c) (dM B e).2∧StK i.2.2.1 (imO B e) i.2.2.2.2) ?_ ?_
    ·refine SC.drawX [12,13] ze5 kR ?_;refine SX.q (i:=0) I kR (qV (by exact 1) aj ae I I I) dC ?_;refine SX.u (i:=1) I kR (mV I) dC<|SX.u (i:=2) I kR (mV I) dC<|SX.u (i:=3) I kR (iA tQ eu I I Y oM sL) dC<|SX.q (i:=4) I kR (SQ.elemA j3 eu I (za7 Q) Z) dC ?_
     repeat' (first
      | (refine SB.o (i:=5) I (SO.call call142 I<|l8 E gk _ _ _ B e hB F L t.1 (by have:=t.2; omega)) dC (.inr (by rintro _ g2 _ ⟨rfl,a,H⟩; exact⟨by assumption,(by exact .cons _<|.cons _<|.refl _)⟩)) ?_; rintro _ g2 _ ⟨rfl,a,H⟩; obtain ⟨⟨d1,d2,d3⟩,⟨⟨y1,y2,y3⟩,y4⟩,rfl,C,M⟩:=H.one; have z:=jM C; subst z; refine SX.u (i:=6) I kD (mV I) dC ?_; refine SX.u (i:=7) I kD (xT I I) dC ?_; refine SX.u (i:=8) I kD (xT I I) dC ?_; refine SX.u (i:=9) I kD (xT I I) dC ?_)
      | (refine SB.o (i:=5) I (SO.call call142 I<|l8 E gk _ _ _ B e hB F L t.1 (by have:=t.2; omega)) dC (.inr (by rintro _ g2 _ ⟨rfl,a,H⟩; exact⟨by assumption,(by exact .cons _<|.refl _)⟩)) ?_; rintro _ g2 _ ⟨rfl,a,H⟩; obtain ⟨⟨d1,d2,d3⟩,⟨⟨y1,y2,y3⟩,y4⟩,rfl,C,M⟩:=H.one; have z:=jM C; subst z; refine SX.u (i:=6) I kD (mV I) dC ?_; refine SX.u (i:=7) I kD (xT I I) dC ?_; refine SX.u (i:=8) I kD (xT I I) dC ?_; refine SX.u (i:=9) I kD (xT I I) dC ?_)
      | (refine SB.o (i:=5) I (SO.call call142 I<|l8 E gk _ _ _ B e hB F L t.1 (by have:=t.2; omega)) dC (.inr (by rintro _ g2 _ ⟨rfl,a,H⟩; exact⟨by assumption,(by exact .refl _)⟩)) ?_; rintro _ g2 _ ⟨rfl,a,H⟩; obtain ⟨⟨d1,d2,d3⟩,⟨⟨y1,y2,y3⟩,y4⟩,rfl,C,M⟩:=H.one; have z:=jM C; subst z; refine SX.u (i:=6) I kD (mV I) dC ?_; refine SX.u (i:=7) I kD (xT I I) dC ?_; refine SX.u (i:=8) I kD (xT I I) dC ?_; refine SX.u (i:=9) I kD (xT I I) dC ?_)
      | (refine SB.o (i:=10) rfl (aL zl9) dC (.inr (by rintro _ _ _ ⟨b,rfl,rfl,rfl⟩; exact⟨by exact zb9 _,(by exact .cons _<|.cons _<|.refl _)⟩)) ?_; rintro _ _ _ ⟨b,rfl,rfl,rfl⟩)
      | (refine SB.o (i:=10) rfl (aL zl9) dC (.inr (by rintro _ _ _ ⟨b,rfl,rfl,rfl⟩; exact⟨by assumption,(by exact .cons _<|.cons _<|.refl _)⟩)) ?_; rintro _ _ _ ⟨b,rfl,rfl,rfl⟩)
      | (refine SB.o (i:=10) rfl (aL zl9) dC (.inr (by rintro _ _ _ ⟨b,rfl,rfl,rfl⟩; exact⟨by exact zb9 _,(by exact .cons _<|.refl _)⟩)) ?_; rintro _ _ _ ⟨b,rfl,rfl,rfl⟩)
      | (refine SB.o (i:=10) rfl (aL zl9) dC (.inr (by rintro _ _ _ ⟨b,rfl,rfl,rfl⟩; exact⟨by assumption,(by exact .cons _<|.refl _)⟩)) ?_; rintro _ _ _ ⟨b,rfl,rfl,rfl⟩)
      | (refine SB.o (i:=11) rfl (aL zl4) dC (.inr (by rintro _ _ _ ⟨d,rfl,rfl,rfl⟩; exact⟨by exact zb9 _,(by exact .cons _<|.cons _<|.refl _)⟩)) ?_; rintro _ _ _ ⟨d,rfl,rfl,rfl⟩)
      | (refine SB.o (i:=11) rfl (aL zl4) dC (.inr (by rintro _ _ _ ⟨d,rfl,rfl,rfl⟩; exact⟨by assumption,(by exact .cons _<|.cons _<|.refl _)⟩)) ?_; rintro _ _ _ ⟨d,rfl,rfl,rfl⟩)
      | (refine SB.o (i:=11) rfl (aL zl4) dC (.inr (by rintro _ _ _ ⟨d,rfl,rfl,rfl⟩; exact⟨by exact zb9 _,(by exact .cons _<|.refl _)⟩)) ?_; rintro _ _ _ ⟨d,rfl,rfl,rfl⟩)
      | (refine SB.o (i:=11) rfl (aL zl4) dC (.inr (by rintro _ _ _ ⟨d,rfl,rfl,rfl⟩; exact⟨by assumption,(by exact .cons _<|.refl _)⟩)) ?_; rintro _ _ _ ⟨d,rfl,rfl,rfl⟩)
      | (refine SB.on (i:=12) I (sK 1 ae I I I I I sB) (.inl dC) ?_; rintro _ _ _ ⟨rfl,rfl⟩)
      | (refine SB.on (i:=12) I (sK 0 ae I I I I I sB) (.inl dC) ?_; rintro _ _ _ ⟨rfl,rfl⟩)
      | (refine SB.on (i:=13) I (sK 0 bQ I I I I I sB) (.inl dC) ?_; rintro _ _ _ ⟨rfl,rfl⟩; refine SX.u (i:=14) I kD (aS I) dC ?_)
      | (refine SB.on (i:=13) I (sK 1 bQ I I I I I sB) (.inl dC) ?_; rintro _ _ _ ⟨rfl,rfl⟩; refine SX.u (i:=14) I kD (aS I) dC ?_)
      | refine SX.br3 5 10 11 kD ?_ ?_ ?_
      | refine zd8 10 11 kD ?_ ?_
      | refine zd7 11 kD ?_
      | refine zd7 12 kD ?_
      | refine zd7 13 kD ?_
      | refine zd7 10 kD ?_
      | refine zd8 5 11 kD ?_ ?_
      | refine zd7 5 kD ?_
      | refine zd8 5 10 kD ?_ ?_
      | (refine SX.nil kD ?_; first | exact za9 (b,d,g2,⟨d1,_,d3⟩,⟨⟨y1,y2,y3⟩,y4⟩) sB rfl rfl ⟨a,C,M⟩ | (refine ST.perm (zk3 _ _ _) ?_; exact za9 (b,d,g2,⟨d1,0,d3⟩,⟨⟨y1,y2,y3⟩,y4⟩) sB I I ⟨a,C,M⟩)))
    rintro ⟨b,d,g2,⟨d1,d2,d3⟩,⟨⟨y1,y2,y3⟩,y4⟩⟩ ⟨a,C,M⟩;dsimp only at a C M ⊢;refine sQ<|sW I<|lU (nQ I I)<|tZ<|iP I (fun hz=>?_) (fun hz=>?_)
    ·refine rZ<|lU (za3 I buildE29)<|lM I<|lM I<|oZ (sK 4 ae I I I I I sB)<|lA I<|lA I<|aT I<|rE<|tR<|bR<|tR<|tR<|bR<|tR ?_;rw[zg2 hz] at m;rw[m];exact ST.retC3 4 s (.inl I) results69 I I I I aj ae I I (.cons _<|.cons _<|.cons _<|.cons _<|.cons _<|.cons _<|.refl _) ⟨I,f.trans<|j.trans a,zg.nil⟩
    ·have hz:=Decidable.not_not.1 hz;rw[zg3 hz] at m;refine kP<|tN<|rZ<|SL.K (qV 1 aj ae I I I)<|oZ (sK 3 ae I I I I I sB)<|tZ<|rG<|lM I<|SL.K (qV 0 gw bQ I I I)<|lW (bS sty64 I I I (ab ⟨I,trivial⟩) dC) ?_;rintro _ _ _ ⟨a5,rfl,rfl,rfl⟩;refine lW (aP (e:=ox) (l:=D) 2 ⟨⟨y1,y2,y3⟩,y4⟩ sty64 I I I I I oM oM) ?_;rintro ov' _ _ ⟨rfl,rfl⟩;exact lA I<|SL.nil<|bN<|tN<|rG<|lM I<|yD I<|lA I<|SL.nil<|dR (.cons _<|.cons _<|.refl _)<|ST.again (k+1,g2,(dM B e).2,d1,d3,ov',D++[⟨⟨y1,y2,y3⟩,y4⟩],ss++[imO B e]) sB I I ⟨by dsimp only; omega,j.trans a,C,a0,(y.mono fun _ _=>StK.mono a).append ⟨M,trivial⟩,by dsimp only; rw[ze7,ze9]; omega,m⟩ (by dsimp only; omega)
   ·rw[yT oM] at m;refine xI (tX<|tX<|bX<|tN<|sQ<|fS fun g2 a R=>?_);obtain ⟨q2,d2,rfl⟩:=zc3 R;refine rG<|SL.K (qV 0 aj ae I I I)<|lM I<|oZ (sK 1 ae I I I I I sB)<|lA I<|lA I<|aT I<|rE ?_;rw[m];exact ST.retC3 1 s (.inl I) results69 I I I I aj ae I I (.cons _<|.cons _<|.cons _<|.refl _) ⟨I,f.trans<|j.trans a,_,_,_,_,I,hB.mono a,D,R,y.mono fun _ _=>StK.mono a⟩
set_option maxHeartbeats 8000000
def zB9:List Cl:=[⟨1,0,[]⟩,⟨2,0,[]⟩,⟨3,0,[]⟩,⟨4,1,[⟨1,-1⟩,⟨2,1⟩]⟩,⟨5,1,[⟨2,-1⟩,⟨3,1⟩]⟩]
def eA:Ed:=⟨1,6,1,0,0,[⟨1,-1⟩,⟨3,1⟩],[]⟩
def eC:Ed:=⟨1,7,0,0,0,[],[]⟩
def eD:Ed:=⟨1,6,1,0,0,[⟨3,-1⟩,⟨1,1⟩],[]⟩
def e5:Ed:=⟨2,5,0,0,0,[],[]⟩
def e3:Ed:=⟨2,3,0,0,0,[],[]⟩
def eT:Ed:=⟨1,5,1,0,0,[⟨3,-1⟩,⟨2,1⟩],[]⟩
def sA:List Cl:=zB9++[⟨6,1,[⟨1,-1⟩,⟨3,1⟩]⟩]
def sC:List Cl:=zB9++[⟨7,0,[]⟩]
def sD:List Cl:=zB9++[⟨6,1,[⟨1,1⟩,⟨3,-1⟩]⟩]
def sE:List Cl:=[⟨1,0,[]⟩,⟨2,0,[]⟩,⟨4,1,[⟨1,-1⟩,⟨2,1⟩]⟩]
def sT:List Cl:=[⟨1,0,[]⟩,⟨2,0,[]⟩,⟨3,0,[]⟩,⟨4,1,[⟨1,-1⟩,⟨2,1⟩]⟩,⟨5,1,[⟨2,1⟩,⟨3,-1⟩]⟩]
theorem E3:dA [1,2]=[1,2]:=by
 unfold dA;rw[xP dC];rfl
theorem EX:dy [[0,1],[1,2]]=zB9:=by
 simp only[dy,aW,E4,E3];rfl
theorem FO:(ig zB9 [eA]).2.1=sA:=by kernel_rfl
theorem GK:(ig zB9 [eC]).2.1=sC:=by kernel_rfl
theorem FN:(ig zB9 [eD]).2.1=sD:=by kernel_rfl
theorem GJ:(ig zB9 [e5,e3]).2.1=sE:=by kernel_rfl
theorem FM:(ig zB9 [e5,eT]).2.1=sT:=by kernel_rfl
theorem Da:eR (aa zB9) (aa sA) (aa sC)=(sA++[⟨7,0,[]⟩],[]):=by kernel_rfl
theorem C9:(eR (aa zB9) (aa sA)<|aa sD)=([],[6]):=by kernel_rfl
theorem C8:(eR (aa zB9) (aa sA)<|aa sE)=([],[6]):=by kernel_rfl
theorem ed_E:wl (aa zB9) (aa sE)=[e5,e3]:=by kernel_rfl
theorem ed_T:wl (aa zB9) (aa sT)=[e5,⟨1,5,1,0,0,[⟨2,1⟩,⟨3,-1⟩],[]⟩]:=by kernel_rfl
theorem lq:(ap zB9).2=0∧(ap sA).2=0∧(ap sC).2=0∧(ap sD).2=0∧(ap sE).2=0∧(ap sT).2=0:=by decide +kernel
theorem GI {es:List Ed}(h:∀ e∈es,e.sides.length<1099511627776∧(e.kind=1∨e.kind=2)):∀ e∈es,FB e:=fun e a=>Fu (h e a).1 (h e a).2
theorem mO {es:List Ed}(h:es.all (fun e=>decide (e.sides.length<1099511627776∧(e.kind=1∨e.kind=2)))=true):∀ e∈es,FB e:=GI fun e a=>zg5 (p:=e.sides.length<1099511627776∧(e.kind=1∨e.kind=2)) (zk2.1 h e a)
theorem dJ (E:World)(g:PH)(s:Own)(v ev:Value)(l:List Cl)(es:List Ed)(d:ai g v l)(j:aJ l)(f:Eds g ev es)(k:∀ e∈es,FB e)(b:es.length<1099511627776) :
  Ctr Tryz.prog E 66 #[.agg #[v],ev] g s (fun r g' s'=>s=s'∧Le g g'∧∃ u,r = .agg #[u]∧ai g' u (ig l es).2.1):=by
 obtain ⟨p,c,rfl⟩:=d.form;obtain ⟨pe,ce,rfl⟩:=f.form;refine zb2 (args:=[.agg #[.slice p l.length c],.slice pe es.length ce]) func66 I ntmps66 (bE I)<|rZ (bW (bO I) fun b2=>?_);refine bW (aL zl9) fun b4=>tZ<|rZ<|SL.K (qV 1 aj ae I I I)<|lM I<|lW (SO.call call23 I<|BT E g _ _ _ l es d j f k b) ?_;rintro _ g1 _ ⟨rfl,a,m⟩;obtain ⟨u,p1,n1,c1,rfl,i,n⟩:=m;obtain ⟨pu,cu,rfl⟩:=i.form;refine lM I (yX I<|yX I<|yX I<|yX I<|bW (aL zl9) fun b5=>?_);exact oZ (sK 0 ae I I I I I sB)<|lA I<|lA I<|aT I<|rZ<|SL.K (qV 0 aj ae I I I)<|oZ (sK 1 ae I I I I I sB)<|tZ<|rE<|ST.retCD 1 s (.inl I) results66 I aj ae I I uR ⟨I,a,_,I,i⟩
theorem fJ (E:World)(g:PH)(s:Own)(id a b:Int) :
  Ctr Tryz.prog E 67 #[vi id,vi a,vi b] g s (fun r g' s'=>s=s'∧Le g g'∧EdR g' r ⟨1,id,1,0,0,[⟨a,-1⟩,⟨b,1⟩],[]⟩):=by
 refine zb2 (args:=[vi id,vi a,vi b]) func67 I ntmps67 (bE I)<|rZ (bW (aL zm3) fun b6=>?_);refine tZ<|sW I<|lM I<|lU (za3 I<|buildS75 _ _)<|lM I<|lU (za3 I<|buildS75 _ _)<|lW (bS sty39 I I I (ab sB) dC) ?_;rintro _ _ _ ⟨d,rfl,rfl,rfl⟩;refine zb5 fun g1 c e=>?_;have f:SlA encSide g1 (.slice (some ⟨d,0,none⟩) 2 2) [⟨a,-1⟩,⟨b,1⟩]:=SlA.lit e rfl rfl;refine lU (za3 I<|xA42 _ _ _ _ _ _)<|oZ (sK 0 eu rfl rfl rfl rfl rfl<|by (repeat' (first | exact trivial | refine⟨by rfl,?_⟩))) ?_;refine tZ<|rE ?_;exact ST.retCD 0 s (.inl I) results67 I j3 eu I I uR ⟨I,c,_,_,I,f,zc1 _ _⟩
theorem eo:aJ zB9:=jW dC dC
theorem vR:aJ sA:=jW dC dC
theorem E7:aJ sC:=jW dC dC
theorem E6:aJ sD:=jW dC dC
theorem AZ:aJ sE:=jW dC dC
theorem E5:aJ sT:=jW dC dC
theorem vQ {b l r:List Cl}(h:(b++(l++r)).all (fun c=>decide (0≤c.id∧c.id<1000))=true):∀ x,x∈b∨x∈l∨x∈r→a7 x.id:=by
 intro x a;have d:=zk2.1 h x (by simpa using a);have e:=zg5 d;exact⟨oM,oM⟩
theorem uA {g:PH}{e:Ed}{r:Er}(h:EdK g e r):r.kind=e.kind∧r.cell=e.cell:=by
 obtain ⟨sv,pv,e1,_,_⟩:=h;have e2:ia.enc r=[vi e.kind,vi e.cell,vi e.dim,vi e.new,vi e.other,sv,pv]:=by
  have e3:(ia.enc r).toArray = #[vi e.kind,vi e.cell,vi e.dim,vi e.new,vi e.other,sv,pv]:=Value.agg.inj e1;exact ze4 Array.toList e3
 exact⟨(Value.int.inj (List.cons.inj e2).1).2,(Value.int.inj (List.cons.inj (List.cons.inj e2).2).1).2⟩
theorem AR {g:PH}{v:Value}{a b:Ed}(h:Eds g v [a,b]):∃ d1 n1 o1 s1 p1 d2 n2 o2 s2 p2,SlA ia g v [⟨a.kind,a.cell,d1,n1,o1,s1,p1⟩,⟨b.kind,b.cell,d2,n2,o2,s2,p2⟩]:=by
 obtain ⟨rs,c,d⟩:=h;obtain ⟨r,m,rfl,hr,e⟩:=ax.cons_left d;obtain ⟨q,m2,rfl,f,i⟩:=ax.cons_left e;obtain rfl:=ax.nil_left i;obtain ⟨e1,e2⟩:=uA hr;obtain ⟨e3,e4⟩:=uA f;refine⟨r.dim,r.new,r.other,r.sv,r.pv,q.dim,q.new,q.other,q.sv,q.pv,?_⟩;rw[← e1,← e2,← e3,← e4];exact c
theorem dj {g:PH}{v:Value}{n:Nat}{l:List Cl}(h:ai g v l)(hl:l.length=n):∃ p c,v = .slice p n c:=by
 subst hl;exact h.form
theorem iS {g:PH}{v:Value}{n:Nat}{l:List Int}(h:dp g v l)(hl:l.length=n):∃ p c,v = .slice p n c:=by
 subst hl;exact za4 h
theorem SX.freeze {P:Program}{N:Nat}{E:World}{ops:Array Oper}{Q:Exit→Act→World→Prop}{g0:PH}{s0:Own}{tail:List Nat}{f:Fr}{g:PH}{s:Own}{L:Array Bool}{n:Nat}{b:Nat}{o:Obj}(h:∀ g',Le g g'→g' b=some o→SX P N E ops Q g0 s0 tail L n f g' s):SX P N E ops Q g0 s0 tail L n f g (pt b o::s):=fun a w i c j d hb=>by
 have e:=d.own (pt b o) (by simp);simp only[pt,Option.bind_some] at e;obtain ⟨k,l⟩:=d.freeze (b:=b) rfl e;exact h _ l (fc _ _ _) a w i c j k hb
theorem tz (E:World)(O:E.drawn=0)(g:PH)(s:Own):Ctr Tryz.prog E 16 #[] g s (fun r g' s'=>r=vb true∧s=s'∧Le g g'):=by
 refine zb2 (args:=[]) func16 I ntmps16 (bE I)<|rZ<|aT I<|rZ<|lW (bS sty52 I I I (ab sB) dC) ?_;rintro _ _ _ ⟨R,rfl,rfl,rfl⟩;refine zb5 fun g1 b S=>?_;have J:SlA encInt g1 (.slice (some ⟨R,0,none⟩) 2 2) [0,1]:=SlA.lit S rfl rfl;have c:=b;clear b;refine lW (bS sty52 I I I (ab sB) dC) ?_;rintro _ _ _ ⟨T,rfl,rfl,rfl⟩;refine zb5 fun g2 b U=>?_;have V:SlA encInt g2 (.slice (some ⟨T,0,none⟩) 2 2) [1,2]:=SlA.lit U rfl rfl;have J:=za5 J b;have c:=c.trans b;clear b;refine lW (bS sty22 I I I (ab sB) dC) ?_;rintro _ _ _ ⟨d1,rfl,rfl,rfl⟩;refine zb5 fun g3 b W=>?_;have X:cU g3 (.slice (some ⟨d1,0,none⟩) 2 2) [[0,1],[1,2]]:=⟨[jD<|.slice (some ⟨R,0,none⟩) 2 2,jD<|.slice (some ⟨T,0,none⟩) 2 2],SlA.lit W rfl rfl,⟨za5 J b,za5 V b,trivial⟩⟩;have c:=c.trans b;clear b;refine lW (SO.call call65 I<|qi E g3 _ _ _ X dC dC) ?_;rintro _ g4 _ ⟨rfl,b,uB,rfl,hB⟩;rw[EX] at hB;obtain ⟨pB,cB,rfl⟩:=dj (n:=5) hB rfl;have c:=c.trans b;clear b;refine bW (aL zl9) fun b1=>oZ (sK 0 ae I I I I I sB)<|tZ<|SC.cut (ι:=Nat×PH×Option Addr×Nat) (fun i=>[(1,pp b1 0),(2,pp i.1 0)]) (fun i=>i.2.1) (fun i=>pt i.1 (.cells #[.slice i.2.2.1 6 i.2.2.2] 29 (0,0))::pt b1 (.cells #[.slice pB 5 cB] 29 (0,0))::s) (fun i=>Le g4 i.2.1∧ai i.2.1 (.slice i.2.2.1 6 i.2.2.2) sA) ?_ ?_
 ·refine SC.drawX [5] ze5 kR ?_;refine SX.q (i:=0) I kR (qV 0 aj ae I I I) dC ?_
  repeat' (first
   | ((with_reducible refine SB.k 5 ?_); refine SB.on (i:=5) I (sK 0 ae I I I I I ⟨I,trivial⟩) (.inl dC) ?_; rintro _ _ _ ⟨rfl,rfl⟩)
   | ((with_reducible refine SB.k 4 ?_); first | (refine SB.o (i:=4) rfl (aL zl9) dC (.inr (by rintro _ _ _ ⟨bv,rfl,rfl,rfl⟩; exact⟨by assumption,(by exact .cons _<|.refl _)⟩)) ?_; rintro _ _ _ ⟨bv,rfl,rfl,rfl⟩) | (refine SB.o (i:=4) rfl (aL zl9) dC (.inr (by rintro _ _ _ ⟨bv,rfl,rfl,rfl⟩; exact⟨by exact zb9 _,(by exact .cons _<|.refl _)⟩)) ?_; rintro _ _ _ ⟨bv,rfl,rfl,rfl⟩))
   | ((with_reducible refine SB.k 3 ?_); first | (refine SB.o (i:=3) rfl (SO.call call66 rfl<|dJ E g6 _ _ _ zB9 [eA] (hB.mono d) eo L (mO dC) dC) dC (.inr (by rintro _ g7 _ ⟨rfl,f,uu,rfl,t⟩; exact⟨by exact Le.trans (by assumption) (by assumption),(by exact .refl _)⟩)) ?_; rintro _ g7 _ ⟨rfl,f,uu,rfl,t⟩; rw[FO] at t; obtain ⟨pu,cu,rfl⟩:=dj (n:=6) t rfl; have w:=d.trans f) | (refine SB.o (i:=3) rfl (SO.call call66 rfl<|dJ E g6 _ _ _ zB9 [eA] (hB.mono d) eo L (mO dC) dC) dC (.inr (by rintro _ g7 _ ⟨rfl,f,uu,rfl,t⟩; exact⟨by exact Le.trans (by assumption) (by assumption),(by exact .cons _<|.refl _)⟩)) ?_; rintro _ g7 _ ⟨rfl,f,uu,rfl,t⟩; rw[FO] at t; obtain ⟨pu,cu,rfl⟩:=dj (n:=6) t rfl; have w:=d.trans f))
   | ((with_reducible refine SB.k 2 ?_); first | (refine SB.o (i:=2) rfl (bS sty62 rfl rfl rfl (ab ⟨rfl,trivial⟩) dC) dC (.inr (by rintro _ _ _ ⟨bs,rfl,rfl,rfl⟩; exact⟨by assumption,(by exact .cons _<|.refl _)⟩)) ?_; rintro _ _ _ ⟨bs,rfl,rfl,rfl⟩; refine SX.freeze fun g6 j y=>?_; have L:Eds g6 (.slice (some ⟨bs,0,none⟩) 1 1) [eA]:=⟨[⟨k1,k2,k3,k4,k5,⟨k6,k7,k8⟩,⟨k9,k10,k11⟩⟩],SlA.lit y rfl rfl,⟨EdK.mono j m,trivial⟩⟩; have d:=l.trans j) | (refine SB.o (i:=2) rfl (bS sty62 rfl rfl rfl (ab ⟨rfl,trivial⟩) dC) dC (.inr (by rintro _ _ _ ⟨bs,rfl,rfl,rfl⟩; exact⟨by assumption,(by exact .cons _<|.cons _<|.refl _)⟩)) ?_; rintro _ _ _ ⟨bs,rfl,rfl,rfl⟩; refine SX.freeze fun g6 j y=>?_; have L:Eds g6 (.slice (some ⟨bs,0,none⟩) 1 1) [eA]:=⟨[⟨k1,k2,k3,k4,k5,⟨k6,k7,k8⟩,⟨k9,k10,k11⟩⟩],SlA.lit y rfl rfl,⟨EdK.mono j m,trivial⟩⟩; have d:=l.trans j))
   | ((with_reducible refine SB.k 1 ?_); first | (refine SB.o (i:=1) rfl (SO.call call67 rfl<|fJ E g4 _ 6 1 3) dC (.inr (by rintro _ g5 _ ⟨rfl,l,m⟩; exact⟨by assumption,(by exact .refl _)⟩)) ?_; rintro _ g5 _ ⟨rfl,l,m⟩; obtain ⟨⟨k1,k2,k3,k4,k5,⟨k6,k7,k8⟩,⟨k9,k10,k11⟩⟩,rfl,m⟩:=EdR.rc m) | (refine SB.o (i:=1) rfl (SO.call call67 rfl<|fJ E g4 _ 6 1 3) dC (.inr (by rintro _ g5 _ ⟨rfl,l,m⟩; exact⟨by assumption,(by exact .cons _<|.refl _)⟩)) ?_; rintro _ g5 _ ⟨rfl,l,m⟩; obtain ⟨⟨k1,k2,k3,k4,k5,⟨k6,k7,k8⟩,⟨k9,k10,k11⟩⟩,rfl,m⟩:=EdR.rc m))
   | ((with_reducible refine SX.k 4 ?_); first | refine zd7 1 kD ?_ | refine zd8 2 4 kD ?_ ?_)
   | ((with_reducible refine SX.k 3 ?_); first | refine zd7 2 kD ?_ | refine zd8 3 4 kD ?_ ?_)
   | ((with_reducible refine SX.k 2 ?_); first | refine zd7 4 kD ?_ | refine zd7 3 kD ?_)
   | ((with_reducible refine SX.k 1 ?_); refine zd7 5 kD ?_)
   | ((with_reducible refine SX.k 0 ?_); refine SX.nil kD ?_; exact za9 (bv,g7,pu,cu) sB I I ⟨w,t⟩)
   | (refine SX.k 5 ?_; refine zd8 1 4 kD ?_ ?_))
 rintro ⟨b2,g8,pA,cA⟩ ⟨b,hA⟩;dsimp only at b hA ⊢;have hB:=hB.mono b;have c:=c.trans b;clear b;refine rZ<|SL.K (qV 1 aj ae I I I)<|lU (za3 I<|xB42 _ _)<|lW (bS sty62 I I I (ab ⟨I,trivial⟩) dC) ?_;rintro _ _ _ ⟨d2,rfl,rfl,rfl⟩;refine zb5 fun g9 b Y=>?_;have Z:Eds g9 (.slice (some ⟨d2,0,none⟩) 1 1) [eC]:=⟨[⟨1,7,0,0,0,⟨none,0,0⟩,⟨none,0,0⟩⟩],SlA.lit Y rfl rfl,⟨⟨_,_,rfl,zc1 _ _,zc1 _ _⟩,trivial⟩⟩;have hB:=hB.mono b;have hA:=hA.mono b;have c:=c.trans b;clear b;refine lW (SO.call call66 I<|dJ E g9 _ _ _ zB9 [eC] hB eo Z (mO dC) dC) ?_;rintro _ g10 _ ⟨rfl,b,uC,rfl,x⟩;rw[GK] at x;obtain ⟨pC,cC,rfl⟩:=dj (n:=6) x rfl;have hB:=hB.mono b;have hA:=hA.mono b;have c:=c.trans b;clear b;refine bW (aL zl9) fun b3=>oZ (sK 0 ae I I I I I sB)<|tZ<|SC.cut (ι:=Nat×PH×Option Addr×Nat) (fun i=>[(1,pp b1 0),(2,pp b2 0),(3,pp b3 0),(4,pp i.1 0)]) (fun i=>i.2.1) (fun i=>pt i.1 (.cells #[.slice i.2.2.1 6 i.2.2.2] 29 (0,0))::pt b3 (.cells #[.slice pC 6 cC] 29 (0,0))::pt b2 (.cells #[.slice pA 6 cA] 29 (0,0))::pt b1 (.cells #[.slice pB 5 cB] 29 (0,0))::s) (fun i=>Le g10 i.2.1∧ai i.2.1 (.slice i.2.2.1 6 i.2.2.2) sD) ?_ ?_
 ·refine SC.drawX [5] ze5 kR ?_;refine SX.q (i:=0) I kR (qV 2 aj ae I I I) dC ?_
  repeat' (first
   | ((with_reducible refine SB.k 5 ?_); refine SB.on (i:=5) I (sK 0 ae I I I I I ⟨I,trivial⟩) (.inl dC) ?_; rintro _ _ _ ⟨rfl,rfl⟩)
   | ((with_reducible refine SB.k 4 ?_); first | (refine SB.o (i:=4) rfl (aL zl9) dC (.inr (by rintro _ _ _ ⟨bv,rfl,rfl,rfl⟩; exact⟨by assumption,(by exact .cons _<|.refl _)⟩)) ?_; rintro _ _ _ ⟨bv,rfl,rfl,rfl⟩) | (refine SB.o (i:=4) rfl (aL zl9) dC (.inr (by rintro _ _ _ ⟨bv,rfl,rfl,rfl⟩; exact⟨by exact zb9 _,(by exact .cons _<|.refl _)⟩)) ?_; rintro _ _ _ ⟨bv,rfl,rfl,rfl⟩))
   | ((with_reducible refine SB.k 3 ?_); first | (refine SB.o (i:=3) rfl (SO.call call66 rfl<|dJ E M _ _ _ zB9 [eD] (hB.mono d) eo L (mO dC) dC) dC (.inr (by rintro _ g13 _ ⟨rfl,f,uu,rfl,t⟩; exact⟨by exact Le.trans (by assumption) (by assumption),(by exact .refl _)⟩)) ?_; rintro _ g13 _ ⟨rfl,f,uu,rfl,t⟩; rw[FN] at t; obtain ⟨pu,cu,rfl⟩:=dj (n:=6) t rfl; have w:=d.trans f) | (refine SB.o (i:=3) rfl (SO.call call66 rfl<|dJ E M _ _ _ zB9 [eD] (hB.mono d) eo L (mO dC) dC) dC (.inr (by rintro _ g13 _ ⟨rfl,f,uu,rfl,t⟩; exact⟨by exact Le.trans (by assumption) (by assumption),(by exact .cons _<|.refl _)⟩)) ?_; rintro _ g13 _ ⟨rfl,f,uu,rfl,t⟩; rw[FN] at t; obtain ⟨pu,cu,rfl⟩:=dj (n:=6) t rfl; have w:=d.trans f))
   | ((with_reducible refine SB.k 2 ?_); first | (refine SB.o (i:=2) rfl (bS sty62 rfl rfl rfl (ab ⟨rfl,trivial⟩) dC) dC (.inr (by rintro _ _ _ ⟨bs,rfl,rfl,rfl⟩; exact⟨by assumption,(by exact .cons _<|.refl _)⟩)) ?_; rintro _ _ _ ⟨bs,rfl,rfl,rfl⟩; refine SX.freeze fun M j y=>?_; have L:Eds M (.slice (some ⟨bs,0,none⟩) 1 1) [eD]:=⟨[⟨k1,k2,k3,k4,k5,⟨k6,k7,k8⟩,⟨k9,k10,k11⟩⟩],SlA.lit y rfl rfl,⟨EdK.mono j m,trivial⟩⟩; have d:=l.trans j) | (refine SB.o (i:=2) rfl (bS sty62 rfl rfl rfl (ab ⟨rfl,trivial⟩) dC) dC (.inr (by rintro _ _ _ ⟨bs,rfl,rfl,rfl⟩; exact⟨by assumption,(by exact .cons _<|.cons _<|.refl _)⟩)) ?_; rintro _ _ _ ⟨bs,rfl,rfl,rfl⟩; refine SX.freeze fun M j y=>?_; have L:Eds M (.slice (some ⟨bs,0,none⟩) 1 1) [eD]:=⟨[⟨k1,k2,k3,k4,k5,⟨k6,k7,k8⟩,⟨k9,k10,k11⟩⟩],SlA.lit y rfl rfl,⟨EdK.mono j m,trivial⟩⟩; have d:=l.trans j))
   | ((with_reducible refine SB.k 1 ?_); first | (refine SB.o (i:=1) rfl (SO.call call67 rfl<|fJ E g10 _ 6 3 1) dC (.inr (by rintro _ g11 _ ⟨rfl,l,m⟩; exact⟨by assumption,(by exact .refl _)⟩)) ?_; rintro _ g11 _ ⟨rfl,l,m⟩; obtain ⟨⟨k1,k2,k3,k4,k5,⟨k6,k7,k8⟩,⟨k9,k10,k11⟩⟩,rfl,m⟩:=EdR.rc m) | (refine SB.o (i:=1) rfl (SO.call call67 rfl<|fJ E g10 _ 6 3 1) dC (.inr (by rintro _ g11 _ ⟨rfl,l,m⟩; exact⟨by assumption,(by exact .cons _<|.refl _)⟩)) ?_; rintro _ g11 _ ⟨rfl,l,m⟩; obtain ⟨⟨k1,k2,k3,k4,k5,⟨k6,k7,k8⟩,⟨k9,k10,k11⟩⟩,rfl,m⟩:=EdR.rc m))
   | ((with_reducible refine SX.k 4 ?_); first | refine zd7 1 kD ?_ | refine zd8 2 4 kD ?_ ?_)
   | ((with_reducible refine SX.k 3 ?_); first | refine zd7 2 kD ?_ | refine zd8 3 4 kD ?_ ?_)
   | ((with_reducible refine SX.k 2 ?_); first | refine zd7 4 kD ?_ | refine zd7 3 kD ?_)
   | ((with_reducible refine SX.k 1 ?_); refine zd7 5 kD ?_)
   | ((with_reducible refine SX.k 0 ?_); refine SX.nil kD ?_; exact za9 (bv,g13,pu,cu) sB I I ⟨w,t⟩)
   | (refine SX.k 5 ?_; refine zd8 1 4 kD ?_ ?_))
 rintro ⟨b4,h4,pD,cD⟩ ⟨b,A⟩;dsimp only at b A ⊢;have hB:=hB.mono b;have hA:=hA.mono b;have x:=x.mono b;have c:=c.trans b;clear b;refine rZ<|SL.K (qV 3 aj ae I I I)<|lU (za3 I<|xB42 _ _)<|lU (za3 I<|xB42 _ _)<|lW (bS sty62 I I I (ab sB) dC) ?_;rintro _ _ _ ⟨d3,rfl,rfl,rfl⟩;refine zb5 fun a0 b a1=>?_;have a2:Eds a0 (.slice (some ⟨d3,0,none⟩) 2 2) [e5,e3]:=⟨[⟨2,5,0,0,0,⟨none,0,0⟩,⟨none,0,0⟩⟩,⟨2,3,0,0,0,⟨none,0,0⟩,⟨none,0,0⟩⟩],SlA.lit a1 rfl rfl,⟨⟨_,_,rfl,zc1 _ _,zc1 _ _⟩,⟨_,_,rfl,zc1 _ _,zc1 _ _⟩,trivial⟩⟩;have hB:=hB.mono b;have hA:=hA.mono b;have x:=x.mono b;have A:=A.mono b;have c:=c.trans b;clear b;refine lW (SO.call call66 I<|dJ E a0 _ _ _ zB9 [e5,e3] hB eo a2 (mO dC) dC) ?_;rintro _ g16 _ ⟨rfl,b,uE,rfl,C⟩;rw[GJ] at C;obtain ⟨pE,cE,rfl⟩:=dj (n:=3) C rfl;have hB:=hB.mono b;have hA:=hA.mono b;have x:=x.mono b;have A:=A.mono b;have c:=c.trans b;clear b;refine bW (aL zl9) fun b5=>oZ (sK 0 ae I I I I I sB)<|tZ<|SC.cut (ι:=Nat×PH×Option Addr×Nat) (fun i=>[(1,pp b1 0),(2,pp b2 0),(3,pp b3 0),(4,pp b4 0),(5,pp b5 0),(6,pp i.1 0)]) (fun i=>i.2.1) (fun i=>pt i.1 (.cells #[.slice i.2.2.1 5 i.2.2.2] 29 (0,0))::pt b5 (.cells #[.slice pE 3 cE] 29 (0,0))::pt b4 (.cells #[.slice pD 6 cD] 29 (0,0))::pt b3 (.cells #[.slice pC 6 cC] 29 (0,0))::pt b2 (.cells #[.slice pA 6 cA] 29 (0,0))::pt b1 (.cells #[.slice pB 5 cB] 29 (0,0))::s) (fun i=>Le g16 i.2.1∧ai i.2.1 (.slice i.2.2.1 5 i.2.2.2) sT) ?_ ?_
 ·refine SC.drawX [6] ze5 kR ?_;refine SX.q (i:=0) I kR (qV 4 aj ae I I I) dC<|SX.u (i:=1) I kR (za3 I<|xB42 _ _) dC ?_
  repeat' (first
   | ((with_reducible refine SB.k 6 ?_); refine SB.on (i:=6) I (sK 0 ae I I I I I ⟨I,trivial⟩) (.inl dC) ?_; rintro _ _ _ ⟨rfl,rfl⟩)
   | ((with_reducible refine SB.k 5 ?_); first | (refine SB.o (i:=5) rfl (aL zl9) dC (.inr (by rintro _ _ _ ⟨bv,rfl,rfl,rfl⟩; exact⟨by assumption,(by exact .cons _<|.refl _)⟩)) ?_; rintro _ _ _ ⟨bv,rfl,rfl,rfl⟩) | (refine SB.o (i:=5) rfl (aL zl9) dC (.inr (by rintro _ _ _ ⟨bv,rfl,rfl,rfl⟩; exact⟨by exact zb9 _,(by exact .cons _<|.refl _)⟩)) ?_; rintro _ _ _ ⟨bv,rfl,rfl,rfl⟩))
   | ((with_reducible refine SB.k 4 ?_); first | (refine SB.o (i:=4) rfl (SO.call call66 rfl<|dJ E N _ _ _ zB9 [e5,eT] (hB.mono d) eo L (mO dC) dC) dC (.inr (by rintro _ g19 _ ⟨rfl,f,uu,rfl,t⟩; exact⟨by exact Le.trans (by assumption) (by assumption),(by exact .refl _)⟩)) ?_; rintro _ g19 _ ⟨rfl,f,uu,rfl,t⟩; rw[FM] at t; obtain ⟨pu,cu,rfl⟩:=dj (n:=5) t rfl; have w:=d.trans f) | (refine SB.o (i:=4) rfl (SO.call call66 rfl<|dJ E N _ _ _ zB9 [e5,eT] (hB.mono d) eo L (mO dC) dC) dC (.inr (by rintro _ g19 _ ⟨rfl,f,uu,rfl,t⟩; exact⟨by exact Le.trans (by assumption) (by assumption),(by exact .cons _<|.refl _)⟩)) ?_; rintro _ g19 _ ⟨rfl,f,uu,rfl,t⟩; rw[FM] at t; obtain ⟨pu,cu,rfl⟩:=dj (n:=5) t rfl; have w:=d.trans f))
   | ((with_reducible refine SB.k 3 ?_); first | (refine SB.o (i:=3) rfl (bS sty62 rfl rfl rfl (ab sB) dC) dC (.inr (by rintro _ _ _ ⟨bs,rfl,rfl,rfl⟩; exact⟨by assumption,(by exact .cons _<|.refl _)⟩)) ?_; rintro _ _ _ ⟨bs,rfl,rfl,rfl⟩; refine SX.freeze fun N j y=>?_; have L:Eds N (.slice (some ⟨bs,0,none⟩) 2 2) [e5,eT]:=⟨[⟨2,5,0,0,0,⟨none,0,0⟩,⟨none,0,0⟩⟩,⟨k1,k2,k3,k4,k5,⟨k6,k7,k8⟩,⟨k9,k10,k11⟩⟩],SlA.lit y rfl rfl,⟨⟨_,_,rfl,zc1 _ _,zc1 _ _⟩,EdK.mono j m,trivial⟩⟩; have d:=l.trans j) | (refine SB.o (i:=3) rfl (bS sty62 rfl rfl rfl (ab sB) dC) dC (.inr (by rintro _ _ _ ⟨bs,rfl,rfl,rfl⟩; exact⟨by assumption,(by exact .cons _<|.cons _<|.refl _)⟩)) ?_; rintro _ _ _ ⟨bs,rfl,rfl,rfl⟩; refine SX.freeze fun N j y=>?_; have L:Eds N (.slice (some ⟨bs,0,none⟩) 2 2) [e5,eT]:=⟨[⟨2,5,0,0,0,⟨none,0,0⟩,⟨none,0,0⟩⟩,⟨k1,k2,k3,k4,k5,⟨k6,k7,k8⟩,⟨k9,k10,k11⟩⟩],SlA.lit y rfl rfl,⟨⟨_,_,rfl,zc1 _ _,zc1 _ _⟩,EdK.mono j m,trivial⟩⟩; have d:=l.trans j))
   | ((with_reducible refine SB.k 2 ?_); first | (refine SB.o (i:=2) rfl (SO.call call67 rfl<|fJ E g16 _ 5 3 2) dC (.inr (by rintro _ g17 _ ⟨rfl,l,m⟩; exact⟨by assumption,(by exact .refl _)⟩)) ?_; rintro _ g17 _ ⟨rfl,l,m⟩; obtain ⟨⟨k1,k2,k3,k4,k5,⟨k6,k7,k8⟩,⟨k9,k10,k11⟩⟩,rfl,m⟩:=EdR.rc m) | (refine SB.o (i:=2) rfl (SO.call call67 rfl<|fJ E g16 _ 5 3 2) dC (.inr (by rintro _ g17 _ ⟨rfl,l,m⟩; exact⟨by assumption,(by exact .cons _<|.refl _)⟩)) ?_; rintro _ g17 _ ⟨rfl,l,m⟩; obtain ⟨⟨k1,k2,k3,k4,k5,⟨k6,k7,k8⟩,⟨k9,k10,k11⟩⟩,rfl,m⟩:=EdR.rc m))
   | ((with_reducible refine SX.k 4 ?_); first | refine zd7 2 kD ?_ | refine zd8 3 5 kD ?_ ?_)
   | ((with_reducible refine SX.k 3 ?_); first | refine zd7 3 kD ?_ | refine zd8 4 5 kD ?_ ?_)
   | ((with_reducible refine SX.k 2 ?_); first | refine zd7 5 kD ?_ | refine zd7 4 kD ?_)
   | ((with_reducible refine SX.k 1 ?_); refine zd7 6 kD ?_)
   | ((with_reducible refine SX.k 0 ?_); refine SX.nil kD ?_; exact za9 (bv,g19,pu,cu) sB I I ⟨w,t⟩)
   | (refine SX.k 5 ?_; refine zd8 2 5 kD ?_ ?_))
 rintro ⟨b6,d4,pT,cT⟩ ⟨b,G⟩;dsimp only at b G ⊢;have hB:=hB.mono b;have hA:=hA.mono b;have x:=x.mono b;have A:=A.mono b;have C:=C.mono b;have c:=c.trans b;clear b;refine rZ<|SL.K (qV 5 aj ae I I I)<|SL.K (qV 4 aj ae I I I)<|SL.K (qV 3 aj ae I I I)<|lW (SO.call call18 I<|fE E O d4 _ _ _ _ zB9 sA sC hB hA x eo vR E7 lq.1 lq.2.1 lq.2.2.1 (vQ dC) dC) ?_;rintro _ g21 _ ⟨rfl,b,h5,h6,rfl,a3,a4⟩;rw[Da] at a3 a4;obtain ⟨d5,d6,rfl⟩:=dj (n:=7) a3 rfl;obtain ⟨h7,h8,rfl⟩:=iS (n:=0) a4 rfl;have hB:=hB.mono b;have hA:=hA.mono b;have x:=x.mono b;have A:=A.mono b;have C:=C.mono b;have G:=G.mono b;have c:=c.trans b;clear b;refine lM I (yX I<|yX I<|bW (aL zl9) fun b7=>?_);refine oZ (sK 0 ae I I I I I sB)<|aT I<|rZ<|SL.K (qV 6 aj ae I I I)<|SL.K (qV 5 aj ae I I I)<|SL.K (qV 3 aj ae I I I)<|lW (SO.call call18 I<|fE E O g21 _ _ _ _ zB9 sA sD hB hA A eo vR E6 lq.1 lq.2.1 lq.2.2.2.1 (vQ dC) dC) ?_;rintro _ g22 _ ⟨rfl,b,h9,i0,rfl,a5,p⟩;rw[C9] at a5 p;obtain ⟨i1,i2,rfl⟩:=dj (n:=0) a5 rfl;obtain ⟨i3,j0,rfl⟩:=iS (n:=1) p rfl;have hB:=hB.mono b;have hA:=hA.mono b;have x:=x.mono b;have A:=A.mono b;have C:=C.mono b;have G:=G.mono b;have c:=c.trans b;clear b;refine lM I (yX I<|yX I<|bW (aL zl9) fun b9=>?_);refine oZ (sK 0 ae I I I I I sB)<|aT I<|rZ<|SL.K (qV 7 aj ae I I I)<|SL.K (qV 6 aj ae I I I)<|SL.K (qV 3 aj ae I I I)<|lW (SO.call call18 I<|fE E O g22 _ _ _ _ zB9 sA sE hB hA C eo vR AZ lq.1 lq.2.1 lq.2.2.2.2.1 (vQ dC) dC) ?_;rintro _ g23 _ ⟨rfl,b,j1,j2,rfl,a9,z⟩;rw[C8] at a9 z;obtain ⟨l0,l1,rfl⟩:=dj (n:=0) a9 rfl;obtain ⟨l2,l3,rfl⟩:=iS (n:=1) z rfl;have hB:=hB.mono b;have hA:=hA.mono b;have x:=x.mono b;have A:=A.mono b;have C:=C.mono b;have G:=G.mono b;have p:=za5 p b;have c:=c.trans b;clear b;refine lM I (yX I<|yX I<|bW (aL zl9) fun l4=>?_);refine oZ (sK 0 ae I I I I I sB)<|aT I<|rZ<|SL.K (qV 8 aj ae I I I)<|SL.K (qV 4 aj ae I I I)<|lW (SO.call call22 I<|pO E g23 _ _ _ zB9 sE hB C eo AZ lq.1 lq.2.2.2.2.1) ?_;rintro _ g24 _ ⟨rfl,b,P⟩;rw[ed_E] at P;obtain ⟨d7,d8,d9,e0,e1,e2,e4,e9,f1,f2,B⟩:=AR P;clear P;obtain ⟨f3,f4,rfl⟩:=za4 B;have H:based (.slice f3 2 f4)=true:=za6 B<|Nat.zero_lt_succ _;have hB:=hB.mono b;have hA:=hA.mono b;have x:=x.mono b;have A:=A.mono b;have C:=C.mono b;have G:=G.mono b;have p:=za5 p b;have z:=za5 z b;have c:=c.trans b;clear b;refine aT I<|rZ<|SL.K (qV 8 aj ae I I I)<|SL.K (qV 3 aj ae I I I)<|lW (SO.call call22 I<|pO E g24 _ _ _ zB9 sT hB G eo E5 lq.1 lq.2.2.2.2.2) ?_;rintro _ g25 _ ⟨rfl,b,Q⟩;rw[ed_T] at Q;obtain ⟨f5,f6,f7,f8,f9,b0,b8,c0,c1,c2,F⟩:=AR Q;clear Q;obtain ⟨h0,h1,rfl⟩:=za4 F;have D:based (.slice h0 2 h1)=true:=za6 F<|Nat.zero_lt_succ _;have hB:=hB.mono b;have hA:=hA.mono b;have x:=x.mono b;have A:=A.mono b;have C:=C.mono b;have G:=G.mono b;have p:=za5 p b;have z:=za5 z b;have B:=za5 B b;have c:=c.trans b;clear b;refine aT I<|sQ<|sW I<|lU (eN tQ I)<|lU (SU.eq (v':=vb false) (nQ I I) I)<|lM I<|yC I<|lY I I I (eN tQ I)<|lY I I I (SU.eq (v':=vb false) (nQ I I) I)<|yF I<|tZ<|za1 I<|kP<|tN<|rZ<|lU (fA dn I cq I)<|SL.K (qL (v:=.slice d5 7 d6) eh I<|cO 2 I I)<|lU (eN aB I)<|lU (SU.eq (v':=vb true) (eQ I I)<|ze4 vb<|zg1 I)<|lM I<|yC I<|lY I I I (eN az I)<|lY I I I (SU.eq (v':=vb true) (eQ I I)<|ze4 vb<|zg1 I)<|yP I<|lM I<|yC I<|ze3 (gT I I I dC) (bS sty52 I I I (ab ⟨I,trivial⟩) dC) dC ?_;rintro _ _ _ ⟨h2,rfl,rfl,rfl⟩;refine zb5 fun c3 b c5=>?_;have c6:SlA encInt c3 (.slice (some ⟨h2,0,none⟩) 1 1) [6]:=SlA.lit c5 rfl rfl;have hB:=hB.mono b;have hA:=hA.mono b;have x:=x.mono b;have A:=A.mono b;have C:=C.mono b;have G:=G.mono b;have p:=za5 p b;have z:=za5 z b;have B:=za5 B b;have F:=za5 F b;have c:=c.trans b;clear b;refine ze3 (gT I I I dC) (SO.call call68 I<|un E c3 _ _ _ [6] [6] p c6 dC) dC ?_;rintro _ _ _ ⟨rfl,rfl,rfl⟩;rw[show decide (([6]:List Int)=[6])=true from rfl];refine yP I<|lM I<|yC I<|ze3 (gT I I I dC) (bS sty52 I I I (ab ⟨I,trivial⟩) dC) dC ?_;rintro _ _ _ ⟨h3,rfl,rfl,rfl⟩;refine zb5 fun c7 b c9=>?_;have d0:SlA encInt c7 (.slice (some ⟨h3,0,none⟩) 1 1) [6]:=SlA.lit c9 rfl rfl;have hB:=hB.mono b;have hA:=hA.mono b;have x:=x.mono b;have A:=A.mono b;have C:=C.mono b;have G:=G.mono b;have p:=za5 p b;have z:=za5 z b;have B:=za5 B b;have F:=za5 F b;have c:=c.trans b;clear b;refine ze3 (gT I I I dC) (SO.call call68 I<|un E c7 _ _ _ [6] [6] z d0 dC) dC ?_;rintro _ _ _ ⟨rfl,rfl,rfl⟩;rw[show decide (([6]:List Int)=[6])=true from rfl];refine yP I<|lM I<|yC I<|lY I I I (iA tQ eu I I H dC (by show (0:Int)<2; decide)) ?_;refine lY I I I (fC a6 I zT3 I H)<|SL.gq (gT I I I dC) (aZ (e:=ia) (o:=1) (u:=vi 5) (a:=(⟨e5.kind,e5.cell,d7,d8,d9,e0,e1⟩:Er)) iT3 I (za7 B) I I) dC<|lY I I I (SU.eq (v':=vb true) (eQ I I)<|ze4 vb<|zg1 I)<|yP I<|lM I<|yC I<|lY I I I (iA tQ eu I I H dC (by show (1:Int)<2; decide)) ?_;refine lY I I I (fC a6 I zT3 I H)<|SL.gq (gT I I I dC) (aZ (e:=ia) (o:=1) (u:=vi 3) (a:=(⟨e3.kind,e3.cell,e2,e4,e9,f1,f2⟩:Er)) iT3 I (za7 B) I I) dC<|lY I I I (SU.eq (v':=vb true) (eQ I I)<|ze4 vb<|zg1 I)<|yP I<|lM I<|yC I<|lY I I I (iA tQ eu I I D dC (by show (0:Int)<2; decide)) ?_;refine lY I I I (fC a6 I zT3 I D)<|SL.gq (gT I I I dC) (aZ (e:=ia) (o:=0) (u:=vi 2) (a:=(⟨e5.kind,e5.cell,f5,f6,f7,f8,f9⟩:Er)) iT3 I (za7 F) I I) dC<|lY I I I (SU.eq (v':=vb true) (eQ I I)<|ze4 vb<|zg1 I)<|yP I<|lM I<|yC I<|lY I I I (iA tQ eu I I D dC (by show (1:Int)<2; decide)) ?_;refine lY I I I (fC a6 I zT3 I D)<|SL.gq (gT I I I dC) (aZ (e:=ia) (o:=0) (u:=vi 1) (a:=(⟨(⟨1,5,1,0,0,[⟨2,1⟩,⟨3,-1⟩],[]⟩:Ed).kind,(⟨1,5,1,0,0,[⟨2,1⟩,⟨3,-1⟩],[]⟩:Ed).cell,b0,b8,c0,c1,c2⟩:Er)) iT3 I (za7 F) I I) dC<|lY I I I (SU.eq (v':=vb true) (eQ I I)<|ze4 vb<|zg1 I)<|yP I<|lM I<|yC I<|lY I I I (iA tQ eu I I D dC (by show (1:Int)<2; decide)) ?_;refine lY I I I (fC a6 I zT3 I D)<|SL.gq (gT I I I dC) (aZ (e:=ia) (o:=1) (u:=vi 5) (a:=(⟨(⟨1,5,1,0,0,[⟨2,1⟩,⟨3,-1⟩],[]⟩:Ed).kind,(⟨1,5,1,0,0,[⟨2,1⟩,⟨3,-1⟩],[]⟩:Ed).cell,b0,b8,c0,c1,c2⟩:Er)) iT3 I (za7 F) I I) dC<|lY I I I (SU.eq (v':=vb true) (eQ I I)<|ze4 vb<|zg1 I)<|yP I<|aT I<|rE<|dR (s':=s) uR ?_;exact za8 (.inl I) results16 I ⟨I,I,c⟩
theorem EdS.pr {e:Ed}(h:EdS e):e.sides.length<1099511627776∧e.pairs.length<100000000000:=⟨h.1,by have:=h.2; omega⟩
end Go.Proofs.YtbbppeihhkhkcaaGreatDoor
namespace Go.Sy
open Go
section
variable {P:Program}{N:Nat}{E:World}{f:Fr}{g:PH}{s:Own}{fn:Func}{R:Value→PH→Own→Prop}{e:Exit}
theorem ST.retCCC {T T' T'' U U' U'':TypeId}{t t' t'' b b' b'' k k' k'':Nat}{cs cs' cs'':Array Value}{fr fr' fr'':Nat×Nat}(i i' i'':Nat)(s':Own)(G:e = .ret∨e = .normal)(hr:fn.results = #[.cell t T,.cell t' T',.cell t'' T''])(H:aN f t=some (pp b 0))(r:aN f t'=some (pp b' 0))(d:aN f t''=some (pp b'' 0))
  (J:∀ w,(isAgg T).run P w = .ok true w) (K:∀ w,(sizeOf T).run P w = .ok k w) (u:∀ w,(isAgg T').run P w = .ok true w) (v:∀ w,(sizeOf T').run P w = .ok k' w) (j:∀ w,(isAgg T'').run P w = .ok true w) (l:∀ w,(sizeOf T'').run P w = .ok k'' w)
  (L:s[i]?=some (pt b<|.cells cs U fr)) (M:cs.size=k) (x:s[i']?=some (pt b'<|.cells cs' U' fr')) (y:cs'.size=k') (z:s[i'']?=some (pt b''<|.cells cs'' U'' fr'')) (m:cs''.size=k'') (A:s'.Sublist s) (O:R (.tuple #[.agg cs,.agg cs',.agg cs'']) g s'):ST N E (bodyPost P fn<|nh E R) e f g s :=
 fun a w n q=>by
  have Q:=cd (P:=P) q J (by rw[M]; exact K) L;have B:=cd (P:=P) q u (by rw[y]; exact v) x;have o:=cd (P:=P) q j (by rw[m]; exact l) z;have C:=n.at_ t _ H;have p:=n.at_ t' _ r;have c:=n.at_ t'' _ d;simp only[Array.getD_eq_getD_getElem?] at C p c;have D:(results fn a.tmps).run P w = .ok (.tuple #[.agg cs,.agg cs',.agg cs'']) w:=by simp[results,hr,asAddr,pp,C,p,c,Q,B,o]
  have F:nh E R (.returned<|.tuple #[.agg cs,.agg cs',.agg cs'']) w:=⟨_,g,s',rfl,q.sublist A,O⟩
  rcases G with rfl | rfl
  ·exact⟨n.defers,_,D,F⟩
  ·exact⟨n.defers,_,D,F⟩
end
end Go.Sy
namespace Go.Proofs.YtbbppeihhkhkcaaGreatDoor
open _root_.Go.Proofs.Tryz _root_.Go.Proofs.YtbbppeihhkhkcaaGreatDoor.Tryz
open Go Go.Sy Go.Pl Go.Proofs
set_option maxRecDepth 100000
set_option maxHeartbeats 8000000
def EdT (e:Ed):Prop:=EdS e∧((e.kind=1→a7 e.cell)∧(e.kind=3→a7 e.new∧a7 e.other))
def GS (l:List Cl):Prop:=aJ l∧∀ c∈l,a7 c.id
theorem uL {l:List Cl}(h:∀ c∈l,a7 c.id):∀ c∈aa l,a7 c.id:=fun c a=>by
 obtain ⟨d,hd,e⟩:=s3 a;rw[← e];exact h d hd
theorem D6 {es:List Ed}:∀ {A:List Cl} {ss:List Stp} {i:Nat},(∀ c∈A,a7 c.id)→(∀ e∈es,EdT e)→∀ c∈(n9 A ss i es).2.1,a7 c.id:=by
 induction es with
 | nil=>intro A ss i hA _; exact hA
 | cons e es ih =>
  intro A ss i hA a;unfold n9;split
  ·rename_i hz;exact ih (yR hz hA (a e<|by simp).2.1 (a e<|by simp).2.2) fun x b=>a x (by simp[b])
  ·intro c d;cases d
theorem D7 {l:List Cl}{es:List Ed}(hl:∀ c∈l,a7 c.id)(b:∀ e∈es,EdT e):∀ c∈(ig l es).2.1,a7 c.id:=by
 unfold ig;split
 ·intro c a; cases a
 ·split
  ·intro c a; cases a
  ·exact D6 (uL hl) b
theorem fp (E:World)(g:PH)(s:Own)(v av:Value)(l:List Cl)(acts:List Ac)(b:Bool)(hv:ai g v l)(hf:aJ l)(ha:SlA mC g av acts)(hi:∀ c∈l,a7 c.id)(X:∀ a∈acts,A64 a) :
  Ctr Tryz.prog E 70 #[.agg #[v],av,vb b] g s (fun r g' s'=>s=s'∧Le g g'∧∃ es,Eds g' r es∧(∀ e∈es,EdT e)∧es.length≤12):=by
 obtain ⟨p,c,rfl⟩:=hv.form;obtain ⟨pa,ca,rfl⟩:=za4 ha;refine zb2 (args:=[.agg #[.slice p l.length c],.slice pa acts.length ca,vb b]) func70 I ntmps70 (bE I)<|rZ (bW (bO I) fun b3=>?_);refine aT I<|rZ<|aT I<|rZ<|SL.K (qV 0 aj ae I I I)<|lW (SO.call call102 I<|bZ E g _ _ l hv hf) ?_;rintro _ g1 _ ⟨rfl,M,u1,rfl,hA⟩;obtain ⟨p1,c1,rfl⟩:=hA.form;have Y:=aA hf;have Z:∀ c∈aa l,a7 c.id:=uL hi;have a0:=za5 ha M;refine bW (aL zl9) fun b8=>oZ (sK 0 ae I I I I I sB)<|tZ<|sQ<|rZ<|aT I<|bK<|zb6 42 7<|oP (ι:=Nat×PH×List Cl×Option Addr×Nat×Value×List Er×List Ed) (fun i=>[(1,.slice pa acts.length ca),(2,vb b),(7,i.2.2.2.2.2.1),(8,pp b8 0),(9,vi i.1)]) (fun i=>i.2.1) (fun i=>rowA ia 42 i.2.2.2.2.2.1 i.2.2.2.2.2.2.1::pt b8 (.cells #[.slice i.2.2.2.1 i.2.2.1.length i.2.2.2.2.1] 29 (0,0))::pt b3 (.cells #[.slice p l.length c] 29 (0,0))::s)
  (fun i=>i.1≤acts.length∧i.1≤12∧Le g1 i.2.1∧ai i.2.1 (.slice i.2.2.2.1 i.2.2.1.length i.2.2.2.2.1) i.2.2.1∧GS i.2.2.1∧ax (EdK i.2.1) i.2.2.2.2.2.2.2 i.2.2.2.2.2.2.1∧(∀ e∈i.2.2.2.2.2.2.2,EdT e)∧i.2.2.2.2.2.2.1.length≤i.1) (fun i=>acts.length - i.1)
  (0,g1,aa l,p1,c1,.slice none 0 0,[],[]) sB rfl rfl ⟨zf8 _,zf8 _,zb9 _,hA,⟨Y,Z⟩,trivial,by simp,Nat.le_refl _⟩ ?_
 rintro ⟨k,gk,B,pk,ck,ov,A,es⟩ ⟨hk,R,m,hB,n,t,L,a1⟩;dsimp only at hk R m hB n t L a1 ⊢;refine sQ<|SC.cutB 23 (decide (k<acts.length)&&decide (k<12)) ?_ ?_
 ·refine rG<|lM I<|lM I<|lU (eN underlying25 I)<|yL I<|lM I<|sP ?_ ?_
  ·intro a2;exact yC I<|lY I I I (lS I I)<|yP I<|SL.nil<|zb1 (by (simp_all[aN]; omega)) mI
  ·intro a2;exact yA I<|yA I<|yF I<|SL.nil<|zb1 (by (simp_all[aN]; omega)) mI
 refine iQ I (fun O=>?_) (fun O=>?_)
 ·simp only[zj5,zj8] at O;obtain ⟨S,b2⟩:=O;have T:=za5 a0 m;have a3:=za6 T oM;have a4:acts[((k:Nat):Int).toNat]?=some acts[k]:=List.getElem?_eq_getElem S;have D:=X _<|gM S;generalize acts[k]=x at *;obtain ⟨k0,k1,k2,k3⟩:=x;refine kP<|tN<|sQ<|bK<|SC.cut (ι:=Nat×PH×Ed×Er) (fun i=>[(1,.slice pa acts.length ca),(2,vb b),(7,ov),(8,pp b8 0),(9,vi k),(10,pp i.1 0)]) (fun i=>i.2.1) (fun i=>pt i.1 (.cells (ia.enc i.2.2.2).toArray 42 (0,0))::rowA ia 42 ov A::pt b8 (.cells #[.slice pk B.length ck] 29 (0,0))::pt b3 (.cells #[.slice p l.length c] 29 (0,0))::s)
   (fun i=>Le gk i.2.1∧EdK i.2.1 i.2.2.1 i.2.2.2∧EdT i.2.2.1) ?_ ?_
  ·refine SC.drawX [7] ze5 kR ?_;refine SX.u (i:=0) I kR (mV I) dC<|SX.u (i:=1) I kR (mV I) dC<|SX.u (i:=2) I kR (iA underlying25 sizeOf44 I I a3 oM sL) dC<|SX.q (i:=3) I kR (SQ.elemA isAgg44 sizeOf44 I (za7 T) a4) dC<|SX.q (i:=4) I kR (qV (by exact 1) aj ae I I I) dC ?_;refine zd8 5 6 kR ?_ ?_
   ·refine SB.o (i:=5) I (SO.call call13 I<|mx E gk _ _ B k0 k1 k2 k3 hB n.1) dC (.inr iR) ?_;rintro ev g3 _ ⟨rfl,d,e,he,F,G,-,P⟩;have f:EdT e:=⟨⟨F,G⟩,P n.2 D.2.1 D.2.2.1 D.2.2.2⟩;obtain ⟨⟨r1,r2,r3,r4,r5,⟨r6,r7,r8⟩,⟨r9,y,z⟩⟩,rfl,hr⟩:=he.rc;refine zd7 6 kR ?_
    ·refine SB.o (i:=6) I (aL zm3) dC (.inr iR) ?_;rintro _ _ _ ⟨C,rfl,rfl,rfl⟩;refine zd7 7 kR ?_
     ·refine SB.on (i:=7) rfl (sK 0 eu rfl rfl rfl rfl rfl<|by (repeat' (first | exact trivial | refine⟨by rfl,?_⟩))) (.inl dC) ?_;rintro _ _ _ ⟨rfl,rfl⟩;refine SX.nil kR ?_;exact za9 (C,g3,e,⟨r1,r2,r3,r4,r5,⟨r6,r7,r8⟩,⟨r9,y,z⟩⟩) sB I I ⟨d,hr,f⟩
   ·refine SB.o (i:=6) I (aL zm3) dC (.inr iR) ?_;rintro _ _ _ ⟨C,rfl,rfl,rfl⟩;refine zd7 5 kR ?_
    ·refine SB.o (i:=5) I (SO.call call13 I<|mx E gk _ _ B k0 k1 k2 k3 hB n.1) dC (.inr iR) ?_;rintro ev g3 _ ⟨rfl,d,e,he,F,G,-,P⟩;have f:EdT e:=⟨⟨F,G⟩,P n.2 D.2.1 D.2.2.1 D.2.2.2⟩;obtain ⟨⟨r1,r2,r3,r4,r5,⟨r6,r7,r8⟩,⟨r9,y,z⟩⟩,rfl,hr⟩:=he.rc;refine zd7 7 kR ?_
     ·refine SB.on (i:=7) rfl (sK 0 eu rfl rfl rfl rfl rfl<|by (repeat' (first | exact trivial | refine⟨by rfl,?_⟩))) (.inl dC) ?_;rintro _ _ _ ⟨rfl,rfl⟩;refine SX.nil kR ?_;exact za9 (C,g3,e,⟨r1,r2,r3,r4,r5,⟨r6,r7,r8⟩,⟨r9,y,z⟩⟩) sB I I ⟨d,hr,f⟩
  rintro ⟨C,g3,e,⟨r1,r2,r3,r4,r5,⟨r6,r7,r8⟩,⟨r9,y,z⟩⟩⟩ ⟨d,hr,f⟩;dsimp only at d hr f ⊢;refine SC.to (g':=g3) (s':=pt C (.cells #[vi r1,vi r2,vi r3,vi r4,vi r5,.slice r6 r7 r8,.slice r9 y z] 42 (0,0))::rowA ia 42 ov A::pt b8 (.cells #[.slice pk B.length ck] 29 (0,0))::pt b3 (.cells #[.slice p l.length c] 29 (0,0))::s) (fun w X=>X) ?_;have U:=hB.mono d;have V:=oX B e;refine rZ<|SL.K (qV 2 aj ae I I I)<|SL.K (qV 0 j3 eu I I I)<|lW (SO.call call142 I<|l8 E g3 _ _ _ B e U n.1 hr f.1.pr.1 f.1.pr.2) ?_;rintro _ g4 _ ⟨rfl,H,hR⟩;obtain ⟨⟨d1,d2,d3⟩,⟨⟨y1,y2,y3⟩,y4⟩,rfl,hD,hS⟩:=hR.one;have a5:=jM hD;subst a5;have a9:=U.mono H;have b0:=hr.mono H;have j:=d.trans H;clear hS hR;refine lM I (yX I<|yX I<|yX I<|bW (aL zl9) fun b4=>?_);refine bW (aL zl4) fun b5=>oZ (sK 1 ae I I I I I sB)<|oZ (sK 0 bQ I I I I I sB)<|aT I<|SC.cut (ι:=List Cl×Option Addr×Nat) (fun _=>[(1,.slice pa acts.length ca),(2,vb b),(7,ov),(8,pp b8 0),(9,vi k),(10,pp C 0),(13,vi (dM B e).1)]) (fun _=>g4) (fun i=>pt C (.cells #[vi r1,vi r2,vi r3,vi r4,vi r5,.slice r6 r7 r8,.slice r9 y z] 42 (0,0))::rowA ia 42 ov A::pt b8 (.cells #[.slice i.2.1 i.1.length i.2.2] 29 (0,0))::pt b3 (.cells #[.slice p l.length c] 29 (0,0))::s)
   (fun i=>ai g4 (.slice i.2.1 i.1.length i.2.2) i.1∧GS i.1) ?_ ?_
  ·refine sW I<|yE I<|tZ<|iP I (fun hz=>?_) (fun hz=>?_)
   ·exact rG<|SL.K (qV 1 aj ae I I I)<|oZ (sK 4 ae I I I I I sB)<|SL.nil<|dR (.cons _<|.cons _<|.refl _)<|za9 ((dM B e).2,d1,d3) sB I I ⟨hD,V,yR hz n.2 f.2.1 f.2.2⟩
   ·exact kP<|dR (.cons _<|.cons _<|.refl _)<|za9 (B,pk,ck) sB I I ⟨a9,n⟩
  rintro ⟨B5,p5,c5⟩ ⟨Q,J⟩;dsimp only at Q J ⊢;generalize (dM B e).1=code at *;clear V;refine SC.cutB 47 (decide (code=0) || !b) ?_ ?_
  ·refine rG<|lM I<|yE I<|lM I<|sP ?_ ?_
   ·intro b1;exact yA I<|yA I<|yP I<|SL.nil<|zb1 (by (simp_all[aN]; done)) mI
   ·intro b1;exact yC I<|lY I I I (SU.not I)<|yF I<|SL.nil<|zb1 (by (simp_all[aN]; done)) mI
  refine iQ I (fun hq=>?_) (fun hq=>?_)
  ·refine rG (lM I (SL.K (qV 0 j3 eu I I I) (lW (bS sty62 I I I (ab ⟨I,trivial⟩) dC) ?_)));rintro _ _ _ ⟨b6,rfl,rfl,rfl⟩;refine lW (aP (e:=ia) (l:=A) 1 ⟨r1,r2,r3,r4,r5,⟨r6,r7,r8⟩,⟨r9,y,z⟩⟩ sty62 I I I I I oM oM) ?_;rintro ov' _ _ ⟨rfl,rfl⟩;refine lA I (SL.nil (bN (tN (rG (lM I (yD I (lA I (SL.nil (dR (.cons _ (.refl _)) ?_)))))))));exact ST.again (k+1,g4,B5,p5,c5,ov',A++[⟨r1,r2,r3,r4,r5,⟨r6,r7,r8⟩,⟨r9,y,z⟩⟩],es++[e]) sB I I ⟨by dsimp only; omega,by dsimp only; omega,m.trans j,Q,J,(t.mono fun _ _=>EdK.mono j).append ⟨b0,trivial⟩,fun q hq=>by
    rcases zf5.1 hq with h | h
    ·exact L q h
    ·simp at h; subst h; exact f,by dsimp only; rw[ze7,ze9]; omega⟩ (by dsimp only; omega)
  ·exact kP<|bN<|tN<|rG<|lM I<|yD I<|lA I<|SL.nil<|dR (.cons _<|.refl _)<|ST.again (k+1,g4,B5,p5,c5,ov,A,es) sB I I ⟨by dsimp only; omega,by dsimp only; omega,m.trans j,Q,J,t.mono fun _ _=>EdK.mono j,L,by dsimp only; omega⟩ (by dsimp only; omega)
 ·refine xI (tX<|tX<|bX<|tN<|sQ<|fS fun g5 N W=>?_);obtain ⟨q5,d5,rfl⟩:=zc3 W;exact rG<|lM I<|aT I<|rE<|dR (s':=s) uR<|za8 (.inl I) results70 I ⟨I,M.trans<|m.trans N,es,⟨A,W,t.mono fun _ _=>EdK.mono N⟩,L,by have:=t.length; omega⟩
end Go.Proofs.YtbbppeihhkhkcaaGreatDoor
