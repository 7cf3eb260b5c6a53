/- 16 -/
import Derived.Test.YtdepcjnaieflmaaGreatDoorMc15
set_option linter.unusedSimpArgs false
set_option linter.unusedVariables false
namespace Go.Proofs.YtdepcjnaieflmaaGreatDoor
open _root_.Go.Proofs.Tryz _root_.Go.Proofs.YtdepcjnaieflmaaGreatDoor.Tryz
open Go Go.Sy Go.Pl Go.Proofs Go.Shelf Go.Sort
set_option maxRecDepth 100000
set_option maxHeartbeats 4000000
theorem CF (E:World)(g:PH)(s:Own)(v:Value)(l:List Cl)(T:ai g v l)(Q:aM l) :
  Ctr Tryz.prog E 34 #[.agg #[v]] g s (fun r g' s'=>Le g g'∧∃ v ds,r = .agg #[v]∧s'=rowA encCell 37 v ds::s∧ax (ak g') (aa l) ds):=by
 obtain ⟨rs,C,u⟩:=T;have R:=u.length;have U:=Q.1;have z:=ax.sortBy (f:=Cl.id) (h:=Rc.id) (fun a b h=>h.1.symm) u;obtain ⟨p,c,rfl⟩:=za4 C;refine zb2 (args:=[.agg #[.slice p rs.length c]]) func34 I ntmps34 (bE I)<|rZ (bW (bO I) fun V=>?_);refine bW (aL zl3) fun S=>tZ<|rZ<|lU (fA dA I cq I)<|lK (qL eG I<|cO 1 I I)<|lW (SO.call call91 I<|AY E g _ _ 92 #[] Rc.id (FH E g) rs C oM) ?_;rintro r3 _ _ ⟨rfl,rfl⟩;refine zd4 fun ⟨W,A⟩=>?_;obtain ⟨q,d,rfl⟩:=ah (i:=0) A rfl;have K:0<(sortBy Rc.id rs).length→based (.slice q (sortBy Rc.id rs).length d)=true:=fun h=>(by obtain ⟨b0,c0,X⟩:=bw (i:=0) A rfl h;rw[X];rfl);clear A W;refine aT I<|sQ<|sW I<|lU (eN aF I)<|lM I<|tZ<|bK ?_;have Y:(sortBy Rc.id rs).length=rs.length:=eI rs;refine oP (ι:=PH×List Rc×List Rc×List Cl×List Cl) (fun i=>[(2,pp S 0),(3,.slice q (sortBy Rc.id rs).length d),(9,vi (sortBy Rc.id rs).length),(10,vi i.2.1.length)]) (fun i=>i.1)
  (fun i=>rowA encCell 37 (.slice q (sortBy Rc.id rs).length d) (i.2.1++i.2.2.1)::pt S (bY #[.slice none 0 0] 29)::pt V (bY #[.slice p rs.length c] 29)::s)
  (fun i=>Le g i.1∧ax (dK<|mns i.1 g) i.2.2.2.1 i.2.1∧ax (ak g) i.2.2.2.2 i.2.2.1∧aa l=i.2.2.2.1++i.2.2.2.2.map cj∧(i.2.1.length+i.2.2.1.length=(sortBy Rc.id rs).length∧∀ x∈i.2.2.2.2,x∈l)) (fun i=>i.2.2.1.length)
  (g,[],sortBy Rc.id rs,[],sortBy Cl.id l) sB rfl rfl ⟨zb9 g,trivial,z,by simp[aa],by simp,fun x Z=>(fz l x).1 Z⟩ ?_
 rintro ⟨g1,ds,rest,dl,rl⟩ ⟨j,hd,hr,k,e,m⟩;dsimp only at j hd hr k e m ⊢;have a0:=hr.length;refine rZ<|yL I<|tZ<|sQ<|iP I (fun L=>?_) (fun L=>?_)
 ·cases rest with
  | nil=>simp at e;omega
  | cons x rest =>
  obtain ⟨n,M,D,B,N⟩:=hr.cons_right;subst D;have O:n.sides.length<1099511627776:=Q.2 n (m n dO);simp only[zf1] at e;have F:(ds++x::rest)[((ds.length:Nat):Int).toNat]?=some x:=bP oM;have t:based (.slice q (sortBy Rc.id rs).length d)=true:=K oM;refine kP (tN (sQ (bK (sW I (aT I (rG (lM I (lM I (lM I (lM I (lU (iA aF ar I I t oM sL) (lU (fC ao I aH I t) (lK (aZ (o:=2) bi I (zb7 0 I) F I) (lW (SO.call call93 I (AX E g1 _ _ 94 #[] aj.cell (Bf E g1) n.sides (B.2.2.mono j) O)) ?_))))))))))))));rintro r20 _ _ ⟨rfl,rfl⟩;refine SL.freezeRowK fun g2 w G=>?_;obtain ⟨H,d2,rfl⟩:=G.form;refine lU (iA aF ar I I t oM sL) (lU (fC ao I aH I t) (oZ (SO.partA (o:=2) 0 ⟨x.id,x.dim,H,_,d2⟩ aH I I I F I I dC I) (SL.nil (bN (tN (rG (yD I (lM I (SL.nil ?_)))))))));exact ST.again (g2,ds++[⟨x.id,x.dim,H,(sortBy aj.cell n.sides).length,d2⟩],rest,dl++[cj n],M) ⟨I,I,I,bG lN,trivial⟩ I (by
    dsimp only;rw[show (ds++x::rest).set ((ds.length:Nat):Int).toNat ⟨x.id,x.dim,H,(sortBy aj.cell n.sides).length,d2⟩=ds++[⟨x.id,x.dim,H,(sortBy aj.cell n.sides).length,d2⟩]++rest by rw[dT oM];simp];rfl) ⟨j.trans w,(hd.mono fun _ _=>dK.mono (im w)).append ⟨(by exact⟨B.1,B.2.1,G.mono (jR j)⟩:dK (mns g2 g) (cj n) ⟨x.id,x.dim,H,(sortBy aj.cell n.sides).length,d2⟩),trivial⟩,N,by rw[k];simp,lN,fun y hy=>m y (by simp[hy])⟩ lN
 ·have P:rest=[]:=zf6 oM;subst P;have J:rl=[]:=hr.nil_right;subst J;refine xI<|tX<|tX<|bX<|tN<|sW I<|lU (za3 I<|build29 _ I)<|oZ (sK 1 ae I I I I I sB)<|tZ<|rE<|ST.retCD 1 (rowA encCell 37 (.slice q (sortBy Rc.id rs).length d) (ds++[])::s) (.inl I) results34 I an ae I I (.cons_cons _<|.cons _<|.cons _<|.refl _) ⟨j,_,_,I,I,?_⟩;rw[k,zc7];simpa using hd.mono fun _ _ h=>h.cr<|fh _ _
def Tryz.sortCl_ren:Ren :=
 {
  f:=fun x =>
   match x with
   | 6=>40
   | 15=>97
   | 14=>96
   | 28=>149
   | 29=>150
   | 20=>141
   | 21=>142
   | 22=>143
   | 23=>144
   | 24=>145
   | 25=>146
   | 26=>147
   | 27=>148
   | 46=>190
   | 47=>191
   | 48=>192
   | 49=>193
   | 50=>194
   | 57=>215
   | n=>n,
  t:=fun x =>
   match x with
   | 22=>27
   | 24=>37
   | 25=>84
   | 3=>3
   | 39=>138
   | 0=>0
   | 53=>181
   | 55=>183
   | 4=>4
   | 46=>175
   | 45=>174
   | 50=>108
   | 5=>5
   | 9=>9
   | 66=>217
   | 70=>221
   | 76=>234
   | 77=>235
   | n=>n,
  g:=fun x =>
   have n:=x;
   n }
theorem Tryz.sortCl:SlLaysF0.n6 Tryz.prog Tryz.sortCl_ren :=
  {
  mixed:=Eq.refl true,
  f6 :=
   Exists.intro "slices.SortFunc[[]cocycle/api.Cell,cocycle/api.Cell]"
    ⟨zg5 (id (Eq.refl true)),
     zb8 func40
      (ze4 some
       kR)⟩,
  f14 :=
   Exists.intro "slices.pdqsortCmpFunc[cocycle/api.Cell]"
    ⟨zg5 (id (Eq.refl true)),
     zb8 func96
      (ze4 some
       kR)⟩,
  f15:=zb8 func97<|ze4 some kR,
  f20 :=
   Exists.intro "slices.insertionSortCmpFunc[cocycle/api.Cell]"
    ⟨zg5 (id (Eq.refl true)),
     zb8 func141
      (ze4 some
       kR)⟩,
  f21 :=
   Exists.intro "slices.heapSortCmpFunc[cocycle/api.Cell]"
    ⟨zg5 (id (Eq.refl true)),
     zb8 func142
      (ze4 some
       kR)⟩,
  f22 :=
   Exists.intro "slices.breakPatternsCmpFunc[cocycle/api.Cell]"
    ⟨zg5 (id (Eq.refl true)),
     zb8 func143
      (ze4 some
       kR)⟩,
  f23 :=
   Exists.intro "slices.choosePivotCmpFunc[cocycle/api.Cell]"
    ⟨zg5 (id (Eq.refl true)),
     zb8 func144
      (ze4 some
       kR)⟩,
  f24 :=
   Exists.intro "slices.reverseRangeCmpFunc[cocycle/api.Cell]"
    ⟨zg5 (id (Eq.refl true)),
     zb8 func145
      (ze4 some
       kR)⟩,
  f25 :=
   Exists.intro "slices.partialInsertionSortCmpFunc[cocycle/api.Cell]"
    ⟨zg5 (id (Eq.refl true)),
     zb8 func146
      (ze4 some
       kR)⟩,
  f26 :=
   Exists.intro "slices.partitionEqualCmpFunc[cocycle/api.Cell]"
    ⟨zg5 (id (Eq.refl true)),
     zb8 func147
      (ze4 some
       kR)⟩,
  f27 :=
   Exists.intro "slices.partitionCmpFunc[cocycle/api.Cell]"
    ⟨zg5 (id (Eq.refl true)),
     zb8 func148
      (ze4 some
       kR)⟩,
  f28:=zb8 func149<|ze4 some kR,
  f29:=zb8 func150<|ze4 some kR,
  f46 :=
   Exists.intro "slices.siftDownCmpFunc[cocycle/api.Cell]"
    ⟨zg5 (id (Eq.refl true)),
     zb8 func190
      (ze4 some
       kR)⟩,
  f47:=zb8 func191<|ze4 some kR,
  f48:=zb8 func192<|ze4 some kR,
  f49 :=
   Exists.intro "slices.medianAdjacentCmpFunc[cocycle/api.Cell]"
    ⟨zg5 (id (Eq.refl true)),
     zb8 func193
      (ze4 some
       kR)⟩,
  f50 :=
   Exists.intro "slices.medianCmpFunc[cocycle/api.Cell]"
    ⟨zg5 (id (Eq.refl true)),
     zb8 func194
      (ze4 some
       kR)⟩,
  f57 :=
   Exists.intro "slices.order2CmpFunc[cocycle/api.Cell]"
    ⟨zg5 (id (Eq.refl true)),
     zb8 func215
      (ze4 some
       kR)⟩,
  t0:=uT0,a0:=isAgg0,z0:=sizeOf0,v0:=zm4,t3:=uT3,
  a3:=iT3,z3:=zT3,v3:=zl4,t4:=uT4,a4:=isAgg4,
  z4:=zT4,v4:=zl9,t5:=uT5,a5:=isAgg5,z5:=sizeOf5,
  v5:=zeroValue5,t9:=uT9,a9:=isAgg9,z9:=sizeOf9,v9:=zeroValue9,
  t22:=aF,a22:=eG,z22:=cq,v22:=zeroValue27,
  t25:=underlying84,a25:=isAgg84,z25:=sizeOf84,v25:=zeroValue84,
  t39:=jL,a39:=isAgg138,z39:=sizeOf138,v39:=zeroValue138,
  t45:=underlying174,a45:=isAgg174,z45:=sizeOf174,v45:=zeroValue174,
  t46:=underlying175,a46:=isAgg175,z46:=sizeOf175,v46:=zeroValue175,
  t50:=underlying108,a50:=isAgg108,z50:=sizeOf108,v50:=zeroValue108,
  t53:=underlying181,a53:=isAgg181,z53:=sizeOf181,v53:=zeroValue181,
  t55:=ng,a55:=isAgg183,z55:=sizeOf183,v55:=zeroValue183,
  t66:=underlying217,a66:=isAgg217,z66:=sizeOf217,v66:=zeroValue217,
  t70:=underlying221,a70:=isAgg221,z70:=sizeOf221,v70:=zeroValue221,
  t76:=underlying234,a76:=isAgg234,z76:=sizeOf234,v76:=zeroValue234,
  t77:=underlying235,a77:=isAgg235,z77:=sizeOf235,v77:=zeroValue235 }
instance inhRc:Inhabited Rc:=⟨⟨0,0,⟨none,0,0⟩⟩⟩
def EG (x y:Rc):Int:=orI [ij x.dim y.dim,ij x.id y.id]
theorem lD (x y:Rc):EG x y<0↔x.dim<y.dim∨(x.dim=y.dim∧x.id<y.id):=by
 unfold EG orI orI orI ij;split <;> split <;> (try split)<;>(try split)<;>simp_all <;> omega
theorem swoD:SWO (ltOf EG):=⟨fun x=>by simp[ltOf,lD],fun x y z a b=>by simp[ltOf,lD] at *;omega,fun x y z a b=>by simp[ltOf,lD] at *;omega⟩
theorem Dq {l:List Rc}(h:l.Pairwise fun a b=>a.id<b.id){x y:Rc}(c:x∈l)(g:y∈l)(d:x.id=y.id):x=y:=by
 induction l with
 | nil=>cases c
 | cons a l ih =>
  rw[zk5] at h
  rcases zf3.1 c with e1 | e <;> rcases zf3.1 g with e2 | f
  ·rw[e1,e2]
  ·have:=h.1 y f;rw[e1] at d;omega
  ·have:=h.1 x e;rw[e2] at d;omega
  ·exact ih h.2 e f
theorem zy {l l':List Rc}(hp:l'.Perm l)(k:l'.Pairwise fun x y=>¬ EG y x<0)(d:l.Pairwise fun a b=>a.id<b.id):l'=sortBy Rc.dim l:=by
 refine bJ (k.imp fun h=>by rw[lD] at h;omega) ⟨hp.length_eq,fun c=>?_⟩;refine (hp.filter _).eq_of_pairwise (le:=fun x y=>x.dim=y.dim→¬ y.id<x.id) (fun x y m n o p=>?_) ?_ ?_
 ·obtain ⟨f,g⟩:=zh6.1 m;obtain ⟨i,j⟩:=zh6.1 n;have e1:x.dim=c:=by simpa using g
  have e2:y.dim=c:=by simpa using j
  have q:=o oM;have r:=p oM;exact Dq d (hp.subset f) i oM
 ·exact (k.filter _).imp fun h e=>by rw[lD] at h;omega
 ·exact (d.filter _).imp fun h _=>by omega
theorem D1:GA Tryz.prog 41 encCell.enc EG:=by
 intro E g s x y;obtain ⟨a,b,⟨e,f,i⟩⟩:=x;obtain ⟨c,d,⟨j,k,yc⟩⟩:=y;refine zb2 (args:=[.agg #[vi a,vi b,.slice e f i],.agg #[vi c,vi d,.slice j k yc]]) func41 I ntmps41 (bE I)<|rZ (bW (bO I) fun m=>?_);refine bW (bO I) fun n=>aT I<|sQ<|dW [] [(0,2),(1,1),(2,2),(3,1),(5,2),(6,1),(7,2),(8,1),(4,0),(9,0),(10,0),(11,0),(12,2)] ze5 kR<|pU I (fA ao I zT3 I)<|pK I (qL (v:=vi b) iT3 I<|cO 1 I I)<|pU I (fA ao I zT3 I)<|pK I (qL (v:=vi d) iT3 I<|cO 0 I I)<|pU I (fA ao I zT3 I)<|pK I (qL (v:=vi a) iT3 I<|cO 1 I I)<|pU I (fA ao I zT3 I)<|pK I (qL (v:=vi c) iT3 I<|cO 0 I I)<|SP.o I (SO.call call44 I<|dM E g _ b d) dC (.inr iR) ?_;rintro _ _ _ ⟨rfl,rfl,rfl⟩;refine SP.o I (SO.call call44 I<|dM E g _ a c) dC (.inr iR) ?_;rintro _ _ _ ⟨rfl,rfl,rfl⟩;refine SP.o I (bS sty32 I I I (ab sB) dC) dC (.inr iR) ?_;rintro _ _ _ ⟨l,rfl,rfl,rfl⟩;refine SP.o I (SO.call call98 I<|A8 E g _ _ [ij b d,ij a c] (Rd.pt 0 I) ⟨_,_,I⟩ (fun _=>I) dO) dC (.inr iR) ?_;rintro _ _ _ ⟨rfl,rfl,rfl⟩;exact pU I (aS I)<|pN<|tN<|rE<|dR (s':=s) uR<|za8 (.inl I) results41 I ⟨I,I,I⟩
theorem zB (E:World)(g:PH)(s:Own)(v:Value)(l:List Rc)(i:Nat)(d:s[i]?=some (rowA encCell 37 v l))(hl:l.length<1099511627776)(c:l.Pairwise fun a b=>a.id<b.id) :
  Ctr Tryz.prog E 40 #[v,.func (.func 41) #[] #[]] g s (fun _ g' s'=>g=g'∧s'=s.set i (rowA encCell 37 v<|sortBy Rc.dim l)) :=
 (xQ Tryz.sortCl encCell dH ar EG swoD 41 call41 D1 37 E g s v l i d hl).mono fun _ _ _ ⟨e,l',f,j,k⟩=>⟨e,by rw[k,zy f j c]⟩
def EM (E:World)(cv:Value)(pr:Rc→Bool)(g:PH):Prop:=∀ s x,cU Tryz.prog E cv [.agg (encCell.enc x).toArray] g s (fun r g' s'=>r=vb (pr x)∧g=g'∧s=s')
theorem Fl {r:Value}{l:List Rc}{pr:Rc→Bool}(h:(r=vi (-1)∧∀ x∈l,pr x=false)∨∃ (A:List Rc) (x:Rc) (R:List Rc),l=A++x::R∧r=vi A.length∧(∀ y∈A,pr y=false)∧pr x=true):∃ n:Int,r=vi n:=by
 rcases h with ⟨h,_⟩ | ⟨_,_,_,_,h,_⟩
 ·exact⟨_,h⟩
 ·exact⟨_,h⟩
theorem z6 (E:World)(g:PH)(s:Own)(v n:Value)(l:List Rc)(pr:Rc→Bool)(d:EM E n pr g)(hl:l.length<1099511627776) :
  Ctr Tryz.prog E 95 #[v,n] g (rowA encCell 37 v l::s) (fun r g' s'=>g=g'∧s'=rowA encCell 37 v l::s∧((r=vi (-1)∧∀ x∈l,pr x=false)∨∃ A x R,l=A++x::R∧r=vi A.length∧(∀ y∈A,pr y=false)∧pr x=true)):=by
 refine Ctr.facts fun ⟨B,e⟩=>?_;obtain ⟨p,c,rfl⟩:=ah (i:=0) e rfl;have m:=fun h=>rV (i:=0) e rfl h;clear e B;refine zb2 (args:=[.slice p l.length c,n]) func95 I ntmps95 (bE I)<|rZ<|aT I<|sQ<|sW I<|lU (eN aF I)<|lM I<|tZ<|bK<|oP (ι:=Nat) (fun k=>[(0,.slice p l.length c),(1,n),(7,vi l.length),(8,vi k)]) (fun _=>g) (fun _=>rowA encCell 37 (.slice p l.length c) l::s) (fun k=>k≤l.length∧∀ y∈l.take k,pr y=false) (fun k=>l.length - k) 0
  sB rfl rfl ⟨zf8 _,by simp⟩ ?_
 rintro k ⟨C,a⟩;refine rZ<|yL I<|tZ<|sQ<|iP I (fun o=>?_) (fun o=>?_)
 ·have f:k<l.length:=oM;obtain ⟨b,cap,rfl,rfl,z⟩:=m oM;have q:l[((k:Nat):Int).toNat]?=some l[k]:=List.getElem?_eq_getElem f;have t:l.take (k+1)=l.take k++[l[k]]:=tS f;have u:l=l.take k++l[k]::l.drop (k+1):=by rw[← zg8 f,zj4]
  generalize l[k]=x at *;refine kP<|tN<|sQ<|bK<|sW I<|aT I<|sW I<|lM I<|lM I<|lU (iA aF ar I I I oM sL)<|lK (SQ.elemA dH ar I (zb7 0 I) q)<|lW (SO.callV I I<|d _ x) ?_;rintro _ _ _ ⟨rfl,rfl,rfl⟩;refine tZ<|iQ I (fun hq=>?_) (fun hq=>?_)
  ·exact sW I<|aT I<|rE<|bR<|tR<|tR<|bR<|tR<|za8 (.inl I) results95 I ⟨I,I,.inr ⟨l.take k,x,l.drop<|k+1,u,by rw[ze6,Nat.min_eq_left C],a,hq⟩⟩
  ·refine kP (bN (tN (rG (yD I (lM I (SL.nil ?_))))));exact ST.again (k+1) sB I I ⟨oM,fun y j=>by
    rw[t,zf5] at j
    rcases j with j | j
    ·exact a y j
    ·rw[zh9.1 j];simpa using hq⟩ oM
 ·refine xI<|tX<|tX<|bX<|tN<|rZ<|aT I<|rE ?_;have w:l.take k=l:=tL oM;rw[w] at a;exact za8 (.inl I) results95 I ⟨I,I,.inl ⟨I,a⟩⟩
theorem xj (E:World)(g:PH)(s:Own)(v G:Value)(l:List Rc)(pr:Rc→Bool)(d:EM E G pr g)(hl:l.length<1099511627776) :
  Ctr Tryz.prog E 38 #[v,G] g (rowA encCell 37 v l::s) (fun r g' s'=>g=g'∧s'=rowA encCell 37 r (l.filter fun x=>!pr x)::s):=by
 refine Ctr.facts fun ⟨X,m⟩=>?_;obtain ⟨p,c,rfl⟩:=ah (i:=0) m rfl;have H:=fun h=>rV (i:=0) m rfl h;clear m X;refine zb2 (args:=[.slice p l.length c,G]) func38 I ntmps38 (bE I)<|rZ<|aT I<|sW I<|lM I<|lW (SO.call call95 I<|z6 E g s _ G l pr d hl) ?_;rintro r10 _ _ ⟨rfl,rfl,e⟩;obtain ⟨n,rfl⟩:=Fl e;refine aT I<|sQ<|sW I<|yE I<|tZ<|iP I (fun Y=>?_) (fun Y=>?_)
 ·rcases e with ⟨N,t⟩ | ⟨A,x,R,N,t,T,U⟩
  ·exact sW I<|aT I<|rE<|tR<|za8 (.inl I) results38 I ⟨I,by rw[List.filter_eq_self.2 fun x O=>by rw[t x O];rfl]⟩
  ·exact absurd (Value.int.inj t).2 oM
 ·rcases e with ⟨N,t⟩ | ⟨A,x,R,o,t,T,U⟩
  ·exact absurd (Value.int.inj N).2 oM
  obtain rfl:n=A.length:=(Value.int.inj t).2;have V:l.length=A.length+1+R.length:=by rw[o];simp;omega
  obtain ⟨b,cap,rfl,rfl,W⟩:=H oM;have Z:l.filter (fun x=>!pr x)=A++R.filter (fun x=>!pr x):=by
   rw[o,zh8,List.filter_cons_of_neg (by rw[U];simp),List.filter_eq_self.2 fun x O=>by rw[T x O];rfl]
  refine kP<|tN<|sQ<|sW I<|yD I<|aT I<|bK<|oP (ι:=List Rc×List Rc×Rc×List Rc) (fun i=>[(0,.slice (some ⟨b,0,none⟩) l.length<|cap+1),(1,G),(5,vi i.1.length),(6,vi<|i.1.length+i.2.1.length+1)]) (fun _=>g)
   (fun i=>rowA encCell 37 (.slice (some ⟨b,0,none⟩) l.length<|cap+1) (i.1++(i.2.1++[i.2.2.1])++i.2.2.2)::s)
   (fun i=>l.filter (fun x=>!pr x)=i.1++i.2.2.2.filter (fun x=>!pr x)∧i.1.length+i.2.1.length+1+i.2.2.2.length=l.length) (fun i=>i.2.2.2.length)
   (A,[],x,R) sB rfl (by dsimp only;rw[o];simp) ⟨Z,by dsimp only;simp;omega⟩ ?_
  rintro ⟨D,J0,z,R'⟩ ⟨M,k⟩;dsimp only at M k ⊢;have a0:(D++(J0++[z])++R').length=l.length:=lN;refine sQ<|sW I<|lM I<|lU (eN aF I)<|yL I<|tZ<|iP I (fun P=>?_) (fun P=>?_)
  ·cases R' with
   | nil=>simp at k;omega
   | cons y R2 =>
   simp only[zf1] at k;have Q:(D++(J0++[z])++y::R2)[((D.length:Nat)+(J0.length:Nat)+1:Int).toNat]?=some y:=bP lN;obtain ⟨u,B,⟨C,F,yc⟩⟩:=y;refine kP (tN<|sQ<|bK<|sW I<|lM I<|lU (iA aF ar I I I oM sL)<|lK (SQ.elemA dH ar I (zb7 0 I) Q)<|bW (aL zm2) fun b7=>?_);refine oZ (sK 0 ar I I I I I sB)<|tZ<|sW I<|lK (qV 0 dH ar I I I)<|lW (SO.callV I I<|d _ ⟨u,B,⟨C,F,yc⟩⟩) ?_;rintro _ _ _ ⟨rfl,rfl,rfl⟩;refine lU (SU.not I)<|tZ<|iQ I (fun q=>?_) (fun q=>?_)
   ·have K:pr ⟨u,B,⟨C,F,yc⟩⟩=false:=by simpa using q
    refine sW I<|lM I<|lK (qV 0 dH ar I I I)<|lU (iA aF ar I I I oM sL)<|oZ (SO.setA (a:=⟨u,B,⟨C,F,yc⟩⟩) 1 ar I I I lN I)<|tZ<|rG<|lM I<|yD I<|lA I<|SL.nil<|bN<|tN<|rG<|lM I<|yD I<|lA I<|SL.nil ?_;generalize (⟨u,B,⟨C,F,yc⟩⟩:Rc)=y at *;have f:∃ J',(D++(J0++[z])++y::R2).set ((D.length:Nat):Int).toNat y=(D++[y])++(J'++[y])++R2∧J'.length=J0.length:=by
     cases J0 with
     | nil=>exact⟨[],by rw[show D++([]++[z])++y::R2=D++z::y::R2 by simp,dT oM];simp,rfl⟩
     | cons j J1=>exact⟨J1++[z],by rw[show D++(j::J1++[z])++y::R2=D++j::(J1++[z]++y::R2) by simp,dT oM];simp,by simp⟩
    obtain ⟨J',f,a1⟩:=f;refine ST.to (fun w L=>?_) (g':=g) (s':=rowA encCell 37 (.slice (some ⟨b,0,none⟩) l.length<|cap+1) ((D++[y])++(J'++[y])++R2)::s) ?_
    ·rw[← f];exact L.sublist<|.cons _<|.refl _
    exact ST.again (D++[y],J',y,R2) ⟨I,I,bG lN,bG lN,trivial⟩ I I ⟨by rw[M];dsimp only;rw[List.filter_cons_of_pos (by rw[K];rfl)];simp,lN⟩ lN
   ·have S:pr ⟨u,B,⟨C,F,yc⟩⟩=true:=by simpa using q
    refine kP<|bN<|tN<|rG<|lM I<|yD I<|lA I<|SL.nil ?_;generalize (⟨u,B,⟨C,F,yc⟩⟩:Rc)=y at *;refine ST.to (fun w L=>?_) (g':=g) (s':=rowA encCell 37 (.slice (some ⟨b,0,none⟩) l.length<|cap+1) (D++((J0++[z])++[y])++R2)::s) ?_
    ·rw[show D++((J0++[z])++[y])++R2=D++(J0++[z])++y::R2 by simp];exact L.sublist<|.cons _<|.refl _
    exact ST.again (D,J0++[z],y,R2) ⟨I,I,I,bG lN,trivial⟩ I I ⟨by rw[M];dsimp only;rw[List.filter_cons_of_neg (by rw[S];simp)],lN⟩ lN
  ·have hR:R'=[]:=zf6 oM;subst hR;simp only[zc5] at k;refine xI<|tX<|tX<|bX<|tN<|rZ ?_;refine SL.to (fun w L=>At.shrink (i:=0) (D:=D) (J:=J0++[z]) L (by rw[zc7];rfl) rfl) ?_;refine lM I<|lM I<|lU (SU.eq (v':=.slice (some ⟨b,D.length * 3,none⟩) (l.length - D.length)<|cap+1 - D.length) (SU.sliceL aF ar I I oM oM)<|by rw[Int.toNat_natCast,nZ oM,Nat.zero_add]) ?_;refine lO (SO.clearA (D:=D) 0 sty27 (mB (l:=[vi 0,vi 0,.slice none 0 0]) sB) I I I oM) ?_;rintro _ _ _ ⟨rfl,rfl⟩;refine tZ<|sW I<|lM I<|lU (SU.eq (v':=.slice (some ⟨b,0,none⟩) D.length<|cap+1) (SU.sliceH aF ar I I oM oM) (by rw[Int.toNat_natCast];exact CS)) ?_;refine aT I<|rE ?_;exact za8 (.inl I) results38 I ⟨I,by rw[M];simp⟩
open Go Go.Sy Go.Pl Go.Proofs
theorem Ev {g:PH}:∀ {A:List Cl} {rs:List Rc},ax (ak g) A rs→rs.map Rc.id=A.map Cl.id
 | [],[],_=>rfl
 | [],_::_,h=>False.elim h
 | _::_,[],h=>False.elim h
 | a::A,r::rs,h=>by rw[zg6,zg6,h.1.1,Ev h.2]
theorem Gf {g:PH}{A:List Cl}{rs:List Rc}(h:ax (ak g) A rs)(d:A.Pairwise fun a b=>a.id<b.id):rs.Pairwise fun a b=>a.id<b.id:=by
 have c:(A.map Cl.id).Pairwise (· < ·):=zk6.2 d;rw[← Ev h] at c;exact zk6.1 c
theorem uJ {g:PH}(p:Int→Bool):∀ {A:List Cl} {rs:List Rc},ax (ak g) A rs→ax (ak g) (A.filter fun c=>p c.id) (rs.filter fun r=>p r.id)
 | [],[],_=>trivial
 | [],_::_,h=>False.elim h
 | _::_,[],h=>False.elim h
 | a::A,r::rs,h=>by
  have ih:=uJ p h.2;rw[zi9,zi9,h.1.1];split
  ·exact⟨h.1,ih⟩
  ·exact ih
theorem GF (E:World)(g:PH)(b m:Nat)(rs:List Rc)(K:List Cl)(hb:g b=some (bY #[.map<|some m] 65))(hm:Mp g m (rs.map ap))(c:ax (ak g) K rs):EM E (.func (.func 39) #[] #[pp b 0]) (fun x=>(ag K x.id).isSome) g:=by
 intro s x;refine cU.mk (args:=[_]) (cap:=[pp b 0]) call39 ?_;obtain ⟨a,i,⟨j,k,l⟩⟩:=x;obtain ⟨⟨n,o,p,q,yc⟩,d,e,-⟩:=dE c gW a;have f:(ep (rs.map ap) a).isSome=(ag K a).isSome:=e;refine zb2 (args:=[.agg #[vi a,vi i,.slice j k l],pp b 0]) func39 I ntmps39 (bE I)<|rZ (bW (bO I) fun r=>?_);refine aT I<|rZ<|lK (qL (v:=.map<|some m) em I<|cK hb I)<|lU (fA ao I zT3 I)<|lK (qL (v:=vi a) iT3 I<|cO 0 I I)<|lK (SQ.eq (v':=.tuple #[.agg #[vi n,vi o,.slice p q yc],vb (ag K a).isSome]) (SQ.lookupOk mty65 I I<|bh.known hm) (by rw[d,f];rfl)) ?_;refine lM I (yX I<|yX I<|bW (aL zm2) fun t=>?_);exact oZ (sK 0 ar I I I I I sB)<|aT I<|sW I<|aT I<|rE<|dR (s':=s) uR<|za8 (.inl I) results39 I ⟨I,I,I⟩
theorem yz (E:World)(g:PH)(s:Own)(b m:Nat)(rs:List Rc)(K:List Cl)(v:Value)(l:List Cl)(hb:g b=some (bY #[.map<|some m] 65))(hm:Mp g m (rs.map ap))(j:ax (ak g) K rs)(o:ai g v l)(p:aM l)(k:(aa l).Pairwise fun a b=>a.id<b.id) :
  Ctr Tryz.prog E 37 #[.agg #[v],pp b 0] g s (fun r g' s'=>Le g g'∧∃ ds,s'=rowA encCell 37 r ds::s∧ax (ak g') (sortBy Cl.dim<|(aa l).filter fun c=>!(ag K c.id).isSome) ds):=by
 obtain ⟨q,d,rfl⟩:=o.form;refine zb2 (args:=[.agg #[.slice q l.length d],pp b 0]) func37 I ntmps37 (bE I)<|rZ (bW (bO I) fun y=>?_);refine aT I<|rZ<|lK (qV 0 an ae I I I)<|lW (SO.call call34 I<|CF E g _ _ l o p) ?_;rintro _ g1 _ ⟨e,v1,ds,rfl,rfl,i⟩;have t:=i.length;have u:=(aB p).1;have n:=Gf i k;have w:=zc6 (fun x:Rc=>!(ag K x.id).isSome) ds;refine lU (SU.field dA I eG I I)<|lU (SU.mkFunc I)<|lW (SO.call call38 I<|xj E g1 _ v1 _ ds (fun x=>(ag K x.id).isSome) (GF E g1 b m rs K (e _ _ hb) (Mp.mono hm e)<|j.mono fun _ _=>ak.mono e) oM) ?_;rintro r9 _ _ ⟨rfl,rfl⟩;refine aT I<|sW I<|lW (SO.call call40 I<|zB E g1 _ r9 _ 0 I oM<|n.filter _) ?_;rintro _ _ _ ⟨rfl,rfl⟩;exact tZ<|sW I<|aT I<|rE<|dR (s':=rowA encCell 37 r9 (sortBy Rc.dim<|ds.filter fun x=>!(ag K x.id).isSome)::s) (.cons_cons _<|.cons _<|.refl _)<|za8 (.inl I) results37 I ⟨e,_,I,ax.sortBy (f:=Cl.dim) (h:=Rc.dim) (fun a b h=>h.2.1.symm)<|uJ (fun id=>!(ag K id).isSome) i⟩
theorem Fs (E:World)(g:PH):nm E (.func (.func 43) #[] #[]) encCell (fun x:Rc=>-x.dim) g:=by
 intro g' s x y c;refine cU.mk (args:=[_,_]) (cap:=[]) call43 ?_;obtain ⟨d,a,⟨e,f,i⟩⟩:=x;obtain ⟨j,b,⟨k,l,yc⟩⟩:=y;have m:ij (-a) (-b)=ij b a:=by unfold ij;split <;> split <;> (try split)<;>(try split)<;>omega
 dsimp only;rw[m];refine zb2 (args:=[.agg #[vi d,vi a,.slice e f i],.agg #[vi j,vi b,.slice k l yc]]) func43 I ntmps43 (bE I)<|rZ (bW (bO I) fun n=>?_);refine bW (bO I) fun o=>aT I<|rZ<|lU (fA ao I zT3 I)<|lK (qL (v:=vi b) iT3 I<|cO 0 I I)<|lU (fA ao I zT3 I)<|lK (qL (v:=vi a) iT3 I<|cO 1 I I)<|lW (SO.call call44 I<|dM E g' _ b a) ?_;rintro _ _ _ ⟨rfl,rfl,rfl⟩;exact aT I<|rE<|dR (s':=s) uR<|za8 (.inl I) results43 I ⟨I,I,I⟩
theorem CE {l M:List Cl}(h:Rt l)(a:M.Sublist l):aa M=M:=by
 unfold aa;rw[(bJ (key:=Cl.id) ((h.asc.sublist a).imp fun h=>by omega)<|aI.refl M).symm];have:∀ c∈M,cj c=c:=fun c hc=>by
  unfold cj;rw[(bJ (key:=aj.cell) ((h.form c<|a.subset hc).asc.imp fun h=>by omega)<|aI.refl c.sides).symm]
 rw[zc9 this];simp
theorem Bw (l:List Cl):sortBy (fun c:Cl=>-c.dim) (sortBy Cl.dim l)=sortBy (fun c:Cl=>-c.dim) l:=by
 have b:aI (fun c:Cl=>-c.dim) l (sortBy Cl.dim l):=by
  refine⟨(co (key:=Cl.dim) l).1,fun c=>?_⟩;have h:=(co (key:=Cl.dim) l).2<|-c;have e:(fun a:Cl=>-a.dim == c)=fun a:Cl=>a.dim == -c:=funext fun a=>by rw[Bool.eq_iff_iff];simp;omega
  rw[e];exact h
 exact bJ (dj _)<|b.trans<|co _
theorem mU {α:Type}(key:α→Int)(l:List α):(sortBy key l).length=l.length:=(co (key:=key) l).1
theorem pI (E:World)(g:PH)(s:Own)(va a3:Value)(A B:List Cl)(ha:ai g va A)(hb:ai g a3 B)(fa:aM A)(fb:aM B)(ra:(aq A).2=0)(rb:(aq B).2=0) :
  Ctr Tryz.prog E 11 #[.agg #[va],.agg #[a3]] g s (fun r g' s'=>s=s'∧Le g g'∧Eds g' r (wo (aa A)<|aa B)):=by
 obtain ⟨pa,ca,rfl⟩:=ha.form;obtain ⟨pb,cb,rfl⟩:=hb.form;have rA:=iJ ra;have rB:=iJ rb;have tA:am A=aa A:=bQ rA.asc;have tB:am B=aa B:=bQ rB.asc;have J:=DB (aa A)<|aa B;have a4:=CE rA J;have c5:aM (mA (aa A)<|aa B):=⟨Nat.lt_of_le_of_lt J.length_le (aB fa).1,fun c hc=>(aB fa).2 c<|J.subset hc⟩;have c6:((aa<|mA (aa A)<|aa B).map Cl.id).Nodup:=by rw[a4];exact rA.ids.sublist<|J.map _
 have c7:wo (aa A) (aa B)=(sortBy (fun c:Cl=>-c.dim)<|sortBy Cl.dim<|(aa A).filter fun c=>!(ag (mA (aa A)<|aa B) c.id).isSome).map Fw++(sortBy Cl.dim<|(aa B).filter fun c=>!(ag (mA (aa A)<|aa B) c.id).isSome).map FV:=by rw[Bw];rfl
 have e4:=(aB fa).1;have e9:=(aB fb).1;rw[c7];have c9:(sortBy Cl.dim<|(aa A).filter fun c=>!(ag (mA (aa A)<|aa B) c.id).isSome).length≤4000:=by
  rw[mU];exact zk9 (zc6 _ _) rA.few
 have f7:(sortBy Cl.dim<|(aa B).filter fun c=>!(ag (mA (aa A)<|aa B) c.id).isSome).length≤4000:=by
  rw[mU];exact zk9 (zc6 _ _) rB.few
 refine zb2 (args:=[.agg #[.slice pa A.length ca],.agg #[.slice pb B.length cb]]) func11 I ntmps11 (bE I)<|rZ (bW (bO I) fun b2=>?_);refine bW (bO I) fun b3=>aT I<|sQ<|rZ<|lK (qV 1 an ae I I I)<|lK (qV 0 an ae I I I)<|lW (bS sty119 I I I (ab sB) dC) ?_;rintro _ _ _ ⟨d0,rfl,rfl,rfl⟩;refine zb5 fun g1 u a5=>?_;have M:SlA dQ g1 (.slice (some ⟨d0,0,none⟩) 2 2) [⟨pa,A.length,ca⟩,⟨pb,B.length,cb⟩]:=SlA.lit a5 rfl rfl;have K:=ha.mono u;have L:=hb.mono u;refine lW (SO.call call25 I<|pm E g1 _ _ [A,B] _ M ⟨K,L,trivial⟩ (by intro l hl;simp at hl;rcases hl with rfl | rfl;exact fa;exact fb) dO (by intro l hl;simp at hl;rcases hl with rfl | rfl;exact ra;exact rb)) ?_;rintro _ _ _ ⟨rfl,rfl,rfl⟩;refine lU (SU.eq (v':=vb false) (SU.not I) I)<|tZ<|za1 I<|kP<|tN<|rZ<|lK (qV 1 an ae I I I)<|lK (qV 0 an ae I I I)<|lW (SO.call call13 I<|B9 E g1 _ _ _ A B K L fa fb) ?_;rintro _ g2 _ ⟨rfl,w,uM,rfl,hM⟩;rw[tA,tB] at hM;refine lW (SO.call call26 I<|ez E g2 _ uM _ hM c5 c6) ?_;rintro r21 g3 _ ⟨rfl,y,hT⟩;rw[a4] at hT;obtain ⟨m,rs,rfl,hm,z⟩:=hT;refine bW (aL zl8) fun b5=>oZ (sK 0 vP I I I I I sB)<|tZ (sQ<|SC.freeze fun g4 d U=>?_);refine rG<|lU (SU.mkFunc I)<|aT I<|sW I<|lK (qV 1 an ae I I I)<|lW (SO.callV I I<|cU.mk (cap:=[pp b5 0]) call37<|yz E g4 _ b5 m rs _ _ A U (Mp.mono hm d) (z.mono fun _ _=>ak.mono d) ((K.mono w).mono<|y.trans d) fa rA.asc) ?_;rintro v7 g5 _ ⟨p,ds,rfl,V⟩;have e2:=V.length;refine aT I<|sW I<|lW (SO.call call42 I<|ph E g5 _ v7 _ (fun x:Rc=>-x.dim) (Fs E g5) ds oM) ?_;rintro _ _ _ ⟨rfl,rfl⟩;have a9:=ax.sortBy (f:=fun c:Cl=>-c.dim) (h:=fun x:Rc=>-x.dim) (fun a b h=>by have:=h.2.1;omega) V;rw[← mU (fun c:Cl=>-c.dim)] at c9;refine tZ (sQ<|fS fun g6 n W=>?_);obtain ⟨q6,d6,rfl⟩:=zc3 W;refine zb6 58 7<|rG<|aT I<|sQ<|sW I<|lU (eN aF I)<|lM I<|tZ<|bK ?_;have N:=a9.mono fun _ _=>ak.mono n;have C:=(z.mono fun _ _=>ak.mono d).mono fun _ _=>ak.mono<|p.trans n;have b0:=Mp.mono (Mp.mono hm d)<|p.trans n;have b1:=n _ _<|p _ _ U;have b4:=(((L.mono w).mono<|y.trans d).mono p).mono n;have X:=(u.trans<|w.trans<|y.trans d).trans<|p.trans n;have O:SlA encCell g6 (.slice q6 (sortBy (fun x:Rc=>-x.dim) ds).length d6) (sortBy (fun x:Rc=>-x.dim) ds):=W;clear W a9 V hm z U K L M hM;generalize sortBy (fun x:Rc=>-x.dim) ds=es at *;generalize (sortBy (fun c:Cl=>-c.dim)<|sortBy Cl.dim<|(aa A).filter fun c=>!(ag (mA (aa A)<|aa B) c.id).isSome)=GL at *;have f8:=N.length;refine oP (ι:=Nat×Value×List Er) (fun i=>[(3,pp b3 0),(6,.func (.func 37) #[] #[pp b5 0]),(8,i.2.1),(28,.slice q6 es.length d6),(29,vi es.length),(30,vi i.1)]) (fun _=>g6) (fun i=>rowA ie 58 i.2.1 i.2.2::pt b3 (bY #[.slice pb B.length cb] 29)::pt b2 (bY #[.slice pa A.length ca] 29)::s) (fun i=>i.1≤es.length∧i.2.2.length=i.1∧ax (EdK g6) ((GL.take i.1).map Fw) i.2.2) (fun i=>es.length - i.1) (0,.slice none 0 0,[]) sB I I ⟨zf8 _,I,trivial⟩ ?_;rintro ⟨j,ov,acc⟩ ⟨hj,d1,o⟩;dsimp only at hj d1 o ⊢;refine rZ<|yL I<|tZ<|sQ<|iP I (fun d2=>?_) (fun d2=>?_)
 ·have Y:j<es.length:=oM;have b6:j<GL.length:=oM;have d3:=za6 O oM;have d4:es[((j:Nat):Int).toNat]?=some es[j]:=List.getElem?_eq_getElem Y;have d5:=N.get (List.getElem?_eq_getElem b6)<|List.getElem?_eq_getElem Y;have Z:GL.take (j+1)=GL.take j++[GL[j]]:=tS b6;generalize es[j]=x at *;generalize GL[j]=cx at *;obtain ⟨xi,xd,⟨xp,xn,xc⟩⟩:=x;obtain rfl:xi=cx.id:=d5.1;have hE:EdK g6 (Fw cx) ⟨2,cx.id,0,0,0,⟨none,0,0⟩,⟨none,0,0⟩⟩:=⟨_,_,rfl,zc1 _ _,zc1 _ _⟩;refine kP (tN<|sQ<|bK<|rZ<|lU (iA aF ar I I d3 oM sL)<|lK (SQ.elemA dH ar I (za7 O) d4)<|bW (aL zm2) fun h0=>?_);refine oZ (sK 0 ar I I I I I sB)<|tZ<|rG<|lM I<|lU (fA ao I zT3 I)<|lK (qL (v:=vi cx.id) iT3 I<|cO 0 I I)<|lU (za3 I<|xB58 _ _)<|lW (bS sty42 I I I (ab ⟨I,trivial⟩) dC) ?_;rintro _ _ _ ⟨h1,rfl,rfl,rfl⟩;refine lW (aP (e:=ie) (l:=acc) 1 ⟨2,cx.id,0,0,0,⟨none,0,0⟩,⟨none,0,0⟩⟩ sty42 I I I I I oM oM) ?_;rintro ov' _ _ ⟨rfl,rfl⟩;exact lA I<|SL.nil<|bN<|tN<|rG<|yD I<|lM I<|SL.nil<|dR (.cons _<|.refl _)<|ST.again (j+1,ov',acc++[⟨2,cx.id,0,0,0,⟨none,0,0⟩,⟨none,0,0⟩⟩]) sB I I ⟨by dsimp only;omega,by dsimp only;rw[ze7,ze9];omega,by dsimp only;rw[Z,zg7];exact o.append ⟨hE,trivial⟩⟩ (by dsimp only;omega)
 ·have Y:j=es.length:=oM;have Z:GL.take j=GL:=tL oM;rw[Z] at o;have b7:=o.length;rw[ze8] at b7;refine xI<|tX<|tX<|bX<|tN<|sQ<|sW I<|lK (qV 1 an ae I I I)<|lW (SO.callV I I<|cU.mk (cap:=[pp b5 0]) call37<|yz E g6 _ b5 m rs _ _ B b1 b0 C b4 fb rB.asc) ?_;rintro v43 g7 _ ⟨P,q,rfl,Q⟩;refine SL.freezeRowK fun g8 D F=>?_;have b8:=F.sl.mono<|fh _ _;obtain ⟨q8,d8,rfl⟩:=F.form;refine lU (eN aF I)<|lM I<|tZ<|bK ?_;have b9:=Q.mono fun _ _=>ak.mono D;have a0:=o.mono fun _ _=>EdK.mono<|P.trans D;have a1:=X.trans<|P.trans D;clear F Q b4 C b0 o;generalize (sortBy Cl.dim<|(aa B).filter fun c=>!(ag (mA (aa A)<|aa B) c.id).isSome)=NL at *;have h2:=b9.length;refine oP (ι:=Nat×Value×List Er) (fun i=>[(8,i.2.1),(43,.slice q8 q.length d8),(44,vi q.length),(45,vi i.1)]) (fun _=>g8) (fun i=>rowA ie 58 i.2.1 i.2.2::pt b3 (bY #[.slice pb B.length cb] 29)::pt b2 (bY #[.slice pa A.length ca] 29)::s) (fun i=>i.1≤q.length∧i.2.2.length=GL.length+i.1∧ax (EdK g8) (GL.map Fw++(NL.take i.1).map FV) i.2.2) (fun i=>q.length - i.1) (0,ov,acc) sB I I ⟨zf8 _,by dsimp only;omega,by simpa using a0⟩ ?_;rintro ⟨k,ow,a2⟩ ⟨hk,d7,t⟩;dsimp only at hk d7 t ⊢;refine rZ<|yL I<|tZ<|sQ ?_;refine iP I (fun c0=>?_) (fun c0=>?_)
  ·have R:k<q.length:=oM;have S:k<NL.length:=oM;have c1:=za6 b8 oM;have c2:q[((k:Nat):Int).toNat]?=some q[k]:=List.getElem?_eq_getElem R;have G:=b9.get (List.getElem?_eq_getElem S)<|List.getElem?_eq_getElem R;have H:NL.take (k+1)=NL.take k++[NL[k]]:=tS S;generalize q[k]=x at *;generalize NL[k]=cx at *;obtain ⟨xi,xd,⟨xp,xn,xc⟩⟩:=x;obtain rfl:xi=cx.id:=G.1;obtain rfl:xd=cx.dim:=G.2.1;have e0:SlA encSide g8 (.slice xp xn xc) cx.sides:=G.2.2;have e1:EdK g8 (FV cx) ⟨1,cx.id,cx.dim,0,0,⟨xp,xn,xc⟩,⟨none,0,0⟩⟩:=⟨_,_,rfl,e0,zc1 _ _⟩;refine kP (tN<|sQ<|bK<|rZ<|lU (iA aF ar I I c1 oM sL)<|lK (SQ.elemA dH ar I (za7 b8) c2)<|bW (aL zm2) fun h3=>?_);refine oZ (sK 0 ar I I I I I sB)<|tZ<|rG<|lM I<|lU (fA ao I zT3 I)<|lK (qL (v:=vi cx.id) iT3 I<|cO 0 I I)<|lU (fA ao I zT3 I)<|lK (qL (v:=vi cx.dim) iT3 I<|cO 0 I I)<|lU (fA ao I aH I)<|lK (qL (v:=.slice xp xn xc) bi I<|cO 0 I I)<|lU (za3 I<|xA58 _ _ _ _ _ _)<|lW (bS sty42 I I I (ab ⟨I,trivial⟩) dC) ?_;rintro _ _ _ ⟨h4,rfl,rfl,rfl⟩;refine lW (aP (e:=ie) (l:=a2) 1 ⟨1,cx.id,cx.dim,0,0,⟨xp,xn,xc⟩,⟨none,0,0⟩⟩ sty42 I I I I I oM oM) ?_;rintro ow' _ _ ⟨rfl,rfl⟩;exact lA I<|SL.nil<|bN<|tN<|rG<|yD I<|lM I<|SL.nil<|dR (.cons _<|.refl _)<|ST.again (k+1,ow',a2++[⟨1,cx.id,cx.dim,0,0,⟨xp,xn,xc⟩,⟨none,0,0⟩⟩]) sB I I ⟨by dsimp only;omega,by dsimp only;rw[ze7,ze9];omega,by dsimp only;rw[H,zg7,← zh1];exact t.append ⟨e1,trivial⟩⟩ (by dsimp only;omega)
  ·have H:NL.take k=NL:=tL oM;rw[H] at t;refine xI (tX<|tX<|bX<|tN<|sQ<|fS fun g9 T c3=>?_);obtain ⟨q9,d9,rfl⟩:=zc3 c3;exact rG<|lM I<|aT I<|rE<|dR (s':=s) uR<|za8 (.inl I) results11 I ⟨I,a1.trans T,a2,c3,t.mono fun _ _=>EdK.mono T⟩
def GQ (ts:List Tm):Prop:=∀ t∈ts,a8 t.1
structure Tame (ts:List Tm):Prop where
 part:∀ j r,(cf (ts.take j) r).natAbs≤1000000000
 coef:∀ t∈ts,t.2.natAbs≤1000000000
 len:ts.length<1000000
 fit:GQ ts
theorem c8 (a:Int)(u:Value)(r:List (Int×Value))(k:Int):ep ((a,u)::r) k=if k=a then some u else ep r k:=by
 unfold ep;rw[fnd];split
 ·rfl
 ·exact md k r 1
set_option maxHeartbeats 8000000
theorem s6 {l:List Cl}{x:Cl}(a:x∈aa l):∃ y∈l,cj y=x:=by
 unfold aa at a;obtain ⟨y,b,rfl⟩:=zf4.1 a;exact⟨y,(fE (key:=Cl.id) l).mem_iff.1 b,I⟩
open Go.ChangeShapes Go.WideShapes Go.ChangeAt Go.RowKit
set_option maxRecDepth 100000
abbrev Ac:=Int×Int×Int×Int
def lj:Enc Ac 4:=⟨fun a=>[vi a.1,vi a.2.1,vi a.2.2.1,vi a.2.2.2],fun _=>rfl,fun _ u hu=>by simp at hu;rcases hu with rfl | rfl | rfl | rfl <;> rfl,by decide⟩
def A64 (a:Ac):Prop:=a8 a.1∧a8 a.2.1∧a8 a.2.2.1∧a8 a.2.2.2
theorem wn {n:Int}(h:(Lit.int .i64 n).wf=true):a8 n:=by
 have a:IntKind.i64.min≤n∧n≤IntKind.i64.max:=by simpa [Lit.wf] using h
 unfold a8;simp[IntKind.min,IntKind.max,IntKind.bits,IntKind.signed] at a;omega
theorem E8 {W:World}{k:Nat}{a:Addr}{len cap:Nat}{xs:List Value}(hl:len≤cap)(q:xs.length=len * k)(hc:∀ i x,xs[i]?=some x→W.cell? (a.add i)=some x):Sl (tm W) k (.slice (some a) len cap) len xs:=by
 refine⟨some a,cap,I,⟨q,hl⟩,fun l=>?_⟩;obtain ⟨b,o,sp⟩:=a;have p:0<xs.length:=List.length_pos_iff.2 l;have m:=hc 0 xs[0] (List.getElem?_eq_getElem p);have n:sp=none:=by simpa [Addr.add] using World.cell?_spot m
 subst n;have d:∀ i,(⟨b,o,none⟩:Addr).add i=⟨b,o+i,none⟩:=fun i=>by unfold Addr.add;split <;> simp_all
 simp only[d] at hc;have c:∀ i x,xs[i]?=some x→∃ cs T e,W.heap[b]?=some (.cells cs T e)∧cs[o+i]?=some x:=fun i x r=>by
  have g:=hc i x r;unfold World.cell? at g;split at g
  ·rename_i cs T e s;exact⟨cs,T,e,s,by simpa using g⟩
  ·cases g
 obtain ⟨cs,T,e,hb,_⟩:=c 0 xs[0] (List.getElem?_eq_getElem p);refine⟨b,o,cs,T,e,I,hb,fun j x t=>?_⟩;obtain ⟨cs',T',u,f,v⟩:=c j x t;rw[hb] at f;cases f;exact v
theorem CA {α:Type}{k:Nat}(e:Enc α k){l:List α}{j:Nat}{x:Value}(h:(l.flatMap e.enc)[j]?=some x):∃ i a,l[i]?=some a∧j=i * k+j % k∧j % k<k∧(e.enc a)[j % k]?=some x:=by
 have b:=(zf7.1 h).1;rw[e.length] at b;have c:=e.pos;have d:j / k<l.length:=by rw[Nat.div_lt_iff_lt_mul c];exact b
 have f:j % k<k:=Nat.mod_lt _ c;have g:j=j / k * k+j % k:=by rw[Nat.mul_comm];exact (Nat.div_add_mod j k).symm
 refine⟨j / k,l[j / k],List.getElem?_eq_getElem d,g,f,?_⟩;have m:(e.enc l[j / k])[j % k]?=some ((e.enc l[j / k])[j % k]'(by rw[e.len];exact f)):=List.getElem?_eq_getElem _;have n:=e.get (List.getElem?_eq_getElem d) m;rw[← g,h] at n;rw[m,← n]
section
variable {H:Type}{enc:TypeId×Value→H}{W:World}{base:Nat}{spare:Nat→Bool}{hd:Bool}
theorem Tryz.cells117:Tryz.prog.cellsOf 117=4:=by kernel_rfl
theorem Gp {fuel:Nat}{cs:List Value}{x:DataW H×List MemPlace}(h:DataW.trod enc Tryz.prog W base spare hd fuel 117 cs=some x):∃ a:Ac,cs=lj.enc a∧A64 a:=by
 obtain ⟨q,r,s,t,n,_,hl,e,f,g,i⟩:=Go.Joins.trod_struct4 dY h;rw[cells117] at hl
 match cs,hl with
 | [c0,c1,c2,c3],_ =>
  rw[cells3] at e f g i;obtain ⟨a,j,_,m⟩:=DataW.trod_int uT3 e;obtain ⟨b,k,_,o⟩:=DataW.trod_int uT3 f;obtain ⟨c,l,_,p⟩:=DataW.trod_int uT3 g;obtain ⟨d,e3,_,wd⟩:=DataW.trod_int uT3 i;simp at j k l e3;subst j k l e3;exact⟨(a,b,c,d),I,wn m,wn o,wn p,wn wd⟩
theorem CP {fuel:Nat}{v:Value}{x:DataW H×List MemPlace}(h:DataW.trod enc Tryz.prog W base spare hd fuel 25 [v]=some x):∃ l:List Ac,SlA lj (tm W) v l∧∀ a∈l,A64 a:=by
 rcases Go.Deep.open_slice underlying25 h with ⟨c,_⟩ | ⟨a,len,cap,m,n,D,Pl,c,_,hl,_,o,_,A⟩
 ·simp at c;subst c;exact⟨[],zc1 _ _,by simp⟩
 ·simp at c;subst c;have B:len≤m:=by rw[o];split <;> omega
  obtain ⟨f,s⟩:=Go.Deep.choose_lt (α:=Ac) (n:=len) (p:=fun i y=>A64 y∧∀ j x,(lj.enc y)[j]?=some x→W.cell? (a.add<|i * 4+j)=some x) fun i d=>by
   obtain ⟨cs',g,t⟩:=A i oM;rw[cells117] at g;obtain ⟨y,rfl,e⟩:=Gp t;obtain ⟨_,_,q⟩:=World.cells?_some g;refine⟨y,e,fun j x k=>?_⟩;have r:j<4:=by have:=(zf7.1 k).1;rwa [lj.len] at this
   rw[← Go.Deep.add_add,q j r,k]
  refine⟨(List.range len).map f,?_,fun z hz=>by
   obtain ⟨i,d,rfl⟩:=zf4.1 hz;exact (s i (List.mem_range.1 d)).1⟩
  show Sl (tm W) 4 _ ((List.range len).map f).length (((List.range len).map f).flatMap lj.enc);rw[ze8,zi6];refine E8 hl (by rw[lj.length,ze8,zi6]) fun j y k=>?_;obtain ⟨i,b,d,g,t,q⟩:=CA lj k;rw[zi2] at d;cases hc:(List.range len)[i]? with
  | none=>rw[hc] at d;cases d
  | some z =>
   rw[hc] at d;cases d;obtain ⟨u,w⟩:=zf7.1 hc;simp at u w;subst w;rw[g];exact (s i u).2 _ _ q
theorem rT {v:Value}{d:DataW H}{p:List MemPlace}(h:DataW.Trod enc Tryz.prog W base spare hd 25 v d p)(c:v.cells = #[v]):∃ l:List Ac,SlA lj (tm W) v l∧∀ a∈l,A64 a:=by
 obtain ⟨f,b⟩:=h;rw[c] at b;exact CP b
end
theorem yS {l:List Cl}{e:Ed}(h:(dS l e).1=0)(hl:∀ c∈l,a8 c.id)(m:e.kind=1→a8 e.cell)(n:e.kind=3→a8 e.new∧a8 e.other):∀ c∈(dS l e).2,a8 c.id:=by
 obtain ⟨r,hc,f,o⟩:=sf h;have hA:=iJ hc;have a:∀ c∈aa l,a8 c.id:=fun c hc=>by
  obtain ⟨d,hd,e⟩:=s6 hc;rw[← e];exact hl d hd
 rw[o];intro c g;obtain ⟨d,hd,rfl⟩:=s6 g;show a8 d.id;have i:=rK f;unfold cz at hd
 rcases i with k | k | k | k | k
 ·rw[zg3 k] at hd
  rcases zf5.1 hd with hd | hd
  ·exact a d hd
  ·simp at hd;rw[hd];exact m k
 ·rw[zg2 oM,zg3 k] at hd;exact a d (sI.1 hd).1
 ·rw[zg2 oM,zg2 oM,zg3 k] at hd;unfold bH at f;rw[zg2 oM,zg2 oM,zg3 k] at f;obtain ⟨s,_,_,_,_,b⟩:=o9 hA f;rw[b] at hd;obtain ⟨p,q⟩:=n k
  rcases zf5.1 hd with hd | hd
  ·simp at hd
   rcases hd with rfl | rfl
   ·exact p
   ·exact q
  ·obtain ⟨x,j,rfl⟩:=zf4.1 hd;rw[F3];exact a x j
 ·rw[zg2 oM,zg2 oM,zg2 oM,zg3 k] at hd;unfold ey at hd;obtain ⟨x,j,rfl⟩:=zf4.1 hd;exact a x (sI.1 j).1
 ·rw[zg2 oM,zg2 oM,zg2 oM,zg2 oM] at hd;exact a d (sI.1 hd).1
end Go.Proofs.YtdepcjnaieflmaaGreatDoor
namespace Go.Sy
open Go
section
variable {P:Program}{N:Nat}{E:World}{f:Fr}{g:PH}{s:Own}{fn:Func}{R:Value→PH→Own→Prop}{e:Exit}
theorem ST.retC3 {T U:TypeId}{t u q m b k:Nat}{cs:Array Value}{A:Nat×Nat}{x y z:Value}(i:Nat)(s':Own)(B:e = .ret∨e = .normal)(hr:fn.results = #[.cell t T,.tmp u,.tmp q,.tmp m])(C:aN f t=some (pp b 0))(D:aN f u=some x)(hq:aN f q=some y)(hm:aN f m=some z)
  (F:∀ w,(isAgg T).run P w = .ok true w) (G:∀ w,(sizeOf T).run P w = .ok k w)
  (H:s[i]?=some (pt b<|.cells cs U A)) (hc:cs.size=k) (d:s'.Sublist s) (J:R (.tuple #[.agg cs,x,y,z]) g s'):ST N E (bodyPost P fn<|ne E R) e f g s :=
 fun a w c j=>by
  have K:=cg (P:=P) j F (by rw[hc];exact G) H;have l:=c.at_ t _ C;have n:=c.at_ u _ D;have o:=c.at_ q _ hq;have p:=c.at_ m _ hm;simp only[Array.getD_eq_getD_getElem?] at l n o p;have r:(results fn a.tmps).run P w = .ok (.tuple #[.agg cs,x,y,z]) w:=by simp[results,hr,asAddr,pp,l,K,n,o,p]
  have v:ne E R (.returned<|.tuple #[.agg cs,x,y,z]) w:=⟨_,g,s',rfl,j.sublist d,J⟩
  rcases B with rfl | rfl
  ·exact⟨c.defers,_,r,v⟩
  ·exact⟨c.defers,_,r,v⟩
end
end Go.Sy
namespace Go.Proofs.YtdepcjnaieflmaaGreatDoor
open _root_.Go.Proofs.Tryz _root_.Go.Proofs.YtdepcjnaieflmaaGreatDoor.Tryz
open Go Go.Sy Go.Pl Go.Proofs
set_option maxRecDepth 100000
set_option maxHeartbeats 4000000
theorem uX {es:List Ed}{k:Nat}(h:k<es.length)(A:List Cl)(ss:List Stp):nY A ss k (es.drop k)=if (dS A es[k]).1=0 then nY (dS A es[k]).2 (ss++[imO A es[k]]) (k+1) (es.drop<|k+1) else (((dS A es[k]).1,(k:Int)),[],[]):=by
 rw[zg8 h];rfl
theorem yV {es:List Ed}{k:Nat}(h:es.length≤k)(A:List Cl)(ss:List Stp):nY A ss k (es.drop k)=((0,0),A,ss):=by
 rw[List.drop_of_length_le h];rfl
theorem jK {g:PH}{p:Option Addr}{n c:Nat}{l:List Cl}(h:ai g (.slice p n c) l):n=l.length:=by
 obtain ⟨q,d,e⟩:=h.form;injection e
theorem zk.nil {g:PH}{code i:Int}:zk ((code,i),[],[]) (.tuple #[.agg #[.slice none 0 0],.slice none 0 0,vi i,vi code]) g:=⟨_,none,0,0,rfl,ai.nil g,Sts.nil g⟩
theorem BV (E:World)(g:PH)(s:Own)(v ev:Value)(l:List Cl)(es:List Ed)(N:ai g v l)(O:aM l)(he:Eds g ev es)(hs:∀ e∈es,FA e)(a2:es.length<1099511627776) :
  Ctr Tryz.prog E 12 #[.agg #[v],ev] g s (fun r g' s'=>s=s'∧Le g g'∧zk (ik l es) r g'):=by
 obtain ⟨p,c,rfl⟩:=N.form;obtain ⟨rs,G,n⟩:=he;have a3:=n.length;obtain ⟨R,ce,rfl⟩:=za4 G;refine zb2 (args:=[.agg #[.slice p l.length c],.slice R rs.length ce]) func12 I ntmps12 (bE I)<|rZ (bW (bO I) fun P=>?_);refine bW (aL zl3) fun Q=>lA I<|lA I<|aT I<|sQ<|bK<|sW I<|lU (eN tW I)<|lU (gR I I)<|aT I<|iP I (fun h0=>?_) (fun h0=>?_)
 ·have H:ik l es=((2,0),[],[]):=by unfold ik;rw[zg3 oM]
  refine rZ<|lU (za3 I buildE29)<|oZ (sK 0 ae I I I I I sB)<|lA I<|lA I<|aT I<|rE<|bR<|tR ?_;rw[H];exact ST.retC3 0 s (.inl I) results12 I I I I an ae I I (.cons _<|.cons _<|.refl _) ⟨I,zb9 _,zk.nil⟩
 ·by_cases hr:(aq l).2=0
  ·have H:ik l es=nY (aa l) [] 0 es:=by unfold ik;rw[zg2 oM,zg2 oM]
   refine rZ<|lK (qV 1 an ae I I I)<|lW (SO.call call45 I<|me E g _ _ l N O true<|zg1 hr) ?_;rintro _ _ _ ⟨rfl,rfl,rfl⟩;refine lU (SU.not I)<|aT I<|za1 I<|kP<|bN<|tN<|rZ<|lK (qV 1 an ae I I I)<|lW (SO.call call34 I<|gU E g _ _ l N O) ?_;rintro _ g1 _ ⟨rfl,j,u1,rfl,hA⟩;obtain ⟨p1,c1,rfl⟩:=hA.form;refine oZ (sK 1 ae I I I I I sB)<|tZ<|rZ<|aT I<|sQ<|sW I<|lU (eN tW I)<|lM I<|tZ<|bK ?_;rw[H];have S:=aB O;generalize aa l=A at *;refine zb6 92 2<|oP (ι:=Nat×PH×List Cl×Option Addr×Nat×Value×List Sr×List Stp) (fun i=>[(2,pp P 0),(4,pp Q 0),(8,i.2.2.2.2.2.1),(26,.slice R rs.length ce),(27,vi rs.length),(28,vi i.1)]) (fun i=>i.2.1) (fun i=>rowA ol 92 i.2.2.2.2.2.1 i.2.2.2.2.2.2.1::pt Q (bY #[.slice none 0 0] 29)::pt P (bY #[.slice i.2.2.2.1 i.2.2.1.length i.2.2.2.2.1] 29)::s)
    (fun i=>i.1≤es.length∧Le g1 i.2.1∧ai i.2.1 (.slice i.2.2.2.1 i.2.2.1.length i.2.2.2.2.1) i.2.2.1∧aM i.2.2.1∧ax (StK i.2.1) i.2.2.2.2.2.2.2 i.2.2.2.2.2.2.1∧i.2.2.2.2.2.2.1.length=i.1∧nY A [] 0 es=nY i.2.2.1 i.2.2.2.2.2.2.2 i.1 (es.drop i.1)) (fun i=>es.length - i.1)
    (0,g1,A,p1,c1,.slice none 0 0,[],[]) sB rfl rfl ⟨zf8 _,zb9 _,hA,S,trivial,rfl,rfl⟩ ?_
   rintro ⟨k,gk,B,pk,ck,ov,acc,ss⟩ ⟨hk,d,hB,J,m,T,b⟩;dsimp only at hk d hB J m T b ⊢;refine rZ<|yL I<|tZ<|sQ<|iP I (fun U=>?_) (fun U=>?_)
   ·have C:k<es.length:=oM;have K:k<rs.length:=oM;have L:=za5 G<|j.trans d;have V:=za6 L oM;have W:rs[((k:Nat):Int).toNat]?=some rs[k]:=List.getElem?_eq_getElem K;have X:=(n.get (List.getElem?_eq_getElem C)<|List.getElem?_eq_getElem K).mono<|j.trans d;have Y:=hs _<|gM C;rw[uX C] at b;generalize es[k]=e at *;generalize rs[k]=x at *;obtain ⟨x1,x2,x3,x4,x5,⟨x6,x7,x8⟩,⟨x9,a4,a5⟩⟩:=x;have Z:=oV B e;refine kP<|tN<|SC.cut (ι:=PH×Option Addr×Nat×Value×Sr) (fun i=>[(2,pp P 0),(4,pp Q 0),(8,i.2.2.2.1),(26,.slice R rs.length ce),(27,vi rs.length),(28,vi k)]) (fun i=>i.1) (fun i=>rowA ol 92 i.2.2.2.1 (acc++[i.2.2.2.2])::pt Q (bY #[.slice none 0 0] 29)::pt P (bY #[.slice i.2.1 (dS B e).2.length i.2.2.1] 29)::s)
     (fun i=>Le gk i.1∧ai i.1 (.slice i.2.1 (dS B e).2.length i.2.2.1) (dS B e).2∧StK i.1 (imO B e) i.2.2.2.2∧nY A [] 0 es=nY (dS B e).2 (ss++[imO B e]) (k+1) (es.drop<|k+1)) ?_ ?_
    ·refine bK (sW I<|lU (iA tW eE I I V oM sL)<|lK (SQ.elemA jX eE I (za7 L) W)<|bW (aL zm3) fun a9=>?_);refine lA I<|oZ (sK 0 eE rfl rfl rfl rfl rfl<|by (repeat' (first | exact trivial | refine⟨by rfl,?_⟩))) ?_;refine tZ<|rZ<|lK (qV 3 an ae I I I)<|lK (qV 0 jX eE I I I)<|lW (SO.call call46 I<|Y E gk _ _ _ B hB J X) ?_;rintro _ g2 _ ⟨rfl,a,hR⟩;obtain ⟨⟨d1,d2,d3⟩,⟨⟨t,w,y⟩,z⟩,rfl,D,F⟩:=hR.one;have a0:=jK D;subst a0;refine lM I (yX I<|yX I<|yX I<|bW (aL zl3) fun b0=>?_);refine bW (aL zl5) fun b1=>?_;refine oZ (sK 1 ae I I I I I sB) ?_;refine oZ (sK 0 bT I I I I I sB) ?_;refine aT I<|sQ<|sW I<|lU (nQ I I)<|tZ ?_;refine iP I (fun hz=>?_) (fun hz=>?_)
     ·refine rZ<|lU (za3 I buildE29)<|lM I<|lM I<|oZ (sK 4 ae I I I I I sB)<|lA I<|lA I<|aT I<|rE<|tR<|bR<|tR<|tR<|bR<|tR ?_;rw[zg2 hz] at b;rw[b];exact ST.retC3 4 s (.inl I) results12 I I I I an ae I I (.cons _<|.cons _<|.cons _<|.cons _<|.cons _<|.cons _<|.refl _) ⟨I,j.trans<|d.trans a,zk.nil⟩
     ·have hz:=Decidable.not_not.1 hz;rw[zg3 hz] at b;refine kP<|tN ?_;refine SC.drawX [4,5] ze5 kR ?_;refine SX.u (i:=1) I kR (mV I) dC<|SX.q (i:=2) I kR (qV 0 gt bT I I I) dC ?_;refine zd8 0 3 kR ?_ ?_
      ·refine SB.o (i:=0) I (SQ.sof<|qV 1 an ae I I I) dC (.inr iR) ?_;rintro _ _ _ ⟨rfl,rfl,rfl⟩;refine zd7 3 kR ?_
       ·refine SB.o (i:=3) I (bS sty44 I I I (ab ⟨I,trivial⟩) dC) dC (.inr iR) ?_;rintro _ _ _ ⟨a1,rfl,rfl,rfl⟩;refine zd7 4 kR ?_
        ·refine SB.o (i:=4) I (aP (e:=ol) (l:=acc) 3 ⟨⟨t,w,y⟩,z⟩ sty44 I I I I I oM oM) dC (.inl dC) ?_;rintro f _ _ ⟨rfl,rfl⟩;refine zd7 5 kR ?_
         ·refine SB.on (i:=5) I (sK 5 ae I I I I I sB) (.inl dC) ?_;rintro _ _ _ ⟨rfl,rfl⟩;refine SX.u (i:=6) I kR (aS I) dC<|SX.nil kR<|bN ?_;refine dR (.cons _<|.cons _<|.cons _<|.refl _) ?_;exact za9 (g2,d1,d3,f,⟨⟨t,w,y⟩,z⟩) sB I I ⟨a,D,F,b⟩
      ·refine SB.o (i:=3) I (bS sty44 I I I (ab ⟨I,trivial⟩) dC) dC (.inr iR) ?_;rintro _ _ _ ⟨a1,rfl,rfl,rfl⟩;refine zd8 0 4 kR ?_ ?_
       ·refine SB.o (i:=0) I (SQ.sof<|qV 2 an ae I I I) dC (.inr iR) ?_;rintro _ _ _ ⟨rfl,rfl,rfl⟩;refine zd7 4 kR ?_
        ·refine SB.o (i:=4) I (aP (e:=ol) (l:=acc) 3 ⟨⟨t,w,y⟩,z⟩ sty44 I I I I I oM oM) dC (.inl dC) ?_;rintro f _ _ ⟨rfl,rfl⟩;refine zd7 5 kR ?_
         ·refine SB.on (i:=5) I (sK 5 ae I I I I I sB) (.inl dC) ?_;rintro _ _ _ ⟨rfl,rfl⟩;refine SX.u (i:=6) I kR (aS I) dC<|SX.nil kR<|bN ?_;refine dR (.cons _<|.cons _<|.cons _<|.refl _) ?_;exact za9 (g2,d1,d3,f,⟨⟨t,w,y⟩,z⟩) sB I I ⟨a,D,F,b⟩
       ·refine SB.o (i:=4) I (aP (e:=ol) (l:=acc) 3 ⟨⟨t,w,y⟩,z⟩ sty44 I I I I I oM oM) dC (.inl dC) ?_;rintro f _ _ ⟨rfl,rfl⟩;refine zd7 0 kR ?_
        ·refine SB.ob (i:=0) I (SQ.sof<|qV 1 an ae I I I) dC kR ?_;rintro _ _ _ ⟨rfl,rfl,rfl⟩;refine zd7 5 kR ?_
         ·refine SB.on (i:=5) I (sK 5 ae I I I I I sB) (.inl dC) ?_;rintro _ _ _ ⟨rfl,rfl⟩;refine SX.u (i:=6) I kR (aS I) dC<|SX.nil kR<|bN ?_;refine dR (.cons _<|.cons _<|.cons _<|.refl _) ?_;exact za9 (g2,d1,d3,f,⟨⟨t,w,y⟩,z⟩) sB I I ⟨a,D,F,b⟩
    rintro ⟨g2,d1,d3,f,⟨⟨t,w,y⟩,z⟩⟩ ⟨a,D,F,b⟩;dsimp only at a D F b ⊢;exact rG<|yD I<|lM I<|SL.nil<|ST.again (k+1,g2,(dS B e).2,d1,d3,f,acc++[⟨⟨t,w,y⟩,z⟩],ss++[imO B e]) sB I I ⟨by dsimp only;omega,d.trans a,D,Z,(m.mono fun _ _=>StK.mono a).append ⟨F,trivial⟩,by dsimp only;rw[ze7,ze9];omega,b⟩ (by dsimp only;omega)
   ·rw[yV oM] at b;refine xI (tX<|tX<|bX<|tN<|sQ<|fS fun g2 a M=>?_);obtain ⟨q2,d2,rfl⟩:=zc3 M;refine rG<|lK (qV 1 an ae I I I)<|lM I<|oZ (sK 0 ae I I I I I sB)<|lA I<|lA I<|aT I<|rE ?_;rw[b];exact ST.retC3 0 s (.inl I) results12 I I I I an ae I I (.cons _<|.cons _<|.refl _) ⟨I,j.trans<|d.trans a,_,_,_,_,I,hB.mono a,acc,M,m.mono fun _ _=>StK.mono a⟩
  ·have H:ik l es=((1,0),[],[]):=by unfold ik;rw[zg2 oM,zg3 hr]
   refine rZ<|lK (qV 1 an ae I I I)<|lW (SO.call call45 I<|me E g _ _ l N O false<|zf9 hr) ?_;rintro _ _ _ ⟨rfl,rfl,rfl⟩;refine lU (SU.not I)<|aT I<|za2 I<|rZ<|lU (za3 I buildE29)<|oZ (sK 0 ae I I I I I sB)<|lA I<|lA I<|aT I<|rE<|bR<|tR ?_;rw[H];exact ST.retC3 0 s (.inl I) results12 I I I I an ae I I (.cons _<|.cons _<|.refl _) ⟨I,zb9 _,zk.nil⟩
theorem rW (E:World)(g:PH)(s:Own)(v ev:Value)(l:List Cl)(es:List Ed)(X:ai g v l)(Y:aM l)(he:Eds g ev es)(hs:∀ e∈es,EdS e)(b0:es.length<1099511627776) :
  Ctr Tryz.prog E 23 #[.agg #[v],ev] g s (fun r g' s'=>s=s'∧Le g g'∧zk (ik l es) r g'):=by
 obtain ⟨p,c,rfl⟩:=X.form;obtain ⟨rs,P,F⟩:=he;have b1:=F.length;obtain ⟨Z,ce,rfl⟩:=za4 P;refine zb2 (args:=[.agg #[.slice p l.length c],.slice Z rs.length ce]) func23 I ntmps23 (bE I)<|rZ (bW (bO I) fun b2=>?_);refine bW (aL zl3) fun U=>lA I<|lA I<|aT I<|sQ<|sW I<|lU (eN tW I)<|lU (gR I I)<|tZ<|iP I (fun h0=>?_) (fun h0=>?_)
 ·have Q:ik l es=((2,0),[],[]):=by unfold ik;rw[zg3 oM]
  refine rZ<|lU (za3 I buildE29)<|oZ (sK 0 ae I I I I I sB)<|lA I<|lA I<|aT I<|rE<|tR ?_;rw[Q];exact ST.retC3 0 s (.inl I) results23 I I I I an ae I I (.cons _<|.cons _<|.refl _) ⟨I,zb9 _,zk.nil⟩
 ·refine kP<|tN<|rZ<|lK (qV 1 an ae I I I)<|lW (SO.call call52 I<|dV E g _ _ l X Y) ?_;rintro _ g0 _ ⟨rfl,rfl,w⟩;rw[dL];have a0:=X.mono w;refine aT I<|sQ<|sW I<|lU (SU.notP I)<|tZ<|iP I (fun hr=>?_) (fun hr=>?_)
  ·have Q:ik l es=((1,0),[],[]):=by unfold ik;rw[zg2 oM,zg3 hr]
   refine rZ<|lU (za3 I buildE29)<|oZ (sK 0 ae I I I I I sB)<|lA I<|lA I<|aT I<|rE<|tR ?_;rw[Q];exact ST.retC3 0 s (.inl I) results23 I I I I an ae I I (.cons _<|.cons _<|.refl _) ⟨I,w,zk.nil⟩
  ·have Q:ik l es=nY (aa l) [] 0 es:=by unfold ik;rw[zg2 oM,zg2 hr]
   refine kP<|tN<|rZ<|lK (qV 1 an ae I I I)<|lW (SO.call call77 I<|cd E g0 _ _ l a0 Y) ?_;rintro _ g1 _ ⟨rfl,f,u1,rfl,hA⟩;obtain ⟨p1,c1,rfl⟩:=hA.form;have f:=w.trans f;refine bW (aL zl3) fun V=>oZ (sK 0 ae I I I I I sB)<|tZ<|rZ<|aT I<|sQ<|rZ<|aT I<|bK ?_;rw[Q];have a1:=aB Y;generalize aa l=A at *;refine zb6 92 2<|oP (ι:=Nat×PH×List Cl×Option Addr×Nat×Value×List Sr×List Stp) (fun i=>[(1,.slice Z rs.length ce),(4,pp U 0),(9,pp V 0),(10,i.2.2.2.2.2.1),(11,vi i.1)]) (fun i=>i.2.1) (fun i=>rowA ol 92 i.2.2.2.2.2.1 i.2.2.2.2.2.2.1::pt V (bY #[.slice i.2.2.2.1 i.2.2.1.length i.2.2.2.2.1] 29)::pt U (bY #[.slice none 0 0] 29)::pt b2 (bY #[.slice p l.length c] 29)::s)
    (fun i=>i.1≤es.length∧Le g1 i.2.1∧ai i.2.1 (.slice i.2.2.2.1 i.2.2.1.length i.2.2.2.2.1) i.2.2.1∧aM i.2.2.1∧ax (StK i.2.1) i.2.2.2.2.2.2.2 i.2.2.2.2.2.2.1∧i.2.2.2.2.2.2.1.length=i.1∧nY A [] 0 es=nY i.2.2.1 i.2.2.2.2.2.2.2 i.1 (es.drop i.1)) (fun i=>es.length - i.1)
    (0,g1,A,p1,c1,.slice none 0 0,[],[]) sB rfl rfl ⟨zf8 _,zb9 _,hA,a1,trivial,rfl,rfl⟩ ?_
   rintro ⟨k,W,B,pk,ck,ov,acc,ss⟩ ⟨hk,j,hB,D,y,a2,m⟩;dsimp only at hk j hB D y a2 m ⊢;refine sQ<|sW I<|lM I<|lU (eN tW I)<|yL I<|tZ<|iP I (fun a3=>?_) (fun a3=>?_)
   ·have H:k<es.length:=oM;have R:k<rs.length:=oM;have S:=za5 P<|f.trans j;have a4:=za6 S oM;have a5:rs[((k:Nat):Int).toNat]?=some rs[k]:=List.getElem?_eq_getElem R;have J:=(F.get (List.getElem?_eq_getElem H)<|List.getElem?_eq_getElem R).mono<|f.trans j;have t:=hs _<|gM H;rw[uX H] at m;generalize es[k]=e at *;generalize rs[k]=x at *;obtain ⟨x1,x2,x3,x4,x5,⟨x6,x7,x8⟩,⟨x9,b3,b5⟩⟩:=x;have a9:=oV B e;refine kP<|tN<|sQ<|bK<|SC.cut (ι:=Nat×Nat×PH×Sv×Sr) (fun i=>[(1,.slice Z rs.length ce),(4,pp U 0),(9,pp V 0),(10,ov),(11,vi k),(12,pp i.1 0),(13,pp i.2.1 0),(14,vi (dS B e).1)]) (fun i=>i.2.2.1) (fun i=>pt i.2.1 (bY #[.slice i.2.2.2.2.sv.p i.2.2.2.2.sv.n i.2.2.2.2.sv.c,vb i.2.2.2.2.bk] 92)::pt i.1 (bY #[.slice i.2.2.2.1.p (dS B e).2.length i.2.2.2.1.c] 29)::rowA ol 92 ov acc::pt V (bY #[.slice pk B.length ck] 29)::pt U (bY #[.slice none 0 0] 29)::pt b2 (bY #[.slice p l.length c] 29)::s)
     (fun i=>Le W i.2.2.1∧ai i.2.2.1 (.slice i.2.2.2.1.p (dS B e).2.length i.2.2.2.1.c) (dS B e).2∧StK i.2.2.1 (imO B e) i.2.2.2.2) ?_ ?_
    ·refine SC.drawX [12,13] ze5 kR ?_;refine SX.q (i:=0) I kR (qV (by exact 1) an ae I I I) dC ?_;refine SX.u (i:=1) I kR (mV I) dC<|SX.u (i:=2) I kR (mV I) dC<|SX.u (i:=3) I kR (iA tW eE I I a4 oM sL) dC<|SX.q (i:=4) I kR (SQ.elemA jX eE I (za7 S) a5) dC ?_
     repeat' (first
      | (refine SB.o (i:=5) I (SO.call call78 I<|l7 E W _ _ _ B e hB D J t.1 (by have:=t.2;omega)) dC (.inr (by rintro _ g2 _ ⟨rfl,a,G⟩;exact⟨by assumption,(by exact .cons _<|.cons _<|.refl _)⟩)) ?_;rintro _ g2 _ ⟨rfl,a,G⟩;obtain ⟨⟨d1,d2,d3⟩,⟨⟨K,L,M⟩,N⟩,rfl,C,O⟩:=G.one;have z:=jK C;subst z;refine SX.u (i:=6) I kD (mV I) dC ?_;refine SX.u (i:=7) I kD (xT I I) dC ?_;refine SX.u (i:=8) I kD (xT I I) dC ?_;refine SX.u (i:=9) I kD (xT I I) dC ?_)
      | (refine SB.o (i:=5) I (SO.call call78 I<|l7 E W _ _ _ B e hB D J t.1 (by have:=t.2;omega)) dC (.inr (by rintro _ g2 _ ⟨rfl,a,G⟩;exact⟨by assumption,(by exact .cons _<|.refl _)⟩)) ?_;rintro _ g2 _ ⟨rfl,a,G⟩;obtain ⟨⟨d1,d2,d3⟩,⟨⟨K,L,M⟩,N⟩,rfl,C,O⟩:=G.one;have z:=jK C;subst z;refine SX.u (i:=6) I kD (mV I) dC ?_;refine SX.u (i:=7) I kD (xT I I) dC ?_;refine SX.u (i:=8) I kD (xT I I) dC ?_;refine SX.u (i:=9) I kD (xT I I) dC ?_)
      | (refine SB.o (i:=5) I (SO.call call78 I<|l7 E W _ _ _ B e hB D J t.1 (by have:=t.2;omega)) dC (.inr (by rintro _ g2 _ ⟨rfl,a,G⟩;exact⟨by assumption,(by exact .refl _)⟩)) ?_;rintro _ g2 _ ⟨rfl,a,G⟩;obtain ⟨⟨d1,d2,d3⟩,⟨⟨K,L,M⟩,N⟩,rfl,C,O⟩:=G.one;have z:=jK C;subst z;refine SX.u (i:=6) I kD (mV I) dC ?_;refine SX.u (i:=7) I kD (xT I I) dC ?_;refine SX.u (i:=8) I kD (xT I I) dC ?_;refine SX.u (i:=9) I kD (xT I I) dC ?_)
      | (refine SB.o (i:=10) rfl (aL zl3) dC (.inr (by rintro _ _ _ ⟨b,rfl,rfl,rfl⟩;exact⟨by exact zb9 _,(by exact .cons _<|.cons _<|.refl _)⟩)) ?_;rintro _ _ _ ⟨b,rfl,rfl,rfl⟩)
      | (refine SB.o (i:=10) rfl (aL zl3) dC (.inr (by rintro _ _ _ ⟨b,rfl,rfl,rfl⟩;exact⟨by assumption,(by exact .cons _<|.cons _<|.refl _)⟩)) ?_;rintro _ _ _ ⟨b,rfl,rfl,rfl⟩)
      | (refine SB.o (i:=10) rfl (aL zl3) dC (.inr (by rintro _ _ _ ⟨b,rfl,rfl,rfl⟩;exact⟨by exact zb9 _,(by exact .cons _<|.refl _)⟩)) ?_;rintro _ _ _ ⟨b,rfl,rfl,rfl⟩)
      | (refine SB.o (i:=10) rfl (aL zl3) dC (.inr (by rintro _ _ _ ⟨b,rfl,rfl,rfl⟩;exact⟨by assumption,(by exact .cons _<|.refl _)⟩)) ?_;rintro _ _ _ ⟨b,rfl,rfl,rfl⟩)
      | (refine SB.o (i:=11) rfl (aL zl5) dC (.inr (by rintro _ _ _ ⟨d,rfl,rfl,rfl⟩;exact⟨by exact zb9 _,(by exact .cons _<|.cons _<|.refl _)⟩)) ?_;rintro _ _ _ ⟨d,rfl,rfl,rfl⟩)
      | (refine SB.o (i:=11) rfl (aL zl5) dC (.inr (by rintro _ _ _ ⟨d,rfl,rfl,rfl⟩;exact⟨by assumption,(by exact .cons _<|.cons _<|.refl _)⟩)) ?_;rintro _ _ _ ⟨d,rfl,rfl,rfl⟩)
      | (refine SB.o (i:=11) rfl (aL zl5) dC (.inr (by rintro _ _ _ ⟨d,rfl,rfl,rfl⟩;exact⟨by exact zb9 _,(by exact .cons _<|.refl _)⟩)) ?_;rintro _ _ _ ⟨d,rfl,rfl,rfl⟩)
      | (refine SB.o (i:=11) rfl (aL zl5) dC (.inr (by rintro _ _ _ ⟨d,rfl,rfl,rfl⟩;exact⟨by assumption,(by exact .cons _<|.refl _)⟩)) ?_;rintro _ _ _ ⟨d,rfl,rfl,rfl⟩)
      | (refine SB.on (i:=12) I (sK 1 ae I I I I I sB) (.inl dC) ?_;rintro _ _ _ ⟨rfl,rfl⟩)
      | (refine SB.on (i:=12) I (sK 0 ae I I I I I sB) (.inl dC) ?_;rintro _ _ _ ⟨rfl,rfl⟩)
      | (refine SB.on (i:=13) I (sK 0 bT I I I I I sB) (.inl dC) ?_;rintro _ _ _ ⟨rfl,rfl⟩;refine SX.u (i:=14) I kD (aS I) dC ?_)
      | (refine SB.on (i:=13) I (sK 1 bT I I I I I sB) (.inl dC) ?_;rintro _ _ _ ⟨rfl,rfl⟩;refine SX.u (i:=14) I kD (aS I) dC ?_)
      | refine SX.br3 5 10 11 kD ?_ ?_ ?_
      | refine zd8 10 11 kD ?_ ?_
      | refine zd7 11 kD ?_
      | refine zd7 12 kD ?_
      | refine zd7 13 kD ?_
      | refine zd7 10 kD ?_
      | refine zd8 5 11 kD ?_ ?_
      | refine zd7 5 kD ?_
      | refine zd8 5 10 kD ?_ ?_
      | (refine SX.nil kD ?_;first | exact za9 (b,d,g2,⟨d1,_,d3⟩,⟨⟨K,L,M⟩,N⟩) sB rfl rfl ⟨a,C,O⟩ | (refine ST.perm (zk3 _ _ _) ?_;exact za9 (b,d,g2,⟨d1,0,d3⟩,⟨⟨K,L,M⟩,N⟩) sB I I ⟨a,C,O⟩)))
    rintro ⟨b,d,g2,⟨d1,d2,d3⟩,⟨⟨K,L,M⟩,N⟩⟩ ⟨a,C,O⟩;dsimp only at a C O ⊢;refine sQ<|sW I<|lU (nQ I I)<|tZ<|iP I (fun hz=>?_) (fun hz=>?_)
    ·refine rZ<|lU (za3 I buildE29)<|lM I<|lM I<|oZ (sK 4 ae I I I I I sB)<|lA I<|lA I<|aT I<|rE<|tR<|bR<|tR<|tR<|bR<|tR ?_;rw[zg2 hz] at m;rw[m];exact ST.retC3 4 s (.inl I) results23 I I I I an ae I I (.cons _<|.cons _<|.cons _<|.cons _<|.cons _<|.cons _<|.refl _) ⟨I,f.trans<|j.trans a,zk.nil⟩
    ·have hz:=Decidable.not_not.1 hz;rw[zg3 hz] at m;refine kP<|tN<|rZ<|lK (qV 1 an ae I I I)<|oZ (sK 3 ae I I I I I sB)<|tZ<|rG<|lM I<|lK (qV 0 gt bT I I I)<|lW (bS sty44 I I I (ab ⟨I,trivial⟩) dC) ?_;rintro _ _ _ ⟨b6,rfl,rfl,rfl⟩;refine lW (aP (e:=ol) (l:=acc) 2 ⟨⟨K,L,M⟩,N⟩ sty44 I I I I I oM oM) ?_;rintro ov' _ _ ⟨rfl,rfl⟩;exact lA I<|SL.nil<|bN<|tN<|rG<|lM I<|yD I<|lA I<|SL.nil<|dR (.cons _<|.cons _<|.refl _)<|ST.again (k+1,g2,(dS B e).2,d1,d3,ov',acc++[⟨⟨K,L,M⟩,N⟩],ss++[imO B e]) sB I I ⟨by dsimp only;omega,j.trans a,C,a9,(y.mono fun _ _=>StK.mono a).append ⟨O,trivial⟩,by dsimp only;rw[ze7,ze9];omega,m⟩ (by dsimp only;omega)
   ·rw[yV oM] at m;refine xI (tX<|tX<|bX<|tN<|sQ<|fS fun g2 a T=>?_);obtain ⟨q2,d2,rfl⟩:=zc3 T;refine rG<|lK (qV 0 an ae I I I)<|lM I<|oZ (sK 1 ae I I I I I sB)<|lA I<|lA I<|aT I<|rE ?_;rw[m];exact ST.retC3 1 s (.inl I) results23 I I I I an ae I I (.cons _<|.cons _<|.cons _<|.refl _) ⟨I,f.trans<|j.trans a,_,_,_,_,I,hB.mono a,acc,T,y.mono fun _ _=>StK.mono a⟩
set_option maxHeartbeats 8000000
def zB9:List Cl:=[⟨1,0,[]⟩,⟨2,0,[]⟩,⟨3,0,[]⟩,⟨4,1,[⟨1,-1⟩,⟨2,1⟩]⟩,⟨5,1,[⟨2,-1⟩,⟨3,1⟩]⟩]
def eA:Ed:=⟨1,6,1,0,0,[⟨1,-1⟩,⟨3,1⟩],[]⟩
def eC:Ed:=⟨1,7,0,0,0,[],[]⟩
def eD:Ed:=⟨1,6,1,0,0,[⟨3,-1⟩,⟨1,1⟩],[]⟩
def e5:Ed:=⟨2,5,0,0,0,[],[]⟩
def e3:Ed:=⟨2,3,0,0,0,[],[]⟩
def eT:Ed:=⟨1,5,1,0,0,[⟨3,-1⟩,⟨2,1⟩],[]⟩
def sA:List Cl:=zB9++[⟨6,1,[⟨1,-1⟩,⟨3,1⟩]⟩]
def sC:List Cl:=zB9++[⟨7,0,[]⟩]
def sD:List Cl:=zB9++[⟨6,1,[⟨1,1⟩,⟨3,-1⟩]⟩]
def sE:List Cl:=[⟨1,0,[]⟩,⟨2,0,[]⟩,⟨4,1,[⟨1,-1⟩,⟨2,1⟩]⟩]
def sT:List Cl:=[⟨1,0,[]⟩,⟨2,0,[]⟩,⟨3,0,[]⟩,⟨4,1,[⟨1,-1⟩,⟨2,1⟩]⟩,⟨5,1,[⟨2,1⟩,⟨3,-1⟩]⟩]
theorem E3:dB [1,2]=[1,2]:=by
 unfold dB;rw[xR dC];rfl
theorem EY:dy [[0,1],[1,2]]=zB9:=by
 simp only[dy,aX,E4,E3];rfl
theorem FO:(ik zB9 [eA]).2.1=sA:=by kernel_rfl
theorem GO:(ik zB9 [eC]).2.1=sC:=by kernel_rfl
theorem FN:(ik zB9 [eD]).2.1=sD:=by kernel_rfl
theorem GN:(ik zB9 [e5,e3]).2.1=sE:=by kernel_rfl
theorem FM:(ik zB9 [e5,eT]).2.1=sT:=by kernel_rfl
theorem Db:dG (aa zB9) (aa sA) (aa sC)=(sA++[⟨7,0,[]⟩],[]):=by kernel_rfl
theorem Da:(dG (aa zB9) (aa sA)<|aa sD)=([],[6]):=by kernel_rfl
theorem C9:(dG (aa zB9) (aa sA)<|aa sE)=([],[6]):=by kernel_rfl
theorem ed_E:wo (aa zB9) (aa sE)=[e5,e3]:=by kernel_rfl
theorem ed_T:wo (aa zB9) (aa sT)=[e5,⟨1,5,1,0,0,[⟨2,1⟩,⟨3,-1⟩],[]⟩]:=by kernel_rfl
theorem ln:(aq zB9).2=0∧(aq sA).2=0∧(aq sC).2=0∧(aq sD).2=0∧(aq sE).2=0∧(aq sT).2=0:=by decide +kernel
theorem GI {es:List Ed}(h:∀ e∈es,e.sides.length<1099511627776∧(e.kind=1∨e.kind=2)):∀ e∈es,FA e:=fun e a=>Ft (h e a).1 (h e a).2
theorem mM {es:List Ed}(h:es.all (fun e=>decide (e.sides.length<1099511627776∧(e.kind=1∨e.kind=2)))=true):∀ e∈es,FA e:=GI fun e a=>zg5 (p:=e.sides.length<1099511627776∧(e.kind=1∨e.kind=2)) (zk2.1 h e a)
theorem dN (E:World)(g:PH)(s:Own)(v ev:Value)(l:List Cl)(es:List Ed)(d:ai g v l)(j:aM l)(f:Eds g ev es)(k:∀ e∈es,FA e)(b:es.length<1099511627776) :
  Ctr Tryz.prog E 19 #[.agg #[v],ev] g s (fun r g' s'=>s=s'∧Le g g'∧∃ u,r = .agg #[u]∧ai g' u (ik l es).2.1):=by
 obtain ⟨p,c,rfl⟩:=d.form;obtain ⟨m,ce,rfl⟩:=f.form;refine zb2 (args:=[.agg #[.slice p l.length c],.slice m es.length ce]) func19 I ntmps19 (bE I)<|rZ (bW (bO I) fun o=>?_);refine bW (aL zl3) fun q=>tZ<|rZ<|lK (qV 1 an ae I I I)<|lM I<|lW (SO.call call12 I<|BV E g _ _ _ l es d j f k b) ?_;rintro _ g1 _ ⟨rfl,a,n⟩;obtain ⟨u,t,w,c1,rfl,i,x⟩:=n;obtain ⟨pu,y,rfl⟩:=i.form;refine lM I (yX I<|yX I<|yX I<|yX I<|bW (aL zl3) fun z=>?_);exact oZ (sK 0 ae I I I I I sB)<|lA I<|lA I<|aT I<|rZ<|lK (qV 0 an ae I I I)<|oZ (sK 1 ae I I I I I sB)<|tZ<|rE<|ST.retCD 1 s (.inl I) results19 I an ae I I uR ⟨I,a,_,I,i⟩
theorem fH (E:World)(g:PH)(s:Own)(id a b:Int) :
  Ctr Tryz.prog E 20 #[vi id,vi a,vi b] g s (fun r g' s'=>s=s'∧Le g g'∧EdR g' r ⟨1,id,1,0,0,[⟨a,-1⟩,⟨b,1⟩],[]⟩):=by
 refine zb2 (args:=[vi id,vi a,vi b]) func20 I ntmps20 (bE I)<|rZ (bW (aL zm3) fun i=>?_);refine tZ<|sW I<|lM I<|lU (za3 I<|buildS80 _ _)<|lM I<|lU (za3 I<|buildS80 _ _)<|lW (bS sty35 I I I (ab sB) dC) ?_;rintro _ _ _ ⟨d,rfl,rfl,rfl⟩;refine zb5 fun g1 c e=>?_;have f:SlA encSide g1 (.slice (some ⟨d,0,none⟩) 2 2) [⟨a,-1⟩,⟨b,1⟩]:=SlA.lit e rfl rfl;refine lU (za3 I<|xA58 _ _ _ _ _ _)<|oZ (sK 0 eE rfl rfl rfl rfl rfl<|by (repeat' (first | exact trivial | refine⟨by rfl,?_⟩))) ?_;refine tZ<|rE ?_;exact ST.retCD 0 s (.inl I) results20 I jX eE I I uR ⟨I,c,_,_,I,f,zc1 _ _⟩
theorem ex:aM zB9:=jT dC dC
theorem vU:aM sA:=jT dC dC
theorem E7:aM sC:=jT dC dC
theorem E6:aM sD:=jT dC dC
theorem A6:aM sE:=jT dC dC
theorem E5:aM sT:=jT dC dC
theorem vT {b l r:List Cl}(h:(b++(l++r)).all (fun c=>decide (0≤c.id∧c.id<1000))=true):∀ x,x∈b∨x∈l∨x∈r→a8 x.id:=by
 intro x a;have d:=zk2.1 h x (by simpa using a);have e:=zg5 d;exact⟨oM,oM⟩
theorem uI {g:PH}{e:Ed}{r:Er}(h:EdK g e r):r.kind=e.kind∧r.cell=e.cell:=by
 obtain ⟨sv,pv,a,_,_⟩:=h;have e2:ie.enc r=[vi e.kind,vi e.cell,vi e.dim,vi e.new,vi e.other,sv,pv]:=by
  have e3:(ie.enc r).toArray = #[vi e.kind,vi e.cell,vi e.dim,vi e.new,vi e.other,sv,pv]:=Value.agg.inj a;exact ze4 Array.toList e3
 exact⟨(Value.int.inj (List.cons.inj e2).1).2,(Value.int.inj (List.cons.inj (List.cons.inj e2).2).1).2⟩
theorem AS {g:PH}{v:Value}{a b:Ed}(h:Eds g v [a,b]):∃ d1 c d s1 e d2 f i s2 j,SlA ie g v [⟨a.kind,a.cell,d1,c,d,s1,e⟩,⟨b.kind,b.cell,d2,f,i,s2,j⟩]:=by
 obtain ⟨rs,k,l⟩:=h;obtain ⟨r,m,rfl,hr,n⟩:=ax.cons_left l;obtain ⟨q,m2,rfl,hq,o⟩:=ax.cons_left n;obtain rfl:=ax.nil_left o;obtain ⟨p,s⟩:=uI hr;obtain ⟨e3,t⟩:=uI hq;refine⟨r.dim,r.new,r.other,r.sv,r.pv,q.dim,q.new,q.other,q.sv,q.pv,?_⟩;rw[← p,← s,← e3,← t];exact k
theorem dn {g:PH}{v:Value}{n:Nat}{l:List Cl}(h:ai g v l)(hl:l.length=n):∃ p c,v = .slice p n c:=by
 subst hl;exact h.form
theorem oE {g:PH}{v:Value}{n:Nat}{l:List Int}(h:dp g v l)(hl:l.length=n):∃ p c,v = .slice p n c:=by
 subst hl;exact za4 h
theorem SX.freeze {P:Program}{N:Nat}{E:World}{ops:Array Oper}{Q:Exit→Act→World→Prop}{g0:PH}{s0:Own}{tail:List Nat}{f:Fr}{g:PH}{s:Own}{L:Array Bool}{n:Nat}{b:Nat}{o:Obj}(h:∀ g',Le g g'→g' b=some o→SX P N E ops Q g0 s0 tail L n f g' s):SX P N E ops Q g0 s0 tail L n f g (pt b o::s):=fun a w i c j d hb=>by
 have e:=d.own (pt b o) dO;simp only[pt,Option.bind_some] at e;obtain ⟨k,l⟩:=d.freeze (b:=b) rfl e;exact h _ l (fc _ _ _) a w i c j k hb
theorem tC (E:World)(N:E.drawn=0)(g:PH)(s:Own):Ctr Tryz.prog E 6 #[] g s (fun r g' s'=>r=vb true∧s=s'∧Le g g'):=by
 refine zb2 (args:=[]) func6 I ntmps6 (bE I)<|rZ<|aT I<|rZ<|lW (bS sty32 I I I (ab sB) dC) ?_;rintro _ _ _ ⟨R,rfl,rfl,rfl⟩;refine zb5 fun g1 b S=>?_;have K:SlA encInt g1 (.slice (some ⟨R,0,none⟩) 2 2) [0,1]:=SlA.lit S rfl rfl;have c:=b;clear b;refine lW (bS sty32 I I I (ab sB) dC) ?_;rintro _ _ _ ⟨T,rfl,rfl,rfl⟩;refine zb5 fun g2 b U=>?_;have V:SlA encInt g2 (.slice (some ⟨T,0,none⟩) 2 2) [1,2]:=SlA.lit U rfl rfl;have K:=za5 K b;have c:=c.trans b;clear b;refine lW (bS sty22 I I I (ab sB) dC) ?_;rintro _ _ _ ⟨d0,rfl,rfl,rfl⟩;refine zb5 fun g3 b W=>?_;have X:cQ g3 (.slice (some ⟨d0,0,none⟩) 2 2) [[0,1],[1,2]]:=⟨[jA<|.slice (some ⟨R,0,none⟩) 2 2,jA<|.slice (some ⟨T,0,none⟩) 2 2],SlA.lit W rfl rfl,⟨za5 K b,za5 V b,trivial⟩⟩;have c:=c.trans b;clear b;refine lW (SO.call call18 I<|qk E g3 _ _ _ X dC dC) ?_;rintro _ g4 _ ⟨rfl,b,uB,rfl,hB⟩;rw[EY] at hB;obtain ⟨pB,cB,rfl⟩:=dn (n:=5) hB rfl;have c:=c.trans b;clear b;refine bW (aL zl3) fun Q=>oZ (sK 0 ae I I I I I sB)<|tZ<|SC.cut (ι:=Nat×PH×Option Addr×Nat) (fun i=>[(1,pp Q 0),(2,pp i.1 0)]) (fun i=>i.2.1) (fun i=>pt i.1 (bY #[.slice i.2.2.1 6 i.2.2.2] 29)::pt Q (bY #[.slice pB 5 cB] 29)::s) (fun i=>Le g4 i.2.1∧ai i.2.1 (.slice i.2.2.1 6 i.2.2.2) sA) ?_ ?_
 ·refine SC.drawX [5] ze5 kR ?_;refine SX.q (i:=0) I kR (qV 0 an ae I I I) dC ?_
  repeat' (first
   | ((with_reducible refine SB.k 5 ?_);refine SB.on (i:=5) I (sK 0 ae I I I I I ⟨I,trivial⟩) (.inl dC) ?_;rintro _ _ _ ⟨rfl,rfl⟩)
   | ((with_reducible refine SB.k 4 ?_);first | (refine SB.o (i:=4) rfl (aL zl3) dC (.inr (by rintro _ _ _ ⟨bv,rfl,rfl,rfl⟩;exact⟨by assumption,(by exact .cons _<|.refl _)⟩)) ?_;rintro _ _ _ ⟨bv,rfl,rfl,rfl⟩) | (refine SB.o (i:=4) rfl (aL zl3) dC (.inr (by rintro _ _ _ ⟨bv,rfl,rfl,rfl⟩;exact⟨by exact zb9 _,(by exact .cons _<|.refl _)⟩)) ?_;rintro _ _ _ ⟨bv,rfl,rfl,rfl⟩))
   | ((with_reducible refine SB.k 3 ?_);first | (refine SB.o (i:=3) rfl (SO.call call19 rfl<|dN E g6 _ _ _ zB9 [eA] (hB.mono d) ex hq (mM dC) dC) dC (.inr (by rintro _ g7 _ ⟨rfl,f,L,rfl,t⟩;exact⟨by exact Le.trans io io,(by exact .refl _)⟩)) ?_;rintro _ g7 _ ⟨rfl,f,L,rfl,t⟩;rw[FO] at t;obtain ⟨pu,M,rfl⟩:=dn (n:=6) t rfl;have w:=d.trans f) | (refine SB.o (i:=3) rfl (SO.call call19 rfl<|dN E g6 _ _ _ zB9 [eA] (hB.mono d) ex hq (mM dC) dC) dC (.inr (by rintro _ g7 _ ⟨rfl,f,L,rfl,t⟩;exact⟨by exact Le.trans io io,(by exact .cons _<|.refl _)⟩)) ?_;rintro _ g7 _ ⟨rfl,f,L,rfl,t⟩;rw[FO] at t;obtain ⟨pu,M,rfl⟩:=dn (n:=6) t rfl;have w:=d.trans f))
   | ((with_reducible refine SB.k 2 ?_);first | (refine SB.o (i:=2) rfl (bS sty42 rfl rfl rfl (ab ⟨rfl,trivial⟩) dC) dC (.inr (by rintro _ _ _ ⟨G,rfl,rfl,rfl⟩;exact⟨by assumption,(by exact .cons _<|.refl _)⟩)) ?_;rintro _ _ _ ⟨G,rfl,rfl,rfl⟩;refine SX.freeze fun g6 j y=>?_;have hq:Eds g6 (.slice (some ⟨G,0,none⟩) 1 1) [eA]:=⟨[⟨k1,k2,k3,k4,k5,⟨k6,k7,k8⟩,⟨k9,k10,k11⟩⟩],SlA.lit y rfl rfl,⟨EdK.mono j m,trivial⟩⟩;have d:=l.trans j) | (refine SB.o (i:=2) rfl (bS sty42 rfl rfl rfl (ab ⟨rfl,trivial⟩) dC) dC (.inr (by rintro _ _ _ ⟨G,rfl,rfl,rfl⟩;exact⟨by assumption,(by exact .cons _<|.cons _<|.refl _)⟩)) ?_;rintro _ _ _ ⟨G,rfl,rfl,rfl⟩;refine SX.freeze fun g6 j y=>?_;have hq:Eds g6 (.slice (some ⟨G,0,none⟩) 1 1) [eA]:=⟨[⟨k1,k2,k3,k4,k5,⟨k6,k7,k8⟩,⟨k9,k10,k11⟩⟩],SlA.lit y rfl rfl,⟨EdK.mono j m,trivial⟩⟩;have d:=l.trans j))
   | ((with_reducible refine SB.k 1 ?_);first | (refine SB.o (i:=1) rfl (SO.call call20 rfl<|fH E g4 _ 6 1 3) dC (.inr (by rintro _ g5 _ ⟨rfl,l,m⟩;exact⟨by assumption,(by exact .refl _)⟩)) ?_;rintro _ g5 _ ⟨rfl,l,m⟩;obtain ⟨⟨k1,k2,k3,k4,k5,⟨k6,k7,k8⟩,⟨k9,k10,k11⟩⟩,rfl,m⟩:=EdR.rc m) | (refine SB.o (i:=1) rfl (SO.call call20 rfl<|fH E g4 _ 6 1 3) dC (.inr (by rintro _ g5 _ ⟨rfl,l,m⟩;exact⟨by assumption,(by exact .cons _<|.refl _)⟩)) ?_;rintro _ g5 _ ⟨rfl,l,m⟩;obtain ⟨⟨k1,k2,k3,k4,k5,⟨k6,k7,k8⟩,⟨k9,k10,k11⟩⟩,rfl,m⟩:=EdR.rc m))
   | ((with_reducible refine SX.k 4 ?_);first | refine zd7 1 kD ?_ | refine zd8 2 4 kD ?_ ?_)
   | ((with_reducible refine SX.k 3 ?_);first | refine zd7 2 kD ?_ | refine zd8 3 4 kD ?_ ?_)
   | ((with_reducible refine SX.k 2 ?_);first | refine zd7 4 kD ?_ | refine zd7 3 kD ?_)
   | ((with_reducible refine SX.k 1 ?_);refine zd7 5 kD ?_)
   | ((with_reducible refine SX.k 0 ?_);refine SX.nil kD ?_;exact za9 (bv,g7,pu,M) sB I I ⟨w,t⟩)
   | (refine SX.k 5 ?_;refine zd8 1 4 kD ?_ ?_))
 rintro ⟨b2,g8,pA,cA⟩ ⟨b,hA⟩;dsimp only at b hA ⊢;have hB:=hB.mono b;have c:=c.trans b;clear b;refine rZ<|lK (qV 1 an ae I I I)<|lU (za3 I<|xB58 _ _)<|lW (bS sty42 I I I (ab ⟨I,trivial⟩) dC) ?_;rintro _ _ _ ⟨d1,rfl,rfl,rfl⟩;refine zb5 fun g9 b Y=>?_;have Z:Eds g9 (.slice (some ⟨d1,0,none⟩) 1 1) [eC]:=⟨[⟨1,7,0,0,0,⟨none,0,0⟩,⟨none,0,0⟩⟩],SlA.lit Y rfl rfl,⟨⟨_,_,rfl,zc1 _ _,zc1 _ _⟩,trivial⟩⟩;have hB:=hB.mono b;have hA:=hA.mono b;have c:=c.trans b;clear b;refine lW (SO.call call19 I<|dN E g9 _ _ _ zB9 [eC] hB ex Z (mM dC) dC) ?_;rintro _ g10 _ ⟨rfl,b,uC,rfl,x⟩;rw[GO] at x;obtain ⟨pC,cC,rfl⟩:=dn (n:=6) x rfl;have hB:=hB.mono b;have hA:=hA.mono b;have c:=c.trans b;clear b;refine bW (aL zl3) fun b3=>oZ (sK 0 ae I I I I I sB)<|tZ<|SC.cut (ι:=Nat×PH×Option Addr×Nat) (fun i=>[(1,pp Q 0),(2,pp b2 0),(3,pp b3 0),(4,pp i.1 0)]) (fun i=>i.2.1) (fun i=>pt i.1 (bY #[.slice i.2.2.1 6 i.2.2.2] 29)::pt b3 (bY #[.slice pC 6 cC] 29)::pt b2 (bY #[.slice pA 6 cA] 29)::pt Q (bY #[.slice pB 5 cB] 29)::s) (fun i=>Le g10 i.2.1∧ai i.2.1 (.slice i.2.2.1 6 i.2.2.2) sD) ?_ ?_
 ·refine SC.drawX [5] ze5 kR ?_;refine SX.q (i:=0) I kR (qV 2 an ae I I I) dC ?_
  repeat' (first
   | ((with_reducible refine SB.k 5 ?_);refine SB.on (i:=5) I (sK 0 ae I I I I I ⟨I,trivial⟩) (.inl dC) ?_;rintro _ _ _ ⟨rfl,rfl⟩)
   | ((with_reducible refine SB.k 4 ?_);first | (refine SB.o (i:=4) rfl (aL zl3) dC (.inr (by rintro _ _ _ ⟨bv,rfl,rfl,rfl⟩;exact⟨by assumption,(by exact .cons _<|.refl _)⟩)) ?_;rintro _ _ _ ⟨bv,rfl,rfl,rfl⟩) | (refine SB.o (i:=4) rfl (aL zl3) dC (.inr (by rintro _ _ _ ⟨bv,rfl,rfl,rfl⟩;exact⟨by exact zb9 _,(by exact .cons _<|.refl _)⟩)) ?_;rintro _ _ _ ⟨bv,rfl,rfl,rfl⟩))
   | ((with_reducible refine SB.k 3 ?_);first | (refine SB.o (i:=3) rfl (SO.call call19 rfl<|dN E g12 _ _ _ zB9 [eD] (hB.mono d) ex hq (mM dC) dC) dC (.inr (by rintro _ g13 _ ⟨rfl,f,L,rfl,t⟩;exact⟨by exact Le.trans io io,(by exact .refl _)⟩)) ?_;rintro _ g13 _ ⟨rfl,f,L,rfl,t⟩;rw[FN] at t;obtain ⟨pu,M,rfl⟩:=dn (n:=6) t rfl;have w:=d.trans f) | (refine SB.o (i:=3) rfl (SO.call call19 rfl<|dN E g12 _ _ _ zB9 [eD] (hB.mono d) ex hq (mM dC) dC) dC (.inr (by rintro _ g13 _ ⟨rfl,f,L,rfl,t⟩;exact⟨by exact Le.trans io io,(by exact .cons _<|.refl _)⟩)) ?_;rintro _ g13 _ ⟨rfl,f,L,rfl,t⟩;rw[FN] at t;obtain ⟨pu,M,rfl⟩:=dn (n:=6) t rfl;have w:=d.trans f))
   | ((with_reducible refine SB.k 2 ?_);first | (refine SB.o (i:=2) rfl (bS sty42 rfl rfl rfl (ab ⟨rfl,trivial⟩) dC) dC (.inr (by rintro _ _ _ ⟨G,rfl,rfl,rfl⟩;exact⟨by assumption,(by exact .cons _<|.refl _)⟩)) ?_;rintro _ _ _ ⟨G,rfl,rfl,rfl⟩;refine SX.freeze fun g12 j y=>?_;have hq:Eds g12 (.slice (some ⟨G,0,none⟩) 1 1) [eD]:=⟨[⟨k1,k2,k3,k4,k5,⟨k6,k7,k8⟩,⟨k9,k10,k11⟩⟩],SlA.lit y rfl rfl,⟨EdK.mono j m,trivial⟩⟩;have d:=l.trans j) | (refine SB.o (i:=2) rfl (bS sty42 rfl rfl rfl (ab ⟨rfl,trivial⟩) dC) dC (.inr (by rintro _ _ _ ⟨G,rfl,rfl,rfl⟩;exact⟨by assumption,(by exact .cons _<|.cons _<|.refl _)⟩)) ?_;rintro _ _ _ ⟨G,rfl,rfl,rfl⟩;refine SX.freeze fun g12 j y=>?_;have hq:Eds g12 (.slice (some ⟨G,0,none⟩) 1 1) [eD]:=⟨[⟨k1,k2,k3,k4,k5,⟨k6,k7,k8⟩,⟨k9,k10,k11⟩⟩],SlA.lit y rfl rfl,⟨EdK.mono j m,trivial⟩⟩;have d:=l.trans j))
   | ((with_reducible refine SB.k 1 ?_);first | (refine SB.o (i:=1) rfl (SO.call call20 rfl<|fH E g10 _ 6 3 1) dC (.inr (by rintro _ g11 _ ⟨rfl,l,m⟩;exact⟨by assumption,(by exact .refl _)⟩)) ?_;rintro _ g11 _ ⟨rfl,l,m⟩;obtain ⟨⟨k1,k2,k3,k4,k5,⟨k6,k7,k8⟩,⟨k9,k10,k11⟩⟩,rfl,m⟩:=EdR.rc m) | (refine SB.o (i:=1) rfl (SO.call call20 rfl<|fH E g10 _ 6 3 1) dC (.inr (by rintro _ g11 _ ⟨rfl,l,m⟩;exact⟨by assumption,(by exact .cons _<|.refl _)⟩)) ?_;rintro _ g11 _ ⟨rfl,l,m⟩;obtain ⟨⟨k1,k2,k3,k4,k5,⟨k6,k7,k8⟩,⟨k9,k10,k11⟩⟩,rfl,m⟩:=EdR.rc m))
   | ((with_reducible refine SX.k 4 ?_);first | refine zd7 1 kD ?_ | refine zd8 2 4 kD ?_ ?_)
   | ((with_reducible refine SX.k 3 ?_);first | refine zd7 2 kD ?_ | refine zd8 3 4 kD ?_ ?_)
   | ((with_reducible refine SX.k 2 ?_);first | refine zd7 4 kD ?_ | refine zd7 3 kD ?_)
   | ((with_reducible refine SX.k 1 ?_);refine zd7 5 kD ?_)
   | ((with_reducible refine SX.k 0 ?_);refine SX.nil kD ?_;exact za9 (bv,g13,pu,M) sB I I ⟨w,t⟩)
   | (refine SX.k 5 ?_;refine zd8 1 4 kD ?_ ?_))
 rintro ⟨b4,g14,pD,cD⟩ ⟨b,A⟩;dsimp only at b A ⊢;have hB:=hB.mono b;have hA:=hA.mono b;have x:=x.mono b;have c:=c.trans b;clear b;refine rZ<|lK (qV 3 an ae I I I)<|lU (za3 I<|xB58 _ _)<|lU (za3 I<|xB58 _ _)<|lW (bS sty42 I I I (ab sB) dC) ?_;rintro _ _ _ ⟨d2,rfl,rfl,rfl⟩;refine zb5 fun g15 b a0=>?_;have a1:Eds g15 (.slice (some ⟨d2,0,none⟩) 2 2) [e5,e3]:=⟨[⟨2,5,0,0,0,⟨none,0,0⟩,⟨none,0,0⟩⟩,⟨2,3,0,0,0,⟨none,0,0⟩,⟨none,0,0⟩⟩],SlA.lit a0 rfl rfl,⟨⟨_,_,rfl,zc1 _ _,zc1 _ _⟩,⟨_,_,rfl,zc1 _ _,zc1 _ _⟩,trivial⟩⟩;have hB:=hB.mono b;have hA:=hA.mono b;have x:=x.mono b;have A:=A.mono b;have c:=c.trans b;clear b;refine lW (SO.call call19 I<|dN E g15 _ _ _ zB9 [e5,e3] hB ex a1 (mM dC) dC) ?_;rintro _ g16 _ ⟨rfl,b,uE,rfl,C⟩;rw[GN] at C;obtain ⟨pE,cE,rfl⟩:=dn (n:=3) C rfl;have hB:=hB.mono b;have hA:=hA.mono b;have x:=x.mono b;have A:=A.mono b;have c:=c.trans b;clear b;refine bW (aL zl3) fun b5=>oZ (sK 0 ae I I I I I sB)<|tZ<|SC.cut (ι:=Nat×PH×Option Addr×Nat) (fun i=>[(1,pp Q 0),(2,pp b2 0),(3,pp b3 0),(4,pp b4 0),(5,pp b5 0),(6,pp i.1 0)]) (fun i=>i.2.1) (fun i=>pt i.1 (bY #[.slice i.2.2.1 5 i.2.2.2] 29)::pt b5 (bY #[.slice pE 3 cE] 29)::pt b4 (bY #[.slice pD 6 cD] 29)::pt b3 (bY #[.slice pC 6 cC] 29)::pt b2 (bY #[.slice pA 6 cA] 29)::pt Q (bY #[.slice pB 5 cB] 29)::s) (fun i=>Le g16 i.2.1∧ai i.2.1 (.slice i.2.2.1 5 i.2.2.2) sT) ?_ ?_
 ·refine SC.drawX [6] ze5 kR ?_;refine SX.q (i:=0) I kR (qV 4 an ae I I I) dC<|SX.u (i:=1) I kR (za3 I<|xB58 _ _) dC ?_
  repeat' (first
   | ((with_reducible refine SB.k 6 ?_);refine SB.on (i:=6) I (sK 0 ae I I I I I ⟨I,trivial⟩) (.inl dC) ?_;rintro _ _ _ ⟨rfl,rfl⟩)
   | ((with_reducible refine SB.k 5 ?_);first | (refine SB.o (i:=5) rfl (aL zl3) dC (.inr (by rintro _ _ _ ⟨bv,rfl,rfl,rfl⟩;exact⟨by assumption,(by exact .cons _<|.refl _)⟩)) ?_;rintro _ _ _ ⟨bv,rfl,rfl,rfl⟩) | (refine SB.o (i:=5) rfl (aL zl3) dC (.inr (by rintro _ _ _ ⟨bv,rfl,rfl,rfl⟩;exact⟨by exact zb9 _,(by exact .cons _<|.refl _)⟩)) ?_;rintro _ _ _ ⟨bv,rfl,rfl,rfl⟩))
   | ((with_reducible refine SB.k 4 ?_);first | (refine SB.o (i:=4) rfl (SO.call call19 rfl<|dN E g18 _ _ _ zB9 [e5,eT] (hB.mono d) ex hq (mM dC) dC) dC (.inr (by rintro _ g19 _ ⟨rfl,f,L,rfl,t⟩;exact⟨by exact Le.trans io io,(by exact .refl _)⟩)) ?_;rintro _ g19 _ ⟨rfl,f,L,rfl,t⟩;rw[FM] at t;obtain ⟨pu,M,rfl⟩:=dn (n:=5) t rfl;have w:=d.trans f) | (refine SB.o (i:=4) rfl (SO.call call19 rfl<|dN E g18 _ _ _ zB9 [e5,eT] (hB.mono d) ex hq (mM dC) dC) dC (.inr (by rintro _ g19 _ ⟨rfl,f,L,rfl,t⟩;exact⟨by exact Le.trans io io,(by exact .cons _<|.refl _)⟩)) ?_;rintro _ g19 _ ⟨rfl,f,L,rfl,t⟩;rw[FM] at t;obtain ⟨pu,M,rfl⟩:=dn (n:=5) t rfl;have w:=d.trans f))
   | ((with_reducible refine SB.k 3 ?_);first | (refine SB.o (i:=3) rfl (bS sty42 rfl rfl rfl (ab sB) dC) dC (.inr (by rintro _ _ _ ⟨G,rfl,rfl,rfl⟩;exact⟨by assumption,(by exact .cons _<|.refl _)⟩)) ?_;rintro _ _ _ ⟨G,rfl,rfl,rfl⟩;refine SX.freeze fun g18 j y=>?_;have hq:Eds g18 (.slice (some ⟨G,0,none⟩) 2 2) [e5,eT]:=⟨[⟨2,5,0,0,0,⟨none,0,0⟩,⟨none,0,0⟩⟩,⟨k1,k2,k3,k4,k5,⟨k6,k7,k8⟩,⟨k9,k10,k11⟩⟩],SlA.lit y rfl rfl,⟨⟨_,_,rfl,zc1 _ _,zc1 _ _⟩,EdK.mono j m,trivial⟩⟩;have d:=l.trans j) | (refine SB.o (i:=3) rfl (bS sty42 rfl rfl rfl (ab sB) dC) dC (.inr (by rintro _ _ _ ⟨G,rfl,rfl,rfl⟩;exact⟨by assumption,(by exact .cons _<|.cons _<|.refl _)⟩)) ?_;rintro _ _ _ ⟨G,rfl,rfl,rfl⟩;refine SX.freeze fun g18 j y=>?_;have hq:Eds g18 (.slice (some ⟨G,0,none⟩) 2 2) [e5,eT]:=⟨[⟨2,5,0,0,0,⟨none,0,0⟩,⟨none,0,0⟩⟩,⟨k1,k2,k3,k4,k5,⟨k6,k7,k8⟩,⟨k9,k10,k11⟩⟩],SlA.lit y rfl rfl,⟨⟨_,_,rfl,zc1 _ _,zc1 _ _⟩,EdK.mono j m,trivial⟩⟩;have d:=l.trans j))
   | ((with_reducible refine SB.k 2 ?_);first | (refine SB.o (i:=2) rfl (SO.call call20 rfl<|fH E g16 _ 5 3 2) dC (.inr (by rintro _ g17 _ ⟨rfl,l,m⟩;exact⟨by assumption,(by exact .refl _)⟩)) ?_;rintro _ g17 _ ⟨rfl,l,m⟩;obtain ⟨⟨k1,k2,k3,k4,k5,⟨k6,k7,k8⟩,⟨k9,k10,k11⟩⟩,rfl,m⟩:=EdR.rc m) | (refine SB.o (i:=2) rfl (SO.call call20 rfl<|fH E g16 _ 5 3 2) dC (.inr (by rintro _ g17 _ ⟨rfl,l,m⟩;exact⟨by assumption,(by exact .cons _<|.refl _)⟩)) ?_;rintro _ g17 _ ⟨rfl,l,m⟩;obtain ⟨⟨k1,k2,k3,k4,k5,⟨k6,k7,k8⟩,⟨k9,k10,k11⟩⟩,rfl,m⟩:=EdR.rc m))
   | ((with_reducible refine SX.k 4 ?_);first | refine zd7 2 kD ?_ | refine zd8 3 5 kD ?_ ?_)
   | ((with_reducible refine SX.k 3 ?_);first | refine zd7 3 kD ?_ | refine zd8 4 5 kD ?_ ?_)
   | ((with_reducible refine SX.k 2 ?_);first | refine zd7 5 kD ?_ | refine zd7 4 kD ?_)
   | ((with_reducible refine SX.k 1 ?_);refine zd7 6 kD ?_)
   | ((with_reducible refine SX.k 0 ?_);refine SX.nil kD ?_;exact za9 (bv,g19,pu,M) sB I I ⟨w,t⟩)
   | (refine SX.k 5 ?_;refine zd8 2 5 kD ?_ ?_))
 rintro ⟨b6,g20,pT,cT⟩ ⟨b,H⟩;dsimp only at b H ⊢;have hB:=hB.mono b;have hA:=hA.mono b;have x:=x.mono b;have A:=A.mono b;have C:=C.mono b;have c:=c.trans b;clear b;refine rZ<|lK (qV 5 an ae I I I)<|lK (qV 4 an ae I I I)<|lK (qV 3 an ae I I I)<|lW (SO.call call8 I<|jk E N g20 _ _ _ _ zB9 sA sC hB hA x ex vU E7 ln.1 ln.2.1 ln.2.2.1 (vT dC) dC) ?_;rintro _ g21 _ ⟨rfl,b,h9,i0,rfl,a2,a3⟩;rw[Db] at a2 a3;obtain ⟨d3,d4,rfl⟩:=dn (n:=7) a2 rfl;obtain ⟨i1,i2,rfl⟩:=oE (n:=0) a3 rfl;have hB:=hB.mono b;have hA:=hA.mono b;have x:=x.mono b;have A:=A.mono b;have C:=C.mono b;have H:=H.mono b;have c:=c.trans b;clear b;refine lM I (yX I<|yX I<|bW (aL zl3) fun b7=>?_);refine oZ (sK 0 ae I I I I I sB)<|aT I<|rZ<|lK (qV 6 an ae I I I)<|lK (qV 5 an ae I I I)<|lK (qV 3 an ae I I I)<|lW (SO.call call8 I<|jk E N g21 _ _ _ _ zB9 sA sD hB hA A ex vU E6 ln.1 ln.2.1 ln.2.2.2.1 (vT dC) dC) ?_;rintro _ g22 _ ⟨rfl,b,i3,j0,rfl,a4,p⟩;rw[Da] at a4 p;obtain ⟨j1,j2,rfl⟩:=dn (n:=0) a4 rfl;obtain ⟨l0,l1,rfl⟩:=oE (n:=1) p rfl;have hB:=hB.mono b;have hA:=hA.mono b;have x:=x.mono b;have A:=A.mono b;have C:=C.mono b;have H:=H.mono b;have c:=c.trans b;clear b;refine lM I (yX I<|yX I<|bW (aL zl3) fun b9=>?_);refine oZ (sK 0 ae I I I I I sB)<|aT I<|rZ<|lK (qV 7 an ae I I I)<|lK (qV 6 an ae I I I)<|lK (qV 3 an ae I I I)<|lW (SO.call call8 I<|jk E N g22 _ _ _ _ zB9 sA sE hB hA C ex vU A6 ln.1 ln.2.1 ln.2.2.2.2.1 (vT dC) dC) ?_;rintro _ g23 _ ⟨rfl,b,l2,l3,rfl,a5,z⟩;rw[C9] at a5 z;obtain ⟨l4,m1,rfl⟩:=dn (n:=0) a5 rfl;obtain ⟨m2,m3,rfl⟩:=oE (n:=1) z rfl;have hB:=hB.mono b;have hA:=hA.mono b;have x:=x.mono b;have A:=A.mono b;have C:=C.mono b;have H:=H.mono b;have p:=za5 p b;have c:=c.trans b;clear b;refine lM I (yX I<|yX I<|bW (aL zl3) fun m4=>?_);refine oZ (sK 0 ae I I I I I sB)<|aT I<|rZ<|lK (qV 8 an ae I I I)<|lK (qV 4 an ae I I I)<|lW (SO.call call11 I<|pI E g23 _ _ _ zB9 sE hB C ex A6 ln.1 ln.2.2.2.2.1) ?_;rintro _ g24 _ ⟨rfl,b,O⟩;rw[ed_E] at O;obtain ⟨d5,d6,d7,d8,d9,e0,e1,e2,e4,e9,B⟩:=AS O;clear O;obtain ⟨f7,f8,rfl⟩:=za4 B;have J:based (.slice f7 2 f8)=true:=za6 B<|Nat.zero_lt_succ _;have hB:=hB.mono b;have hA:=hA.mono b;have x:=x.mono b;have A:=A.mono b;have C:=C.mono b;have H:=H.mono b;have p:=za5 p b;have z:=za5 z b;have c:=c.trans b;clear b;refine aT I<|rZ<|lK (qV 8 an ae I I I)<|lK (qV 3 an ae I I I)<|lW (SO.call call11 I<|pI E g24 _ _ _ zB9 sT hB H ex E5 ln.1 ln.2.2.2.2.2) ?_;rintro _ g25 _ ⟨rfl,b,P⟩;rw[ed_T] at P;obtain ⟨h0,h1,h2,h3,h4,a9,b0,b8,c0,c1,F⟩:=AS P;clear P;obtain ⟨h5,h6,rfl⟩:=za4 F;have D:based (.slice h5 2 h6)=true:=za6 F<|Nat.zero_lt_succ _;have hB:=hB.mono b;have hA:=hA.mono b;have x:=x.mono b;have A:=A.mono b;have C:=C.mono b;have H:=H.mono b;have p:=za5 p b;have z:=za5 z b;have B:=za5 B b;have c:=c.trans b;clear b;refine aT I<|sQ<|sW I<|lU (eN tW I)<|lU (SU.eq (v':=vb false) (nQ I I) I)<|lM I<|yC I<|lY I I I (eN tW I)<|lY I I I (SU.eq (v':=vb false) (nQ I I) I)<|yF I<|tZ<|za1 I<|kP<|tN<|rZ<|lU (fA dA I cq I)<|lK (qL (v:=.slice d3 7 d4) eG I<|cO 2 I I)<|lU (eN aF I)<|lU (SU.eq (v':=vb true) (eQ I I)<|ze4 vb<|zg1 I)<|lM I<|yC I<|lY I I I (eN az I)<|lY I I I (SU.eq (v':=vb true) (eQ I I)<|ze4 vb<|zg1 I)<|yP I<|lM I<|yC I<|ze3 (gT I I I dC) (bS sty32 I I I (ab ⟨I,trivial⟩) dC) dC ?_;rintro _ _ _ ⟨h7,rfl,rfl,rfl⟩;refine zb5 fun c2 b c3=>?_;have c5:SlA encInt c2 (.slice (some ⟨h7,0,none⟩) 1 1) [6]:=SlA.lit c3 rfl rfl;have hB:=hB.mono b;have hA:=hA.mono b;have x:=x.mono b;have A:=A.mono b;have C:=C.mono b;have H:=H.mono b;have p:=za5 p b;have z:=za5 z b;have B:=za5 B b;have F:=za5 F b;have c:=c.trans b;clear b;refine ze3 (gT I I I dC) (SO.call call21 I<|ur E c2 _ _ _ [6] [6] p c5 dC) dC ?_;rintro _ _ _ ⟨rfl,rfl,rfl⟩;rw[show decide (([6]:List Int)=[6])=true from rfl];refine yP I<|lM I<|yC I<|ze3 (gT I I I dC) (bS sty32 I I I (ab ⟨I,trivial⟩) dC) dC ?_;rintro _ _ _ ⟨h8,rfl,rfl,rfl⟩;refine zb5 fun c6 b c7=>?_;have c9:SlA encInt c6 (.slice (some ⟨h8,0,none⟩) 1 1) [6]:=SlA.lit c7 rfl rfl;have hB:=hB.mono b;have hA:=hA.mono b;have x:=x.mono b;have A:=A.mono b;have C:=C.mono b;have H:=H.mono b;have p:=za5 p b;have z:=za5 z b;have B:=za5 B b;have F:=za5 F b;have c:=c.trans b;clear b;refine ze3 (gT I I I dC) (SO.call call21 I<|ur E c6 _ _ _ [6] [6] z c9 dC) dC ?_;rintro _ _ _ ⟨rfl,rfl,rfl⟩;rw[show decide (([6]:List Int)=[6])=true from rfl];refine yP I<|lM I<|yC I<|lY I I I (iA tW eE I I J dC (by show (0:Int)<2;decide)) ?_;refine lY I I I (fC a6 I zT3 I J)<|SL.gq (gT I I I dC) (aZ (e:=ie) (o:=1) (u:=vi 5) (a:=(⟨e5.kind,e5.cell,d5,d6,d7,d8,d9⟩:Er)) iT3 I (za7 B) I I) dC<|lY I I I (SU.eq (v':=vb true) (eQ I I)<|ze4 vb<|zg1 I)<|yP I<|lM I<|yC I<|lY I I I (iA tW eE I I J dC (by show (1:Int)<2;decide)) ?_;refine lY I I I (fC a6 I zT3 I J)<|SL.gq (gT I I I dC) (aZ (e:=ie) (o:=1) (u:=vi 3) (a:=(⟨e3.kind,e3.cell,e0,e1,e2,e4,e9⟩:Er)) iT3 I (za7 B) I I) dC<|lY I I I (SU.eq (v':=vb true) (eQ I I)<|ze4 vb<|zg1 I)<|yP I<|lM I<|yC I<|lY I I I (iA tW eE I I D dC (by show (0:Int)<2;decide)) ?_;refine lY I I I (fC a6 I zT3 I D)<|SL.gq (gT I I I dC) (aZ (e:=ie) (o:=0) (u:=vi 2) (a:=(⟨e5.kind,e5.cell,h0,h1,h2,h3,h4⟩:Er)) iT3 I (za7 F) I I) dC<|lY I I I (SU.eq (v':=vb true) (eQ I I)<|ze4 vb<|zg1 I)<|yP I<|lM I<|yC I<|lY I I I (iA tW eE I I D dC (by show (1:Int)<2;decide)) ?_;refine lY I I I (fC a6 I zT3 I D)<|SL.gq (gT I I I dC) (aZ (e:=ie) (o:=0) (u:=vi 1) (a:=(⟨(⟨1,5,1,0,0,[⟨2,1⟩,⟨3,-1⟩],[]⟩:Ed).kind,(⟨1,5,1,0,0,[⟨2,1⟩,⟨3,-1⟩],[]⟩:Ed).cell,a9,b0,b8,c0,c1⟩:Er)) iT3 I (za7 F) I I) dC<|lY I I I (SU.eq (v':=vb true) (eQ I I)<|ze4 vb<|zg1 I)<|yP I<|lM I<|yC I<|lY I I I (iA tW eE I I D dC (by show (1:Int)<2;decide)) ?_;refine lY I I I (fC a6 I zT3 I D)<|SL.gq (gT I I I dC) (aZ (e:=ie) (o:=1) (u:=vi 5) (a:=(⟨(⟨1,5,1,0,0,[⟨2,1⟩,⟨3,-1⟩],[]⟩:Ed).kind,(⟨1,5,1,0,0,[⟨2,1⟩,⟨3,-1⟩],[]⟩:Ed).cell,a9,b0,b8,c0,c1⟩:Er)) iT3 I (za7 F) I I) dC<|lY I I I (SU.eq (v':=vb true) (eQ I I)<|ze4 vb<|zg1 I)<|yP I<|aT I<|rE<|dR (s':=s) uR ?_;exact za8 (.inl I) results6 I ⟨I,I,c⟩
theorem EdS.pr {e:Ed}(h:EdS e):e.sides.length<1099511627776∧e.pairs.length<100000000000:=⟨h.1,by have:=h.2;omega⟩
end Go.Proofs.YtdepcjnaieflmaaGreatDoor
namespace Go.Sy
open Go
section
variable {P:Program}{N:Nat}{E:World}{f:Fr}{g:PH}{s:Own}{fn:Func}{R:Value→PH→Own→Prop}{e:Exit}
theorem ST.retCCC {T T' T'' U U' U'':TypeId}{t z j b M l k O m:Nat}{cs cs' c:Array Value}{W A n:Nat×Nat}(i X B:Nat)(s':Own)(Y:e = .ret∨e = .normal)(hr:fn.results = #[.cell t T,.cell z T',.cell j T''])(Z:aN f t=some (pp b 0))(C:aN f z=some (pp M 0))(o:aN f j=some (pp l 0))
  (hT:∀ w,(isAgg T).run P w = .ok true w) (hk:∀ w,(sizeOf T).run P w = .ok k w) (D:∀ w,(isAgg T').run P w = .ok true w) (F:∀ w,(sizeOf T').run P w = .ok O w) (p:∀ w,(isAgg T'').run P w = .ok true w) (q:∀ w,(sizeOf T'').run P w = .ok m w)
  (hs:s[i]?=some (pt b<|.cells cs U W)) (hc:cs.size=k) (G:s[X]?=some (pt M<|.cells cs' U' A)) (H:cs'.size=O) (J:s[B]?=some (pt l<|.cells c U'' n)) (r:c.size=m) (K:s'.Sublist s) (hR:R (.tuple #[.agg cs,.agg cs',.agg c]) g s'):ST N E (bodyPost P fn<|ne E R) e f g s :=
 fun a w u y=>by
  have h1:=cg (P:=P) y hT (by rw[hc];exact hk) hs;have L:=cg (P:=P) y D (by rw[H];exact F) G;have v:=cg (P:=P) y p (by rw[r];exact q) J;have Q:=u.at_ t _ Z;have x:=u.at_ z _ C;have d:=u.at_ j _ o;simp only[Array.getD_eq_getD_getElem?] at Q x d;have S:(results fn a.tmps).run P w = .ok (.tuple #[.agg cs,.agg cs',.agg c]) w:=by simp[results,hr,asAddr,pp,Q,x,d,h1,L,v]
  have V:ne E R (.returned<|.tuple #[.agg cs,.agg cs',.agg c]) w:=⟨_,g,s',rfl,y.sublist K,hR⟩
  rcases Y with rfl | rfl
  ·exact⟨u.defers,_,S,V⟩
  ·exact⟨u.defers,_,S,V⟩
end
end Go.Sy
namespace Go.Proofs.YtdepcjnaieflmaaGreatDoor
open _root_.Go.Proofs.Tryz _root_.Go.Proofs.YtdepcjnaieflmaaGreatDoor.Tryz
open Go Go.Sy Go.Pl Go.Proofs
set_option maxRecDepth 100000
set_option maxHeartbeats 8000000
def EdT (e:Ed):Prop:=EdS e∧((e.kind=1→a8 e.cell)∧(e.kind=3→a8 e.new∧a8 e.other))
def GX (l:List Cl):Prop:=aM l∧∀ c∈l,a8 c.id
theorem uP {l:List Cl}(h:∀ c∈l,a8 c.id):∀ c∈aa l,a8 c.id:=fun c hc=>by
 obtain ⟨d,hd,e⟩:=s6 hc;rw[← e];exact h d hd
theorem D8 {es:List Ed}:∀ {A:List Cl} {ss:List Stp} {i:Nat},(∀ c∈A,a8 c.id)→(∀ e∈es,EdT e)→∀ c∈(nY A ss i es).2.1,a8 c.id:=by
 induction es with
 | nil=>intro A ss i hA _;exact hA
 | cons e es ih =>
  intro A ss i hA a;unfold nY;split
  ·rename_i hz;exact ih (yS hz hA (a e<|by simp).2.1 (a e<|by simp).2.2) fun x b=>a x (by simp[b])
  ·intro c hc;cases hc
theorem D9 {l:List Cl}{es:List Ed}(hl:∀ c∈l,a8 c.id)(a:∀ e∈es,EdT e):∀ c∈(ik l es).2.1,a8 c.id:=by
 unfold ik;split
 ·intro c hc;cases hc
 ·split
  ·intro c hc;cases hc
  ·exact D8 (uP hl) a
theorem fp (E:World)(g:PH)(s:Own)(v av:Value)(l:List Cl)(d:List Ac)(b:Bool)(hv:ai g v l)(hf:aM l)(ha:SlA lj g av d)(hi:∀ c∈l,a8 c.id)(hw:∀ a∈d,A64 a) :
  Ctr Tryz.prog E 24 #[.agg #[v],av,vb b] g s (fun r g' s'=>s=s'∧Le g g'∧∃ es,Eds g' r es∧(∀ e∈es,EdT e)∧es.length≤12):=by
 obtain ⟨p,c,rfl⟩:=hv.form;obtain ⟨pa,ca,rfl⟩:=za4 ha;refine zb2 (args:=[.agg #[.slice p l.length c],.slice pa d.length ca,vb b]) func24 I ntmps24 (bE I)<|rZ (bW (bO I) fun b3=>?_);refine aT I<|rZ<|aT I<|rZ<|lK (qV 0 an ae I I I)<|lW (SO.call call77 I<|cd E g _ _ l hv hf) ?_;rintro _ g1 _ ⟨rfl,L,u1,rfl,hA⟩;obtain ⟨p1,c1,rfl⟩:=hA.form;have a9:=aB hf;have b0:∀ c∈aa l,a8 c.id:=uP hi;have b1:=za5 ha L;refine bW (aL zl3) fun W=>oZ (sK 0 ae I I I I I sB)<|tZ<|sQ<|rZ<|aT I<|bK<|zb6 58 7<|oP (ι:=Nat×PH×List Cl×Option Addr×Nat×Value×List Er×List Ed) (fun i=>[(1,.slice pa d.length ca),(2,vb b),(7,i.2.2.2.2.2.1),(8,pp W 0),(9,vi i.1)]) (fun i=>i.2.1) (fun i=>rowA ie 58 i.2.2.2.2.2.1 i.2.2.2.2.2.2.1::pt W (bY #[.slice i.2.2.2.1 i.2.2.1.length i.2.2.2.2.1] 29)::pt b3 (bY #[.slice p l.length c] 29)::s)
  (fun i=>i.1≤d.length∧i.1≤12∧Le g1 i.2.1∧ai i.2.1 (.slice i.2.2.2.1 i.2.2.1.length i.2.2.2.2.1) i.2.2.1∧GX i.2.2.1∧ax (EdK i.2.1) i.2.2.2.2.2.2.2 i.2.2.2.2.2.2.1∧(∀ e∈i.2.2.2.2.2.2.2,EdT e)∧i.2.2.2.2.2.2.1.length≤i.1) (fun i=>d.length - i.1)
  (0,g1,aa l,p1,c1,.slice none 0 0,[],[]) sB rfl rfl ⟨zf8 _,zf8 _,zb9 _,hA,⟨a9,b0⟩,trivial,by simp,Nat.le_refl _⟩ ?_
 rintro ⟨k,gk,B,pk,ck,ov,acc,es⟩ ⟨hk,a0,n,hB,t,y,K,b2⟩;dsimp only at hk a0 n hB t y K b2 ⊢;refine sQ<|SC.cutB 23 (decide (k<d.length)&&decide (k<12)) ?_ ?_
 ·refine rG<|lM I<|lM I<|lU (eN underlying25 I)<|yL I<|lM I<|sP ?_ ?_
  ·intro b4;exact yC I<|lY I I I (lS I I)<|yP I<|SL.nil<|zb1 (by (simp_all[aN];omega)) mI
  ·intro b4;exact yA I<|yA I<|yF I<|SL.nil<|zb1 (by (simp_all[aN];omega)) mI
 refine iQ I (fun X=>?_) (fun X=>?_)
 ·simp only[zj5,zj8] at X;obtain ⟨a1,c3⟩:=X;have a2:=za5 b1 n;have b5:=za6 a2 oM;have b6:d[((k:Nat):Int).toNat]?=some d[k]:=List.getElem?_eq_getElem a1;have D:=hw _<|gM a1;generalize d[k]=x at *;obtain ⟨k0,k1,k2,k3⟩:=x;refine kP<|tN<|sQ<|bK<|SC.cut (ι:=Nat×PH×Ed×Er) (fun i=>[(1,.slice pa d.length ca),(2,vb b),(7,ov),(8,pp W 0),(9,vi k),(10,pp i.1 0)]) (fun i=>i.2.1) (fun i=>pt i.1 (.cells (ie.enc i.2.2.2).toArray 58 (0,0))::rowA ie 58 ov acc::pt W (bY #[.slice pk B.length ck] 29)::pt b3 (bY #[.slice p l.length c] 29)::s)
   (fun i=>Le gk i.2.1∧EdK i.2.1 i.2.2.1 i.2.2.2∧EdT i.2.2.1) ?_ ?_
  ·refine SC.drawX [7] ze5 kR ?_;refine SX.u (i:=0) I kR (mV I) dC<|SX.u (i:=1) I kR (mV I) dC<|SX.u (i:=2) I kR (iA underlying25 sizeOf117 I I b5 oM sL) dC<|SX.q (i:=3) I kR (SQ.elemA isAgg117 sizeOf117 I (za7 a2) b6) dC<|SX.q (i:=4) I kR (qV (by exact 1) an ae I I I) dC ?_;refine zd8 5 6 kR ?_ ?_
   ·refine SB.o (i:=5) I (SO.call call79 I<|mw E gk _ _ B k0 k1 k2 k3 hB t.1) dC (.inr iR) ?_;rintro ev g3 _ ⟨rfl,f,e,he,F,G,-,Y⟩;have j:EdT e:=⟨⟨F,G⟩,Y t.2 D.2.1 D.2.2.1 D.2.2.2⟩;obtain ⟨⟨M,N,O,P,Q,⟨R,S,T⟩,⟨U,z,A⟩⟩,rfl,hr⟩:=he.rc;refine zd7 6 kR ?_
    ·refine SB.o (i:=6) I (aL zm3) dC (.inr iR) ?_;rintro _ _ _ ⟨C,rfl,rfl,rfl⟩;refine zd7 7 kR ?_
     ·refine SB.on (i:=7) rfl (sK 0 eE rfl rfl rfl rfl rfl<|by (repeat' (first | exact trivial | refine⟨by rfl,?_⟩))) (.inl dC) ?_;rintro _ _ _ ⟨rfl,rfl⟩;refine SX.nil kR ?_;exact za9 (C,g3,e,⟨M,N,O,P,Q,⟨R,S,T⟩,⟨U,z,A⟩⟩) sB I I ⟨f,hr,j⟩
   ·refine SB.o (i:=6) I (aL zm3) dC (.inr iR) ?_;rintro _ _ _ ⟨C,rfl,rfl,rfl⟩;refine zd7 5 kR ?_
    ·refine SB.o (i:=5) I (SO.call call79 I<|mw E gk _ _ B k0 k1 k2 k3 hB t.1) dC (.inr iR) ?_;rintro ev g3 _ ⟨rfl,f,e,he,F,G,-,Y⟩;have j:EdT e:=⟨⟨F,G⟩,Y t.2 D.2.1 D.2.2.1 D.2.2.2⟩;obtain ⟨⟨M,N,O,P,Q,⟨R,S,T⟩,⟨U,z,A⟩⟩,rfl,hr⟩:=he.rc;refine zd7 7 kR ?_
     ·refine SB.on (i:=7) rfl (sK 0 eE rfl rfl rfl rfl rfl<|by (repeat' (first | exact trivial | refine⟨by rfl,?_⟩))) (.inl dC) ?_;rintro _ _ _ ⟨rfl,rfl⟩;refine SX.nil kR ?_;exact za9 (C,g3,e,⟨M,N,O,P,Q,⟨R,S,T⟩,⟨U,z,A⟩⟩) sB I I ⟨f,hr,j⟩
  rintro ⟨C,g3,e,⟨M,N,O,P,Q,⟨R,S,T⟩,⟨U,z,A⟩⟩⟩ ⟨f,hr,j⟩;dsimp only at f hr j ⊢;refine SC.to (g':=g3) (s':=pt C (bY #[vi M,vi N,vi O,vi P,vi Q,.slice R S T,.slice U z A] 58)::rowA ie 58 ov acc::pt W (bY #[.slice pk B.length ck] 29)::pt b3 (bY #[.slice p l.length c] 29)::s) (fun w hw=>hw) ?_;have a3:=hB.mono f;have a4:=oV B e;refine rZ<|lK (qV 2 an ae I I I)<|lK (qV 0 jX eE I I I)<|lW (SO.call call78 I<|l7 E g3 _ _ _ B e a3 t.1 hr j.1.pr.1 j.1.pr.2) ?_;rintro _ g4 _ ⟨rfl,H,hR⟩;obtain ⟨⟨d1,d2,d3⟩,⟨⟨y1,y2,y3⟩,y4⟩,rfl,hD,hS⟩:=hR.one;have b7:=jK hD;subst b7;have b9:=a3.mono H;have c0:=hr.mono H;have m:=f.trans H;clear hS hR;refine lM I (yX I<|yX I<|yX I<|bW (aL zl3) fun c6=>?_);refine bW (aL zl5) fun c7=>oZ (sK 1 ae I I I I I sB)<|oZ (sK 0 bT I I I I I sB)<|aT I<|SC.cut (ι:=List Cl×Option Addr×Nat) (fun _=>[(1,.slice pa d.length ca),(2,vb b),(7,ov),(8,pp W 0),(9,vi k),(10,pp C 0),(13,vi (dS B e).1)]) (fun _=>g4) (fun i=>pt C (bY #[vi M,vi N,vi O,vi P,vi Q,.slice R S T,.slice U z A] 58)::rowA ie 58 ov acc::pt W (bY #[.slice i.2.1 i.1.length i.2.2] 29)::pt b3 (bY #[.slice p l.length c] 29)::s)
   (fun i=>ai g4 (.slice i.2.1 i.1.length i.2.2) i.1∧GX i.1) ?_ ?_
  ·refine sW I<|yE I<|tZ<|iP I (fun hz=>?_) (fun hz=>?_)
   ·exact rG<|lK (qV 1 an ae I I I)<|oZ (sK 4 ae I I I I I sB)<|SL.nil<|dR (.cons _<|.cons _<|.refl _)<|za9 ((dS B e).2,d1,d3) sB I I ⟨hD,a4,yS hz t.2 j.2.1 j.2.2⟩
   ·exact kP<|dR (.cons _<|.cons _<|.refl _)<|za9 (B,pk,ck) sB I I ⟨b9,t⟩
  rintro ⟨B5,p5,c5⟩ ⟨Z,J⟩;dsimp only at Z J ⊢;generalize (dS B e).1=code at *;clear a4;refine SC.cutB 47 (decide (code=0) || !b) ?_ ?_
  ·refine rG<|lM I<|yE I<|lM I<|sP ?_ ?_
   ·intro c2;exact yA I<|yA I<|yP I<|SL.nil<|zb1 (by (simp_all[aN];done)) mI
   ·intro c2;exact yC I<|lY I I I (SU.not I)<|yF I<|SL.nil<|zb1 (by (simp_all[aN];done)) mI
  refine iQ I (fun hq=>?_) (fun hq=>?_)
  ·refine rG (lM I (lK (qV 0 jX eE I I I) (lW (bS sty42 I I I (ab ⟨I,trivial⟩) dC) ?_)));rintro _ _ _ ⟨c9,rfl,rfl,rfl⟩;refine lW (aP (e:=ie) (l:=acc) 1 ⟨M,N,O,P,Q,⟨R,S,T⟩,⟨U,z,A⟩⟩ sty42 I I I I I oM oM) ?_;rintro ov' _ _ ⟨rfl,rfl⟩;refine lA I (SL.nil (bN (tN (rG (lM I (yD I (lA I (SL.nil (dR (.cons _ (.refl _)) ?_)))))))));exact ST.again (k+1,g4,B5,p5,c5,ov',acc++[⟨M,N,O,P,Q,⟨R,S,T⟩,⟨U,z,A⟩⟩],es++[e]) sB I I ⟨by dsimp only;omega,by dsimp only;omega,n.trans m,Z,J,(y.mono fun _ _=>EdK.mono m).append ⟨c0,trivial⟩,fun q hq=>by
    rcases zf5.1 hq with h | h
    ·exact K q h
    ·simp at h;subst h;exact j,by dsimp only;rw[ze7,ze9];omega⟩ (by dsimp only;omega)
  ·exact kP<|bN<|tN<|rG<|lM I<|yD I<|lA I<|SL.nil<|dR (.cons _<|.refl _)<|ST.again (k+1,g4,B5,p5,c5,ov,acc,es) sB I I ⟨by dsimp only;omega,by dsimp only;omega,n.trans m,Z,J,y.mono fun _ _=>EdK.mono m,K,by dsimp only;omega⟩ (by dsimp only;omega)
 ·refine xI (tX<|tX<|bX<|tN<|sQ<|fS fun g5 V a5=>?_);obtain ⟨q5,d5,rfl⟩:=zc3 a5;exact rG<|lM I<|aT I<|rE<|dR (s':=s) uR<|za8 (.inl I) results24 I ⟨I,L.trans<|n.trans V,es,⟨acc,a5,y.mono fun _ _=>EdK.mono V⟩,K,by have:=y.length;omega⟩
end Go.Proofs.YtdepcjnaieflmaaGreatDoor
