/- 14 -/
import Derived.Test.YtbbppeihhkhkcaaGreatDoorMt13
import Derived.Test.YtbbppeihhkhkcaaGreatDoorMt11
import Derived.Test.YtbbppeihhkhkcaaGreatDoorMt02
import Derived.Test.YtbbppeihhkhkcaaGreatDoorMt05
import Derived.Test.YtbbppeihhkhkcaaGreatDoorMt12
import Derived.Test.YtbbppeihhkhkcaaGreatDoorMt09
import Derived.Test.YtbbppeihhkhkcaaGreatDoorMt04
import Derived.Test.YtbbppeihhkhkcaaGreatDoorMt06
import Derived.Test.YtbbppeihhkhkcaaGreatDoorMt10
import Derived.Test.YtbbppeihhkhkcaaGreatDoorMt08
set_option linter.unusedSimpArgs false
set_option linter.unusedVariables false
namespace Go.Proofs.YtbbppeihhkhkcaaGreatDoor
open _root_.Go.Proofs.Tryz _root_.Go.Proofs.YtbbppeihhkhkcaaGreatDoor.Tryz
open Go Go.Sy Go.Pl Go.Proofs Go.Shelf Go.Sort
set_option maxRecDepth 100000
set_option maxHeartbeats 4000000
theorem AE (E:World)(g:PH)(s:Own)(v:Value)(l:List Cl)(hv:aj g v l)(hf:bd l) :
  Ctr Tryz.prog E 53 #[.agg #[v]] g s (fun r g' s'=>Le g g'∧∃ v ds,r = .agg #[v]∧s'=rowA encCell 56 v ds::s∧az (am g') (aa l) ds):=by
 obtain ⟨rs,hrs,hall⟩:=hv;have hlen:=hall.length;have hfl:=hf.1;have hall':=az.sortBy (f:=Cl.id) (h:=Rc.id) (fun a b h=>h.1.symm) hall;obtain ⟨p,c,rfl⟩:=za3 hrs;refine zb1 (args:=[.agg #[.slice p rs.length c]]) func53 I ntmps53 (bE I) ?_;refine rZ (bW (bO I) fun b1=>?_);refine bW (aL zk7) fun b2=>?_;refine tZ (rZ (lU (fA ec I dF I) (lK (qL fw I (cO 1 I I)) (lW (SO.call call117 I (yy E g _ _ 118 #[] Rc.id (DW E g) rs hrs oM)) ?_))));rintro r3 _ _ ⟨rfl,rfl⟩;refine zd1 fun ⟨w0,hw0⟩=>?_;obtain ⟨q,d,rfl⟩:=ah (i:=0) hw0 rfl;have hbq:0<(sortBy Rc.id rs).length→based (.slice q (sortBy Rc.id rs).length d)=true:=fun h=>(by obtain ⟨b0,c0,he⟩:=aW (i:=0) hw0 rfl h; rw[he]; rfl);clear hw0 w0;refine aT I (sQ (sW I (lU (eN aB I) (lM I (tZ (bK ?_))))));have hsl:(sortBy Rc.id rs).length=rs.length:=cq rs;refine oP (ι:=PH×List Rc×List Rc×List Cl×List Cl) (fun i=>[(2,pp b2 0),(3,.slice q (sortBy Rc.id rs).length d),(9,vi (sortBy Rc.id rs).length),(10,vi i.2.1.length)]) (fun i=>i.1)
  (fun i=>rowA encCell 56 (.slice q (sortBy Rc.id rs).length d) (i.2.1++i.2.2.1)::pt b2 (.cells #[.slice none 0 0] 29 (0,0))::pt b1 (.cells #[.slice p rs.length c] 29 (0,0))::s)
  (fun i=>Le g i.1∧az (dx (mns i.1 g)) i.2.2.2.1 i.2.1∧az (am g) i.2.2.2.2 i.2.2.1∧aa l=i.2.2.2.1++i.2.2.2.2.map bo∧(i.2.1.length+i.2.2.1.length=(sortBy Rc.id rs).length∧∀ x∈i.2.2.2.2,x∈l)) (fun i=>i.2.2.1.length)
  (g,[],sortBy Rc.id rs,[],sortBy Cl.id l) sB rfl rfl ⟨zb8 g,trivial,hall',by simp[aa],by simp,fun x hx=>(dD l x).1 hx⟩ ?_
 rintro ⟨g1,ds,rest,dl,rl⟩ ⟨hle,hd,hr,hcan,hlen1,hmem⟩;dsimp only at hle hd hr hcan hlen1 hmem ⊢;have hrl:=hr.length;refine rZ (yL I (tZ (sQ ?_)));refine iP I (fun hlt=>?_) (fun hlt=>?_)
 ·cases rest with
  | nil=>simp at hlen1; omega
  | cons x rest =>
  obtain ⟨cx,rl',hrle,hcx,hr'⟩:=hr.cons_right;subst hrle;have hxl:cx.sides.length<1099511627776:=hf.2 cx (hmem cx (by simp));simp only[ze5] at hlen1;have hgx:(ds++x::rest)[((ds.length:Nat):Int).toNat]?=some x:=aK oM;have hbs:based (.slice q (sortBy Rc.id rs).length d)=true:=hbq oM;refine kP (tN (sQ (bK (sW I (aT I (rG (lM I (lM I (lM I (lM I (lU (iA aB ao I I hbs oM sL) (lU (fC ay I bJ I hbs) (lK (aZ (o:=2) cI I (zb6 0 I) hgx I) (lW (SO.call call119 I (yx E g1 _ _ 120 #[] ae.cell (yY E g1) cx.sides (hcx.2.2.mono hle) hxl)) ?_))))))))))))));rintro r20 _ _ ⟨rfl,rfl⟩;refine SL.freezeRowK fun g2 hle2 hs2=>?_;obtain ⟨q2,d2,rfl⟩:=hs2.form;refine lU (iA aB ao I I hbs oM sL) (lU (fC ay I bJ I hbs) (oZ (SO.partA (o:=2) 0 ⟨x.id,x.dim,q2,_,d2⟩ bJ I I I hgx I I dC I) (nL (bN (tN (rG (yD I (lM I (nL ?_)))))))));exact ST.again (g2,ds++[⟨x.id,x.dim,q2,(sortBy ae.cell cx.sides).length,d2⟩],rest,dl++[bo cx],rl') ⟨I,I,I,aC lN,trivial⟩ I (by
    dsimp only;rw[show (ds++x::rest).set ((ds.length:Nat):Int).toNat ⟨x.id,x.dim,q2,(sortBy ae.cell cx.sides).length,d2⟩=ds++[⟨x.id,x.dim,q2,(sortBy ae.cell cx.sides).length,d2⟩]++rest by rw[bw oM]; simp];rfl) ⟨hle.trans hle2,(hd.mono fun _ _=>dx.mono (fQ hle2)).append ⟨(by exact⟨hcx.1,hcx.2.1,hs2.mono (i8 hle)⟩:dx (mns g2 g) (bo cx) ⟨x.id,x.dim,q2,(sortBy ae.cell cx.sides).length,d2⟩),trivial⟩,hr',by rw[hcan]; simp,lN,fun y hy=>hmem y (by simp[hy])⟩ lN
 ·have hr0:rest=[]:=zf1 oM;subst hr0;have hrl0:rl=[]:=hr.nil_right;subst hrl0;refine xI (tX (tX (bX (tN (sW I (lU (za2 I (build29 _ I)) (oZ (sK 1 ak I I I I I sB) ?_)))))));refine tZ (rE ?_);refine ST.retCD 1 (rowA encCell 56 (.slice q (sortBy Rc.id rs).length d) (ds++[])::s) (.inl I) results53 I aA ak I I (.cons_cons _ (.cons _ (.cons _ (.refl _)))) ⟨hle,_,_,I,I,?_⟩;rw[hcan,zc5];simpa using hd.mono fun _ _ h=>h.cr (eG _ _)
def Tryz.sortCl_ren:Ren :=
 {
  f:=fun x =>
   match x with
   | 6=>86
   | 15=>156
   | 14=>155
   | 28=>209
   | 29=>210
   | 20=>201
   | 21=>202
   | 22=>203
   | 23=>204
   | 24=>205
   | 25=>206
   | 26=>207
   | 27=>208
   | 46=>258
   | 47=>259
   | 48=>260
   | 49=>261
   | 50=>262
   | 57=>282
   | n=>n,
  t:=fun x =>
   match x with
   | 22=>27
   | 24=>56
   | 25=>140
   | 3=>3
   | 39=>203
   | 0=>0
   | 53=>239
   | 55=>145
   | 4=>4
   | 46=>233
   | 45=>232
   | 50=>149
   | 5=>5
   | 9=>9
   | 66=>270
   | 70=>274
   | 76=>292
   | 77=>293
   | n=>n,
  g:=fun x =>
   have n:=x;
   n }
theorem Tryz.sortCl:SlLaysF0.n6 Tryz.prog Tryz.sortCl_ren :=
  {
  mixed:=Eq.refl true,
  f6 :=
   Exists.intro "slices.SortFunc[[]cocycle/api.Cell,cocycle/api.Cell]"
    ⟨zf9 (id (Eq.refl true)),
     zb7 func86
      (zd8 some
       kR)⟩,
  f14 :=
   Exists.intro "slices.pdqsortCmpFunc[cocycle/api.Cell]"
    ⟨zf9 (id (Eq.refl true)),
     zb7 func155
      (zd8 some
       kR)⟩,
  f15:=zb7 func156 (zd8 some kR),
  f20 :=
   Exists.intro "slices.insertionSortCmpFunc[cocycle/api.Cell]"
    ⟨zf9 (id (Eq.refl true)),
     zb7 func201
      (zd8 some
       kR)⟩,
  f21 :=
   Exists.intro "slices.heapSortCmpFunc[cocycle/api.Cell]"
    ⟨zf9 (id (Eq.refl true)),
     zb7 func202
      (zd8 some
       kR)⟩,
  f22 :=
   Exists.intro "slices.breakPatternsCmpFunc[cocycle/api.Cell]"
    ⟨zf9 (id (Eq.refl true)),
     zb7 func203
      (zd8 some
       kR)⟩,
  f23 :=
   Exists.intro "slices.choosePivotCmpFunc[cocycle/api.Cell]"
    ⟨zf9 (id (Eq.refl true)),
     zb7 func204
      (zd8 some
       kR)⟩,
  f24 :=
   Exists.intro "slices.reverseRangeCmpFunc[cocycle/api.Cell]"
    ⟨zf9 (id (Eq.refl true)),
     zb7 func205
      (zd8 some
       kR)⟩,
  f25 :=
   Exists.intro "slices.partialInsertionSortCmpFunc[cocycle/api.Cell]"
    ⟨zf9 (id (Eq.refl true)),
     zb7 func206
      (zd8 some
       kR)⟩,
  f26 :=
   Exists.intro "slices.partitionEqualCmpFunc[cocycle/api.Cell]"
    ⟨zf9 (id (Eq.refl true)),
     zb7 func207
      (zd8 some
       kR)⟩,
  f27 :=
   Exists.intro "slices.partitionCmpFunc[cocycle/api.Cell]"
    ⟨zf9 (id (Eq.refl true)),
     zb7 func208
      (zd8 some
       kR)⟩,
  f28:=zb7 func209 (zd8 some kR),
  f29:=zb7 func210 (zd8 some kR),
  f46 :=
   Exists.intro "slices.siftDownCmpFunc[cocycle/api.Cell]"
    ⟨zf9 (id (Eq.refl true)),
     zb7 func258
      (zd8 some
       kR)⟩,
  f47:=zb7 func259 (zd8 some kR),
  f48:=zb7 func260 (zd8 some kR),
  f49 :=
   Exists.intro "slices.medianAdjacentCmpFunc[cocycle/api.Cell]"
    ⟨zf9 (id (Eq.refl true)),
     zb7 func261
      (zd8 some
       kR)⟩,
  f50 :=
   Exists.intro "slices.medianCmpFunc[cocycle/api.Cell]"
    ⟨zf9 (id (Eq.refl true)),
     zb7 func262
      (zd8 some
       kR)⟩,
  f57 :=
   Exists.intro "slices.order2CmpFunc[cocycle/api.Cell]"
    ⟨zf9 (id (Eq.refl true)),
     zb7 func282
      (zd8 some
       kR)⟩,
  t0:=uT0,a0:=isAgg0,z0:=sizeOf0,v0:=zk9,t3:=uT3,
  a3:=iT3,z3:=zT3,v3:=zl5,t4:=uT4,a4:=isAgg4,
  z4:=sizeOf4,v4:=zl3,t5:=uT5,a5:=isAgg5,z5:=sizeOf5,
  v5:=zeroValue5,t9:=underlying9,a9:=isAgg9,z9:=sizeOf9,v9:=zeroValue9,
  t22:=aB,a22:=fw,z22:=dF,v22:=zeroValue27,
  t25:=underlying140,a25:=isAgg140,z25:=sizeOf140,v25:=zeroValue140,
  t39:=eV,a39:=isAgg203,z39:=sizeOf203,v39:=zeroValue203,
  t45:=underlying232,a45:=isAgg232,z45:=sizeOf232,v45:=zeroValue232,
  t46:=underlying233,a46:=isAgg233,z46:=sizeOf233,v46:=zeroValue233,
  t50:=underlying149,a50:=isAgg149,z50:=sizeOf149,v50:=zeroValue149,
  t53:=underlying239,a53:=isAgg239,z53:=sizeOf239,v53:=zeroValue239,
  t55:=n5,a55:=isAgg145,z55:=sizeOf145,v55:=zeroValue145,
  t66:=underlying270,a66:=isAgg270,z66:=sizeOf270,v66:=zeroValue270,
  t70:=underlying274,a70:=isAgg274,z70:=sizeOf274,v70:=zeroValue274,
  t76:=underlying292,a76:=isAgg292,z76:=sizeOf292,v76:=zeroValue292,
  t77:=underlying293,a77:=isAgg293,z77:=sizeOf293,v77:=zeroValue293 }
instance inhRc:Inhabited Rc:=⟨⟨0,0,⟨none,0,0⟩⟩⟩
def CN (x y:Rc):Int:=orI [fN x.dim y.dim,fN x.id y.id]
theorem ku (x y:Rc):CN x y<0↔x.dim<y.dim∨(x.dim=y.dim∧x.id<y.id):=by
 unfold CN orI orI orI fN;split <;> split <;> (try split)<;>(try split)<;>simp_all <;> omega
theorem swoD:SWO (ltOf CN):=⟨fun x=>by simp[ltOf,ku],fun x y z h1 h2=>by simp[ltOf,ku] at *; omega,fun x y z h1 h2=>by simp[ltOf,ku] at *; omega⟩
theorem Bw {l:List Rc}(h:l.Pairwise fun a b=>a.id<b.id){x y:Rc}(hx:x∈l)(hy:y∈l)(he:x.id=y.id):x=y:=by
 induction l with
 | nil=>cases hx
 | cons a l ih =>
  rw[zj9] at h
  rcases ze7.1 hx with e1 | h1 <;> rcases ze7.1 hy with e2 | h2
  ·rw[e1,e2]
  ·have:=h.1 y h2; rw[e1] at he; omega
  ·have:=h.1 x h1; rw[e2] at he; omega
  ·exact ih h.2 h1 h2
theorem wL {l l':List Rc}(hp:l'.Perm l)(hs:l'.Pairwise fun x y=>¬ CN y x<0)(hasc:l.Pairwise fun a b=>a.id<b.id):l'=sortBy Rc.dim l:=by
 refine a6 (hs.imp fun h=>by rw[ku] at h; omega) ⟨hp.length_eq,fun c=>?_⟩;refine (hp.filter _).eq_of_pairwise (le:=fun x y=>x.dim=y.dim→¬ y.id<x.id) (fun x y hx hy h1 h2=>?_) ?_ ?_
 ·obtain ⟨hx1,hx2⟩:=zh1.1 hx;obtain ⟨hy1,hy2⟩:=zh1.1 hy;have e1:x.dim=c:=by simpa using hx2
  have e2:y.dim=c:=by simpa using hy2
  have h3:=h1 oM;have h4:=h2 oM;exact Bw hasc (hp.subset hx1) hy1 oM
 ·exact (hs.filter _).imp fun h e=>by rw[ku] at h; omega
 ·exact (hasc.filter _).imp fun h _=>by omega
theorem B9:ER Tryz.prog 87 encCell.enc CN:=by
 intro E g s x y;obtain ⟨x1,x2,⟨xp,xn,xc⟩⟩:=x;obtain ⟨y1,y2,⟨yp,yn,yc⟩⟩:=y;refine zb1 (args:=[.agg #[vi x1,vi x2,.slice xp xn xc],.agg #[vi y1,vi y2,.slice yp yn yc]]) func87 I ntmps87 (bE I) ?_;refine rZ (bW (bO I) fun b2=>?_);refine bW (bO I) fun b3=>?_;refine aT I (sQ ?_);refine dW [] [(0,2),(1,1),(2,2),(3,1),(5,2),(6,1),(7,2),(8,1),(4,0),(9,0),(10,0),(11,0),(12,2)] zd9 kR ?_;refine pU I (fA ay I zT3 I) (pK I (qL (v:=vi x2) iT3 I (cO 1 I I)) (pU I (fA ay I zT3 I) (pK I (qL (v:=vi y2) iT3 I (cO 0 I I)) (pU I (fA ay I zT3 I) (pK I (qL (v:=vi x1) iT3 I (cO 1 I I)) (pU I (fA ay I zT3 I) (pK I (qL (v:=vi y1) iT3 I (cO 0 I I)) (SP.o I (SO.call call90 I (cU E g _ x2 y2)) dC (.inr iR) ?_))))))));rintro _ _ _ ⟨rfl,rfl,rfl⟩;refine SP.o I (SO.call call90 I (cU E g _ x1 y1)) dC (.inr iR) ?_;rintro _ _ _ ⟨rfl,rfl,rfl⟩;refine SP.o I (bS sty52 I I I (ag sB) dC) dC (.inr iR) ?_;rintro _ _ _ ⟨b15,rfl,rfl,rfl⟩;refine SP.o I (SO.call call157 I (yR E g _ _ [fN x2 y2,fN x1 y1] (Rd.pt 0 I) ⟨_,_,I⟩ (fun _=>I) (by simp))) dC (.inr iR) ?_;rintro _ _ _ ⟨rfl,rfl,rfl⟩;refine pU I (aS I) (pN (tN (rE (dR (s':=s) uR ?_))));exact za7 (.inl I) results87 I ⟨I,I,I⟩
theorem wO (E:World)(g:PH)(s:Own)(v:Value)(l:List Rc)(i:Nat)(hi:s[i]?=some (rowA encCell 56 v l))(hl:l.length<1099511627776)(hasc:l.Pairwise fun a b=>a.id<b.id) :
  Ctr Tryz.prog E 86 #[v,.func (.func 87) #[] #[]] g s (fun _ g' s'=>g=g'∧s'=s.set i (rowA encCell 56 v (sortBy Rc.dim l))) :=
 (vy Tryz.sortCl encCell cz ao CN swoD 87 call87 B9 56 E g s v l i hi hl).mono fun _ _ _ ⟨h1,l',h2,h3,h4⟩=>⟨h1,by rw[h4,wL h2 h3 hasc]⟩
def CW (E:World)(cv:Value)(pr:Rc→Bool)(g:PH):Prop:=∀ s x,bM Tryz.prog E cv [.agg (encCell.enc x).toArray] g s (fun r g' s'=>r=vb (pr x)∧g=g'∧s=s')
theorem DC {r:Value}{l:List Rc}{pr:Rc→Bool}(h:(r=vi (-1)∧∀ x∈l,pr x=false)∨∃ (A:List Rc) (x:Rc) (R:List Rc),l=A++x::R∧r=vi A.length∧(∀ y∈A,pr y=false)∧pr x=true):∃ n:Int,r=vi n:=by
 rcases h with ⟨h,_⟩ | ⟨_,_,_,_,h,_⟩
 ·exact⟨_,h⟩
 ·exact⟨_,h⟩
theorem xu (E:World)(g:PH)(s:Own)(v cv:Value)(l:List Rc)(pr:Rc→Bool)(hcall:CW E cv pr g)(hl:l.length<1099511627776) :
  Ctr Tryz.prog E 154 #[v,cv] g (rowA encCell 56 v l::s) (fun r g' s'=>g=g'∧s'=rowA encCell 56 v l::s∧((r=vi (-1)∧∀ x∈l,pr x=false)∨∃ A x R,l=A++x::R∧r=vi A.length∧(∀ y∈A,pr y=false)∧pr x=true)):=by
 refine Ctr.facts fun ⟨w0,hw0⟩=>?_;obtain ⟨p,c,rfl⟩:=ah (i:=0) hw0 rfl;have hrow:=fun h=>pS (i:=0) hw0 rfl h;clear hw0 w0;refine zb1 (args:=[.slice p l.length c,cv]) func154 I ntmps154 (bE I) ?_;refine rZ (aT I (sQ (sW I (lU (eN aB I) (lM I (tZ (bK ?_)))))));refine oP (ι:=Nat) (fun k=>[(0,.slice p l.length c),(1,cv),(7,vi l.length),(8,vi k)]) (fun _=>g) (fun _=>rowA encCell 56 (.slice p l.length c) l::s) (fun k=>k≤l.length∧∀ y∈l.take k,pr y=false) (fun k=>l.length - k) 0
  sB rfl rfl ⟨zf3 _,by simp⟩ ?_
 rintro k ⟨hk,hno⟩;refine rZ (yL I (tZ (sQ ?_)));refine iP I (fun hlt=>?_) (fun hlt=>?_)
 ·have hkl:k<l.length:=oM;obtain ⟨b,cap,rfl,rfl,hcap⟩:=hrow oM;have hgk:l[((k:Nat):Int).toNat]?=some l[k]:=List.getElem?_eq_getElem hkl;have htk:l.take (k+1)=l.take k++[l[k]]:=tS hkl;have hsp:l=l.take k++l[k]::l.drop (k+1):=by rw[← zg3 hkl,zi8]
  generalize l[k]=x at *;refine kP (tN (sQ (bK (sW I (aT I (sW I (lM I (lM I (lU (iA aB ao I I I oM sL) (lK (SQ.elemA cz ao I (zb6 0 I) hgk) (lW (SO.callV I I (hcall _ x)) ?_)))))))))));rintro _ _ _ ⟨rfl,rfl,rfl⟩;refine tZ ?_;refine iQ I (fun hq=>?_) (fun hq=>?_)
  ·refine sW I (aT I (rE (bR (tR (tR (bR (tR ?_)))))));exact za7 (.inl I) results154 I ⟨I,I,.inr ⟨l.take k,x,l.drop (k+1),hsp,by rw[ze1,Nat.min_eq_left hk],hno,hq⟩⟩
  ·refine kP (bN (tN (rG (yD I (lM I (nL ?_))))));exact ST.again (k+1) sB I I ⟨oM,fun y hy=>by
    rw[htk,ze9] at hy
    rcases hy with hy | hy
    ·exact hno y hy
    ·rw[zh4.1 hy];simpa using hq⟩ oM
 ·refine xI (tX (tX (bX (tN (rZ (aT I (rE ?_)))))));have hkk:l.take k=l:=tL oM;rw[hkk] at hno;exact za7 (.inl I) results154 I ⟨I,I,.inl ⟨I,hno⟩⟩
theorem uN (E:World)(g:PH)(s:Own)(v cv:Value)(l:List Rc)(pr:Rc→Bool)(hcall:CW E cv pr g)(hl:l.length<1099511627776) :
  Ctr Tryz.prog E 84 #[v,cv] g (rowA encCell 56 v l::s) (fun r g' s'=>g=g'∧s'=rowA encCell 56 r (l.filter fun x=>!pr x)::s):=by
 refine Ctr.facts fun ⟨w0,hw0⟩=>?_;obtain ⟨p,c,rfl⟩:=ah (i:=0) hw0 rfl;have hrow:=fun h=>pS (i:=0) hw0 rfl h;clear hw0 w0;refine zb1 (args:=[.slice p l.length c,cv]) func84 I ntmps84 (bE I) ?_;refine rZ (aT I (sW I (lM I (lW (SO.call call154 I (xu E g s _ cv l pr hcall hl)) ?_))));rintro r10 _ _ ⟨rfl,rfl,hres⟩;obtain ⟨n,rfl⟩:=DC hres;refine aT I (sQ (sW I (yE I (tZ ?_))));refine iP I (fun h2=>?_) (fun h2=>?_)
 ·rcases hres with ⟨h3,h4⟩ | ⟨A,x,R,h3,h4,h5,h6⟩
  ·refine sW I (aT I (rE (tR ?_)));exact za7 (.inl I) results84 I ⟨I,by rw[List.filter_eq_self.2 fun x hx=>by rw[h4 x hx]; rfl]⟩
  ·exact absurd (Value.int.inj h4).2 oM
 ·rcases hres with ⟨h3,h4⟩ | ⟨A,x,R,hsp,h4,h5,h6⟩
  ·exact absurd (Value.int.inj h3).2 oM
  obtain rfl:n=A.length:=(Value.int.inj h4).2;have hlen:l.length=A.length+1+R.length:=by rw[hsp]; simp; omega
  obtain ⟨b,cap,rfl,rfl,hcap⟩:=hrow oM;have hf:l.filter (fun x=>!pr x)=A++R.filter (fun x=>!pr x):=by
   rw[hsp,zh3,List.filter_cons_of_neg (by rw[h6]; simp),List.filter_eq_self.2 fun x hx=>by rw[h5 x hx]; rfl]
  refine kP (tN (sQ (sW I (yD I (aT I (bK ?_))))));refine oP (ι:=List Rc×List Rc×Rc×List Rc) (fun i=>[(0,.slice (some ⟨b,0,none⟩) l.length (cap+1)),(1,cv),(5,vi i.1.length),(6,vi (i.1.length+i.2.1.length+1))]) (fun _=>g)
   (fun i=>rowA encCell 56 (.slice (some ⟨b,0,none⟩) l.length (cap+1)) (i.1++(i.2.1++[i.2.2.1])++i.2.2.2)::s)
   (fun i=>l.filter (fun x=>!pr x)=i.1++i.2.2.2.filter (fun x=>!pr x)∧i.1.length+i.2.1.length+1+i.2.2.2.length=l.length) (fun i=>i.2.2.2.length)
   (A,[],x,R) sB rfl (by dsimp only; rw[hsp]; simp) ⟨hf,by dsimp only; simp; omega⟩ ?_
  rintro ⟨D,J0,z,R'⟩ ⟨hu,hln⟩;dsimp only at hu hln ⊢;have hrl:(D++(J0++[z])++R').length=l.length:=lN;refine sQ (sW I (lM I (lU (eN aB I) (yL I (tZ ?_)))));refine iP I (fun hlt=>?_) (fun hlt=>?_)
  ·cases R' with
   | nil=>simp at hln; omega
   | cons y R2 =>
   simp only[ze5] at hln;have hy1:(D++(J0++[z])++y::R2)[((D.length:Nat)+(J0.length:Nat)+1:Int).toNat]?=some y:=aK lN;obtain ⟨y1,y2,⟨yp,yn,yc⟩⟩:=y;refine kP (tN (sQ (bK (sW I (lM I (lU (iA aB ao I I I oM sL) (lK (SQ.elemA cz ao I (zb6 0 I) hy1) (bW (aL zk8) fun b7=>?_))))))));refine oZ (sK 0 ao I I I I I sB) ?_;refine tZ (sW I (lK (qV 0 cz ao I I I) (lW (SO.callV I I (hcall _ ⟨y1,y2,⟨yp,yn,yc⟩⟩)) ?_)));rintro _ _ _ ⟨rfl,rfl,rfl⟩;refine lU (SU.not I) (tZ ?_);refine iQ I (fun hne=>?_) (fun hne=>?_)
   ·have hne':pr ⟨y1,y2,⟨yp,yn,yc⟩⟩=false:=by simpa using hne
    refine sW I (lM I (lK (qV 0 cz ao I I I) (lU (iA aB ao I I I oM sL) (oZ (SO.setA (a:=⟨y1,y2,⟨yp,yn,yc⟩⟩) 1 ao I I I lN I) ?_))));refine tZ (rG (lM I (yD I (lA I (nL (bN (tN (rG (lM I (yD I (lA I (nL ?_))))))))))));generalize (⟨y1,y2,⟨yp,yn,yc⟩⟩:Rc)=y at *;have hset:∃ J',(D++(J0++[z])++y::R2).set ((D.length:Nat):Int).toNat y=(D++[y])++(J'++[y])++R2∧J'.length=J0.length:=by
     cases J0 with
     | nil=>exact⟨[],by rw[show D++([]++[z])++y::R2=D++z::y::R2 by simp,bw oM]; simp,rfl⟩
     | cons j J1=>exact⟨J1++[z],by rw[show D++(j::J1++[z])++y::R2=D++j::(J1++[z]++y::R2) by simp,bw oM]; simp,by simp⟩
    obtain ⟨J',hset,hJ'⟩:=hset;refine ST.to (fun w hw=>?_) (g':=g) (s':=rowA encCell 56 (.slice (some ⟨b,0,none⟩) l.length (cap+1)) ((D++[y])++(J'++[y])++R2)::s) ?_
    ·rw[← hset]; exact hw.sublist (.cons _ (.refl _))
    exact ST.again (D++[y],J',y,R2) ⟨I,I,aC lN,aC lN,trivial⟩ I I ⟨by rw[hu]; dsimp only; rw[List.filter_cons_of_pos (by rw[hne']; rfl)]; simp,lN⟩ lN
   ·have he':pr ⟨y1,y2,⟨yp,yn,yc⟩⟩=true:=by simpa using hne
    refine kP (bN (tN (rG (lM I (yD I (lA I (nL ?_)))))));generalize (⟨y1,y2,⟨yp,yn,yc⟩⟩:Rc)=y at *;refine ST.to (fun w hw=>?_) (g':=g) (s':=rowA encCell 56 (.slice (some ⟨b,0,none⟩) l.length (cap+1)) (D++((J0++[z])++[y])++R2)::s) ?_
    ·rw[show D++((J0++[z])++[y])++R2=D++(J0++[z])++y::R2 by simp]; exact hw.sublist (.cons _ (.refl _))
    exact ST.again (D,J0++[z],y,R2) ⟨I,I,I,aC lN,trivial⟩ I I ⟨by rw[hu]; dsimp only; rw[List.filter_cons_of_neg (by rw[he']; simp)],lN⟩ lN
  ·have hR:R'=[]:=zf1 oM;subst hR;simp only[zc3] at hln;refine xI (tX (tX (bX (tN (rZ ?_)))));refine SL.to (fun w hw=>At.shrink (i:=0) (D:=D) (J:=J0++[z]) hw (by rw[zc5]; rfl) rfl) ?_;refine lM I (lM I (lU (SU.eq (v':=.slice (some ⟨b,D.length * 3,none⟩) (l.length - D.length) (cap+1 - D.length)) (SU.sliceL aB ao I I oM oM) (by rw[Int.toNat_natCast,mM oM,Nat.zero_add])) ?_));refine lO (SO.clearA (D:=D) 0 sty27 (ld (l:=[vi 0,vi 0,.slice none 0 0]) sB) I I I oM) ?_;rintro _ _ _ ⟨rfl,rfl⟩;refine tZ (sW I (lM I (lU (SU.eq (v':=.slice (some ⟨b,0,none⟩) D.length (cap+1)) (SU.sliceH aB ao I I oM oM) (by rw[Int.toNat_natCast]; exact AQ)) ?_)));refine aT I (rE ?_);exact za7 (.inl I) results84 I ⟨I,by rw[hu]; simp⟩
open Go Go.Sy Go.Pl Go.Proofs
theorem CC {g:PH}:∀ {A:List Cl} {rs:List Rc},az (am g) A rs→rs.map Rc.id=A.map Cl.id
 | [],[],_=>rfl
 | [],_::_,h=>False.elim h
 | _::_,[],h=>False.elim h
 | a::A,r::rs,h=>by rw[zg1,zg1,h.1.1,CC h.2]
theorem Ev {g:PH}{A:List Cl}{rs:List Rc}(h:az (am g) A rs)(ha:A.Pairwise fun a b=>a.id<b.id):rs.Pairwise fun a b=>a.id<b.id:=by
 have h1:(A.map Cl.id).Pairwise (· < ·):=zk1.2 ha;rw[← CC h] at h1;exact zk1.1 h1
theorem sf {g:PH}(p:Int→Bool):∀ {A:List Cl} {rs:List Rc},az (am g) A rs→az (am g) (A.filter fun c=>p c.id) (rs.filter fun r=>p r.id)
 | [],[],_=>trivial
 | [],_::_,h=>False.elim h
 | _::_,[],h=>False.elim h
 | a::A,r::rs,h=>by
  have ih:=sf p h.2;rw[zi4,zi4,h.1.1];split
  ·exact⟨h.1,ih⟩
  ·exact ih
theorem EX (E:World)(g:PH)(b m:Nat)(rs:List Rc)(K:List Cl)(hb:g b=some (.cells #[.map (some m)] 126 (0,0)))(hm:Mp g m (rs.map an))(hall:az (am g) K rs):CW E (.func (.func 85) #[] #[pp b 0]) (fun x=>(ab K x.id).isSome) g:=by
 intro s x;refine bM.mk (args:=[_]) (cap:=[pp b 0]) call85 ?_;obtain ⟨x1,x2,⟨xp,xn,xc⟩⟩:=x;obtain ⟨⟨yi,yd,yp,yn,yc⟩,hy1,hy2,-⟩:=cH hall fD x1;have hy3:(dB (rs.map an) x1).isSome=(ab K x1).isSome:=hy2;refine zb1 (args:=[.agg #[vi x1,vi x2,.slice xp xn xc],pp b 0]) func85 I ntmps85 (bE I) ?_;refine rZ (bW (bO I) fun b2=>?_);refine aT I (rZ (lK (qL (v:=.map (some m)) be I (cK hb I)) (lU (fA ay I zT3 I) (lK (qL (v:=vi x1) iT3 I (cO 0 I I)) (lK (SQ.eq (v':=.tuple #[.agg #[vi yi,vi yd,.slice yp yn yc],vb (ab K x1).isSome]) (SQ.lookupOk mty126 I I (a8.known hm)) (by rw[hy1,hy3]; rfl)) ?_)))));refine lM I (yX I (yX I (bW (aL zk8) fun b4=>?_)));refine oZ (sK 0 ao I I I I I sB) ?_;refine aT I (sW I (aT I (rE (dR (s':=s) uR ?_))));exact za7 (.inl I) results85 I ⟨I,I,I⟩
theorem wi (E:World)(g:PH)(s:Own)(b m:Nat)(rs:List Rc)(K:List Cl)(v:Value)(l:List Cl)(hb:g b=some (.cells #[.map (some m)] 126 (0,0)))(hm:Mp g m (rs.map an))(hall:az (am g) K rs)(hv:aj g v l)(hf:bd l)(hasc:(aa l).Pairwise fun a b=>a.id<b.id) :
  Ctr Tryz.prog E 83 #[.agg #[v],pp b 0] g s (fun r g' s'=>Le g g'∧∃ ds,s'=rowA encCell 56 r ds::s∧az (am g') (sortBy Cl.dim ((aa l).filter fun c=>!(ab K c.id).isSome)) ds):=by
 obtain ⟨q,d,rfl⟩:=hv.form;refine zb1 (args:=[.agg #[.slice q l.length d],pp b 0]) func83 I ntmps83 (bE I) ?_;refine rZ (bW (bO I) fun b2=>?_);refine aT I (rZ (lK (qV 0 aA ak I I I) (lW (SO.call call53 I (AE E g _ _ l hv hf)) ?_)));rintro _ g1 _ ⟨hle1,v1,ds,rfl,rfl,hds⟩;have hcl:=hds.length;have hfl:=(aF hf).1;have hda:=Ev hds hasc;have hdl:=zc4 (fun x:Rc=>!(ab K x.id).isSome) ds;refine lU (SU.field ec I fw I I) (lU (SU.mkFunc I) (lW (SO.call call84 I (uN E g1 _ v1 _ ds (fun x=>(ab K x.id).isSome) (EX E g1 b m rs K (hle1 _ _ hb) (Mp.mono hm hle1) (hall.mono fun _ _=>am.mono hle1)) oM)) ?_));rintro r9 _ _ ⟨rfl,rfl⟩;refine aT I (sW I (lW (SO.call call86 I (wO E g1 _ r9 _ 0 I oM (hda.filter _))) ?_));rintro _ _ _ ⟨rfl,rfl⟩;refine tZ (sW I (aT I (rE (dR (s':=rowA encCell 56 r9 (sortBy Rc.dim (ds.filter fun x=>!(ab K x.id).isSome))::s) (.cons_cons _ (.cons _ (.refl _))) ?_))));exact za7 (.inl I) results83 I ⟨hle1,_,I,az.sortBy (f:=Cl.dim) (h:=Rc.dim) (fun a b h=>h.2.1.symm) (sf (fun id=>!(ab K id).isSome) hds)⟩
theorem DJ (E:World)(g:PH):i6 E (.func (.func 89) #[] #[]) encCell (fun x:Rc=>-x.dim) g:=by
 intro g' s x y hle;refine bM.mk (args:=[_,_]) (cap:=[]) call89 ?_;obtain ⟨x1,x2,⟨xp,xn,xc⟩⟩:=x;obtain ⟨y1,y2,⟨yp,yn,yc⟩⟩:=y;have hk:fN (-x2) (-y2)=fN y2 x2:=by unfold fN; split <;> split <;> (try split)<;>(try split)<;>omega
 dsimp only;rw[hk];refine zb1 (args:=[.agg #[vi x1,vi x2,.slice xp xn xc],.agg #[vi y1,vi y2,.slice yp yn yc]]) func89 I ntmps89 (bE I) ?_;refine rZ (bW (bO I) fun b2=>?_);refine bW (bO I) fun b3=>?_;refine aT I (rZ (lU (fA ay I zT3 I) (lK (qL (v:=vi y2) iT3 I (cO 0 I I)) (lU (fA ay I zT3 I) (lK (qL (v:=vi x2) iT3 I (cO 1 I I)) (lW (SO.call call90 I (cU E g' _ y2 x2)) ?_))))));rintro _ _ _ ⟨rfl,rfl,rfl⟩;refine aT I (rE (dR (s':=s) uR ?_));exact za7 (.inl I) results89 I ⟨I,I,I⟩
theorem AD {l M:List Cl}(h:Rt l)(hs:M.Sublist l):aa M=M:=by
 unfold aa;rw[(a6 (key:=Cl.id) ((h.asc.sublist hs).imp fun h=>by omega) (aw.refl M)).symm];have:∀ c∈M,bo c=c:=fun c hc=>by
  unfold bo;rw[(a6 (key:=ae.cell) ((h.form c (hs.subset hc)).asc.imp fun h=>by omega) (aw.refl c.sides)).symm]
 rw[zc7 this];simp
theorem zw (l:List Cl):sortBy (fun c:Cl=>-c.dim) (sortBy Cl.dim l)=sortBy (fun c:Cl=>-c.dim) l:=by
 have h1:aw (fun c:Cl=>-c.dim) l (sortBy Cl.dim l):=by
  refine⟨(bG (key:=Cl.dim) l).1,fun c=>?_⟩;have h:=(bG (key:=Cl.dim) l).2 (-c);have e:(fun a:Cl=>-a.dim == c)=fun a:Cl=>a.dim == -c:=funext fun a=>by rw[Bool.eq_iff_iff]; simp; omega
  rw[e];exact h
 exact a6 (bQ _) (h1.trans (bG _))
theorem lx {α:Type}(key:α→Int)(l:List α):(sortBy key l).length=l.length:=(bG (key:=key) l).1
theorem eK (E:World)(g:PH)(s:Own)(va vb':Value)(A B:List Cl)(ha:aj g va A)(hb:aj g vb' B)(fa:bd A)(fb:bd B)(ra:(ar A).2=0)(rb:(ar B).2=0) :
  Ctr Tryz.prog E 22 #[.agg #[va],.agg #[vb']] g s (fun r g' s'=>s=s'∧Le g g'∧Eds g' r (cQ (aa A) (aa B))):=by
 obtain ⟨pa,ca,rfl⟩:=ha.form;obtain ⟨pb,cb,rfl⟩:=hb.form;have rA:=jU ra;have rB:=jU rb;have tA:ai A=aa A:=bD rA.asc;have tB:ai B=aa B:=bD rB.asc;have hMs:=BJ (aa A) (aa B);have hMc:=AD rA hMs;have hMf:bd (gn (aa A) (aa B)):=⟨Nat.lt_of_le_of_lt hMs.length_le (aF fa).1,fun c hc=>(aF fa).2 c (hMs.subset hc)⟩;have hMn:((aa (gn (aa A) (aa B))).map Cl.id).Nodup:=by rw[hMc]; exact rA.ids.sublist (hMs.map _)
 have hed:cQ (aa A) (aa B)=(sortBy (fun c:Cl=>-c.dim) (sortBy Cl.dim ((aa A).filter fun c=>!(ab (gn (aa A) (aa B)) c.id).isSome))).map DM++(sortBy Cl.dim ((aa B).filter fun c=>!(ab (gn (aa A) (aa B)) c.id).isSome)).map yf:=by rw[zw]; rfl
 have hAs:=(aF fa).1;have hBs:=(aF fb).1;rw[hed];have hLA:(sortBy Cl.dim ((aa A).filter fun c=>!(ab (gn (aa A) (aa B)) c.id).isSome)).length≤4000:=by
  rw[lx];exact zk4 (zc4 _ _) rA.few
 have hLB:(sortBy Cl.dim ((aa B).filter fun c=>!(ab (gn (aa A) (aa B)) c.id).isSome)).length≤4000:=by
  rw[lx];exact zk4 (zc4 _ _) rB.few
 refine zb1 (args:=[.agg #[.slice pa A.length ca],.agg #[.slice pb B.length cb]]) func22 I ntmps22 (bE I) ?_;refine rZ (bW (bO I) fun b2=>?_);refine bW (bO I) fun b3=>?_;refine aT I (sQ (rZ (lK (qV 1 aA ak I I I) (lK (qV 0 aA ak I I I) (lW (bS sty109 I I I (ag sB) dC) ?_)))));rintro _ _ _ ⟨b15,rfl,rfl,rfl⟩;refine zb4 fun g1 hle1 hb15=>?_;have hs15:SlA c4 g1 (.slice (some ⟨b15,0,none⟩) 2 2) [⟨pa,A.length,ca⟩,⟨pb,B.length,cb⟩]:=SlA.lit hb15 rfl rfl;have ha1:=ha.mono hle1;have hb1:=hb.mono hle1;refine lW (SO.call call71 I (nD E g1 _ _ [A,B] _ hs15 ⟨ha1,hb1,trivial⟩ (by intro l hl; simp at hl; rcases hl with rfl | rfl; exact fa; exact fb) (by simp) (by intro l hl; simp at hl; rcases hl with rfl | rfl; exact ra; exact rb))) ?_;rintro _ _ _ ⟨rfl,rfl,rfl⟩;refine lU (SU.eq (v':=vb false) (SU.not I) I) (tZ (cF I (kP (tN (rZ (lK (qV 1 aA ak I I I) (lK (qV 0 aA ak I I I) (lW (SO.call call24 I (Aa E g1 _ _ _ A B ha1 hb1 fa fb)) ?_))))))));rintro _ g2 _ ⟨rfl,hle2,uM,rfl,hM⟩;rw[tA,tB] at hM;refine lW (SO.call call72 I (dy E g2 _ uM _ hM hMf hMn)) ?_;rintro r21 g3 _ ⟨rfl,hle3,hT⟩;rw[hMc] at hT;obtain ⟨m,rs,rfl,hm,hall⟩:=hT;refine bW (aL zl6) fun b5=>?_;refine oZ (sK 0 sizeOf126 I I I I I sB) ?_;refine tZ (sQ (SC.freeze fun g4 hle4 hb5=>?_));refine rG (lU (SU.mkFunc I) (aT I (sW I (lK (qV 1 aA ak I I I) (lW (SO.callV I I (bM.mk (cap:=[pp b5 0]) call83 (wi E g4 _ b5 m rs _ _ A hb5 (Mp.mono hm hle4) (hall.mono fun _ _=>am.mono hle4) ((ha1.mono hle2).mono (hle3.trans hle4)) fa rA.asc))) ?_)))));rintro v7 g5 _ ⟨hle5,ds,rfl,hds⟩;have hdsl:=hds.length;refine aT I (sW I (lW (SO.call call88 I (nB E g5 _ v7 _ (fun x:Rc=>-x.dim) (DJ E g5) ds oM)) ?_));rintro _ _ _ ⟨rfl,rfl⟩;have hgo:=az.sortBy (f:=fun c:Cl=>-c.dim) (h:=fun x:Rc=>-x.dim) (fun a b h=>by have:=h.2.1; omega) hds;rw[← lx (fun c:Cl=>-c.dim)] at hLA;refine tZ (sQ (fS fun g6 hle6 hs6=>?_));obtain ⟨q6,d6,rfl⟩:=Sl.form hs6;refine zb5 42 7 (rG (aT I (sQ (sW I (lU (eN aB I) (lM I (tZ (bK ?_))))))));have hgo6:=hgo.mono fun _ _=>am.mono hle6;have hall6:=(hall.mono fun _ _=>am.mono hle4).mono fun _ _=>am.mono (hle5.trans hle6);have hm6:=Mp.mono (Mp.mono hm hle4) (hle5.trans hle6);have hb56:=hle6 _ _ (hle5 _ _ hb5);have hB6:=(((hb1.mono hle2).mono (hle3.trans hle4)).mono hle5).mono hle6;have hle16:=(hle1.trans (hle2.trans (hle3.trans hle4))).trans (hle5.trans hle6);have hs6':SlA encCell g6 (.slice q6 (sortBy (fun x:Rc=>-x.dim) ds).length d6) (sortBy (fun x:Rc=>-x.dim) ds):=hs6;clear hs6 hgo hds hm hall hb5 ha1 hb1 hs15 hM;generalize sortBy (fun x:Rc=>-x.dim) ds=es at *;generalize (sortBy (fun c:Cl=>-c.dim) (sortBy Cl.dim ((aa A).filter fun c=>!(ab (gn (aa A) (aa B)) c.id).isSome)))=GL at *;have hel:=hgo6.length;refine oP (ι:=Nat×Value×List Er) (fun i=>[(3,pp b3 0),(6,.func (.func 83) #[] #[pp b5 0]),(8,i.2.1),(28,.slice q6 es.length d6),(29,vi es.length),(30,vi i.1)]) (fun _=>g6) (fun i=>rowA jA 42 i.2.1 i.2.2::pt b3 (.cells #[.slice pb B.length cb] 29 (0,0))::pt b2 (.cells #[.slice pa A.length ca] 29 (0,0))::s) (fun i=>i.1≤es.length∧i.2.2.length=i.1∧az (EdK g6) ((GL.take i.1).map DM) i.2.2) (fun i=>es.length - i.1) (0,.slice none 0 0,[]) sB I I ⟨zf3 _,I,trivial⟩ ?_;rintro ⟨j,ov,acc⟩ ⟨hj,hal,hacc⟩;dsimp only at hj hal hacc ⊢;refine rZ (yL I (tZ (sQ ?_)));refine iP I (fun hlt=>?_) (fun hlt=>?_)
 ·have hje:j<es.length:=oM;have hjg:j<GL.length:=oM;have hbs:=za5 hs6' oM;have hgx:es[((j:Nat):Int).toNat]?=some es[j]:=List.getElem?_eq_getElem hje;have hcr:=hgo6.get (List.getElem?_eq_getElem hjg) (List.getElem?_eq_getElem hje);have htk:GL.take (j+1)=GL.take j++[GL[j]]:=tS hjg;generalize es[j]=x at *;generalize GL[j]=cx at *;obtain ⟨xi,xd,⟨xp,xn,xc⟩⟩:=x;obtain rfl:xi=cx.id:=hcr.1;have hE:EdK g6 (DM cx) ⟨2,cx.id,0,0,0,⟨none,0,0⟩,⟨none,0,0⟩⟩:=⟨_,_,rfl,zb9 _ _,zb9 _ _⟩;refine kP (tN (sQ (bK (rZ (lU (iA aB ao I I hbs oM sL) (lK (SQ.elemA cz ao I (za6 hs6') hgx) (bW (aL zk8) fun b10=>?_)))))));refine oZ (sK 0 ao I I I I I sB) ?_;refine tZ (rG (lM I (lU (fA ay I zT3 I) (lK (qL (v:=vi cx.id) iT3 I (cO 0 I I)) (lU (za2 I (xB42 _ _)) (lW (bS sty62 I I I (ag ⟨I,trivial⟩) dC) ?_))))));rintro _ _ _ ⟨b38,rfl,rfl,rfl⟩;refine lW (aP (e:=jA) (l:=acc) 1 ⟨2,cx.id,0,0,0,⟨none,0,0⟩,⟨none,0,0⟩⟩ sty62 I I I I I oM oM) ?_;rintro ov' _ _ ⟨rfl,rfl⟩;refine lA I (nL (bN (tN (rG (yD I (lM I (nL (dR (.cons _ (.refl _)) ?_))))))));exact ST.again (j+1,ov',acc++[⟨2,cx.id,0,0,0,⟨none,0,0⟩,⟨none,0,0⟩⟩]) sB I I ⟨by dsimp only; omega,by dsimp only; rw[ze2,ze4]; omega,by dsimp only; rw[htk,zg2]; exact hacc.append ⟨hE,trivial⟩⟩ (by dsimp only; omega)
 ·have hje:j=es.length:=oM;have htk:GL.take j=GL:=tL oM;rw[htk] at hacc;have hacl:=hacc.length;rw[ze3] at hacl;refine xI (tX (tX (bX (tN (sQ (sW I (lK (qV 1 aA ak I I I) (lW (SO.callV I I (bM.mk (cap:=[pp b5 0]) call83 (wi E g6 _ b5 m rs _ _ B hb56 hm6 hall6 hB6 fb rB.asc))) ?_))))))));rintro v43 g7 _ ⟨hle7,ds2,rfl,hds2⟩;refine SL.freezeRowK fun g8 hle8 hs8k=>?_;have hs8:=hs8k.sl.mono (eG _ _);obtain ⟨q8,d8,rfl⟩:=hs8k.form;refine lU (eN aB I) (lM I (tZ (bK ?_)));have hn8:=hds2.mono fun _ _=>am.mono hle8;have hacc8:=hacc.mono fun _ _=>EdK.mono (hle7.trans hle8);have hle18:=hle16.trans (hle7.trans hle8);clear hs8k hds2 hB6 hall6 hm6 hacc;generalize (sortBy Cl.dim ((aa B).filter fun c=>!(ab (gn (aa A) (aa B)) c.id).isSome))=NL at *;have hnl:=hn8.length;refine oP (ι:=Nat×Value×List Er) (fun i=>[(8,i.2.1),(43,.slice q8 ds2.length d8),(44,vi ds2.length),(45,vi i.1)]) (fun _=>g8) (fun i=>rowA jA 42 i.2.1 i.2.2::pt b3 (.cells #[.slice pb B.length cb] 29 (0,0))::pt b2 (.cells #[.slice pa A.length ca] 29 (0,0))::s) (fun i=>i.1≤ds2.length∧i.2.2.length=GL.length+i.1∧az (EdK g8) (GL.map DM++(NL.take i.1).map yf) i.2.2) (fun i=>ds2.length - i.1) (0,ov,acc) sB I I ⟨zf3 _,by dsimp only; omega,by simpa using hacc8⟩ ?_;rintro ⟨k,ow,bcc⟩ ⟨hk,hbl,hbcc⟩;dsimp only at hk hbl hbcc ⊢;refine rZ (yL I (tZ (sQ ?_)));refine iP I (fun hlt2=>?_) (fun hlt2=>?_)
  ·have hje2:k<ds2.length:=oM;have hjg2:k<NL.length:=oM;have hbs2:=za5 hs8 oM;have hgx2:ds2[((k:Nat):Int).toNat]?=some ds2[k]:=List.getElem?_eq_getElem hje2;have hcr2:=hn8.get (List.getElem?_eq_getElem hjg2) (List.getElem?_eq_getElem hje2);have htk2:NL.take (k+1)=NL.take k++[NL[k]]:=tS hjg2;generalize ds2[k]=x at *;generalize NL[k]=cx at *;obtain ⟨xi,xd,⟨xp,xn,xc⟩⟩:=x;obtain rfl:xi=cx.id:=hcr2.1;obtain rfl:xd=cx.dim:=hcr2.2.1;have hsx:SlA encSide g8 (.slice xp xn xc) cx.sides:=hcr2.2.2;have hE2:EdK g8 (yf cx) ⟨1,cx.id,cx.dim,0,0,⟨xp,xn,xc⟩,⟨none,0,0⟩⟩:=⟨_,_,rfl,hsx,zb9 _ _⟩;refine kP (tN (sQ (bK (rZ (lU (iA aB ao I I hbs2 oM sL) (lK (SQ.elemA cz ao I (za6 hs8) hgx2) (bW (aL zk8) fun b12=>?_)))))));refine oZ (sK 0 ao I I I I I sB) ?_;refine tZ (rG (lM I (lU (fA ay I zT3 I) (lK (qL (v:=vi cx.id) iT3 I (cO 0 I I)) (lU (fA ay I zT3 I) (lK (qL (v:=vi cx.dim) iT3 I (cO 0 I I)) (lU (fA ay I bJ I) (lK (qL (v:=.slice xp xn xc) cI I (cO 0 I I)) (lU (za2 I (xA42 _ _ _ _ _ _)) (lW (bS sty62 I I I (ag ⟨I,trivial⟩) dC) ?_))))))))));rintro _ _ _ ⟨b57,rfl,rfl,rfl⟩;refine lW (aP (e:=jA) (l:=bcc) 1 ⟨1,cx.id,cx.dim,0,0,⟨xp,xn,xc⟩,⟨none,0,0⟩⟩ sty62 I I I I I oM oM) ?_;rintro ow' _ _ ⟨rfl,rfl⟩;refine lA I (nL (bN (tN (rG (yD I (lM I (nL (dR (.cons _ (.refl _)) ?_))))))));exact ST.again (k+1,ow',bcc++[⟨1,cx.id,cx.dim,0,0,⟨xp,xn,xc⟩,⟨none,0,0⟩⟩]) sB I I ⟨by dsimp only; omega,by dsimp only; rw[ze2,ze4]; omega,by dsimp only; rw[htk2,zg2,← zg5]; exact hbcc.append ⟨hE2,trivial⟩⟩ (by dsimp only; omega)
  ·have htk2:NL.take k=NL:=tL oM;rw[htk2] at hbcc;refine xI (tX (tX (bX (tN (sQ (fS fun g9 hle9 hs9=>?_))))));obtain ⟨q9,d9,rfl⟩:=Sl.form hs9;refine rG (lM I (aT I (rE (dR (s':=s) uR ?_))));exact za7 (.inl I) results22 I ⟨I,hle18.trans hle9,bcc,hs9,hbcc.mono fun _ _=>EdK.mono hle9⟩
def E6 (ts:List Tm):Prop:=∀ t∈ts,bI t.1
structure Tame (ts:List Tm):Prop where
 part:∀ j r,(cf (ts.take j) r).natAbs≤1000000000
 coef:∀ t∈ts,t.2.natAbs≤1000000000
 len:ts.length<1000000
 fit:E6 ts
theorem cd (a:Int)(u:Value)(r:List (Int×Value))(k:Int):dB ((a,u)::r) k=if k=a then some u else dB r k:=by
 unfold dB;rw[fnd];split
 ·rfl
 ·exact kQ k r 1
set_option maxHeartbeats 8000000
theorem wj {l:List Cl}{x:Cl}(hx:x∈aa l):∃ y∈l,bo y=x:=by
 unfold aa at hx;obtain ⟨y,hy,rfl⟩:=ze8.1 hx;exact⟨y,(dS (key:=Cl.id) l).mem_iff.1 hy,I⟩
open Go.ChangeShapes Go.WideShapes Go.ChangeAt Go.RowKit
set_option maxRecDepth 100000
abbrev Ac:=Int×Int×Int×Int
def l6:Enc Ac 4:=⟨fun a=>[vi a.1,vi a.2.1,vi a.2.2.1,vi a.2.2.2],fun _=>rfl,fun _ u hu=>by simp at hu; rcases hu with rfl | rfl | rfl | rfl <;> rfl,by decide⟩
def A64 (a:Ac):Prop:=bI a.1∧bI a.2.1∧bI a.2.2.1∧bI a.2.2.2
theorem tG {n:Int}(h:(Lit.int .i64 n).wf=true):bI n:=by
 have h2:IntKind.i64.min≤n∧n≤IntKind.i64.max:=by simpa [Lit.wf] using h
 unfold bI;simp[IntKind.min,IntKind.max,IntKind.bits,IntKind.signed] at h2;omega
theorem Dn {W:World}{k:Nat}{a:Addr}{len cap:Nat}{xs:List Value}(hl:len≤cap)(hx:xs.length=len * k)(hc:∀ i x,xs[i]?=some x→W.cell? (a.add i)=some x):Sl (qJ W) k (.slice (some a) len cap) len xs:=by
 refine⟨some a,cap,I,⟨hx,hl⟩,fun hne=>?_⟩;obtain ⟨b,o,sp⟩:=a;have h0:0<xs.length:=List.length_pos_iff.2 hne;have hc0:=hc 0 xs[0] (List.getElem?_eq_getElem h0);have hsp:sp=none:=by simpa [Addr.add] using World.cell?_spot hc0
 subst hsp;have hadd:∀ i,(⟨b,o,none⟩:Addr).add i=⟨b,o+i,none⟩:=fun i=>by unfold Addr.add; split <;> simp_all
 simp only[hadd] at hc;have hcell:∀ i x,xs[i]?=some x→∃ cs T fr,W.heap[b]?=some (.cells cs T fr)∧cs[o+i]?=some x:=fun i x hi=>by
  have h1:=hc i x hi;unfold World.cell? at h1;split at h1
  ·rename_i cs T fr hh;exact⟨cs,T,fr,hh,by simpa using h1⟩
  ·cases h1
 obtain ⟨cs,T,fr,hb,_⟩:=hcell 0 xs[0] (List.getElem?_eq_getElem h0);refine⟨b,o,cs,T,fr,I,hb,fun j x hj=>?_⟩;obtain ⟨cs',T',fr',hb',h2⟩:=hcell j x hj;rw[hb] at hb';cases hb';exact h2
theorem Ax {α:Type}{k:Nat}(e:Enc α k){l:List α}{j:Nat}{x:Value}(h:(l.flatMap e.enc)[j]?=some x):∃ i a,l[i]?=some a∧j=i * k+j % k∧j % k<k∧(e.enc a)[j % k]?=some x:=by
 have hj:=(zf2.1 h).1;rw[e.length] at hj;have hk:=e.pos;have h1:j / k<l.length:=by rw[Nat.div_lt_iff_lt_mul hk]; exact hj
 have h2:j % k<k:=Nat.mod_lt _ hk;have h3:j=j / k * k+j % k:=by rw[Nat.mul_comm]; exact (Nat.div_add_mod j k).symm
 refine⟨j / k,l[j / k],List.getElem?_eq_getElem h1,h3,h2,?_⟩;have h4:(e.enc l[j / k])[j % k]?=some ((e.enc l[j / k])[j % k]'(by rw[e.len]; exact h2)):=List.getElem?_eq_getElem _;have h5:=e.get (List.getElem?_eq_getElem h1) h4;rw[← h3,h] at h5;rw[h4,← h5]
section
variable {H:Type}{enc:TypeId×Value→H}{W:World}{base:Nat}{spare:Nat→Bool}{hd:Bool}
theorem Tryz.cells44:Tryz.prog.cellsOf 44=4:=by kernel_rfl
theorem EE {fuel:Nat}{cs:List Value}{x:DataW H×List MemPlace}(h:DataW.trod enc Tryz.prog W base spare hd fuel 44 cs=some x):∃ a:Ac,cs=l6.enc a∧A64 a:=by
 obtain ⟨y0,y1,y2,y3,n,_,hl,h0,h1,h2,h3⟩:=Go.Joins.trod_struct4 td h;rw[cells44] at hl
 match cs,hl with
 | [c0,c1,c2,c3],_ =>
  rw[cells3] at h0 h1 h2 h3;obtain ⟨a,e0,_,wa⟩:=DataW.trod_int uT3 h0;obtain ⟨b,e1,_,wb⟩:=DataW.trod_int uT3 h1;obtain ⟨c,e2,_,wc⟩:=DataW.trod_int uT3 h2;obtain ⟨d,e3,_,wd⟩:=DataW.trod_int uT3 h3;simp at e0 e1 e2 e3;subst e0 e1 e2 e3;exact⟨(a,b,c,d),I,tG wa,tG wb,tG wc,tG wd⟩
theorem AN {fuel:Nat}{v:Value}{x:DataW H×List MemPlace}(h:DataW.trod enc Tryz.prog W base spare hd fuel 25 [v]=some x):∃ l:List Ac,SlA l6 (qJ W) v l∧∀ a∈l,A64 a:=by
 rcases Go.Deep.open_slice underlying25 h with ⟨hcs,_⟩ | ⟨a,len,cap,m,n,D,Pl,hcs,_,hl,_,hmm,_,hx⟩
 ·simp at hcs;subst hcs;exact⟨[],zb9 _ _,by simp⟩
 ·simp at hcs;subst hcs;have hlm:len≤m:=by rw[hmm]; split <;> omega
  obtain ⟨f,hf⟩:=Go.Deep.choose_lt (α:=Ac) (n:=len) (p:=fun i y=>A64 y∧∀ j x,(l6.enc y)[j]?=some x→W.cell? (a.add (i * 4+j))=some x) fun i hi=>by
   obtain ⟨cs',h1,h2⟩:=hx i oM;rw[cells44] at h1;obtain ⟨y,rfl,hy64⟩:=EE h2;obtain ⟨_,_,h3⟩:=World.cells?_some h1;refine⟨y,hy64,fun j x hj=>?_⟩;have hj4:j<4:=by have:=(zf2.1 hj).1; rwa [l6.len] at this
   rw[← Go.Deep.add_add,h3 j hj4,hj]
  refine⟨(List.range len).map f,?_,fun z hz=>by
   obtain ⟨i,hi,rfl⟩:=ze8.1 hz;exact (hf i (List.mem_range.1 hi)).1⟩
  show Sl (qJ W) 4 _ ((List.range len).map f).length (((List.range len).map f).flatMap l6.enc);rw[ze3,zi1];refine Dn hl (by rw[l6.length,ze3,zi1]) fun j y hj=>?_;obtain ⟨i,b,hi,h1,h2,h3⟩:=Ax l6 hj;rw[zh6] at hi;cases hc:(List.range len)[i]? with
  | none=>rw[hc] at hi; cases hi
  | some z =>
   rw[hc] at hi;cases hi;obtain ⟨h4,h5⟩:=zf2.1 hc;simp at h4 h5;subst h5;rw[h1];exact (hf i h4).2 _ _ h3
theorem pJ {v:Value}{d:DataW H}{p:List MemPlace}(h:DataW.Trod enc Tryz.prog W base spare hd 25 v d p)(hv:v.cells = #[v]):∃ l:List Ac,SlA l6 (qJ W) v l∧∀ a∈l,A64 a:=by
 obtain ⟨f,hf⟩:=h;rw[hv] at hf;exact AN hf
end
theorem Cd {l:List Cl}{e:Ed}(h:(eo l e).1=0)(hl:∀ c∈l,bI c.id)(h1:e.kind=1→bI e.cell)(h3:e.kind=3→bI e.new∧bI e.other):∀ c∈(eo l e).2,bI c.id:=by
 obtain ⟨hD,hc,hk,h4⟩:=tz h;have hA:=jU hc;have hAi:∀ c∈aa l,bI c.id:=fun c hc=>by
  obtain ⟨d,hd,e⟩:=wj hc;rw[← e];exact hl d hd
 rw[h4];intro c hcC;obtain ⟨d,hd,rfl⟩:=wj hcC;show bI d.id;have hkk:=xE hk;unfold lk at hd
 rcases hkk with k | k | k | k | k
 ·rw[zf7 k] at hd
  rcases ze9.1 hd with hd | hd
  ·exact hAi d hd
  ·simp at hd; rw[hd]; exact h1 k
 ·rw[zf6 oM,zf7 k] at hd;exact hAi d (qm.1 hd).1
 ·rw[zf6 oM,zf6 oM,zf7 k] at hd;unfold i5 at hk;rw[zf6 oM,zf6 oM,zf7 k] at hk;obtain ⟨c0,_,_,_,_,hout⟩:=tW hA hk;rw[hout] at hd;obtain ⟨n1,n2⟩:=h3 k
  rcases ze9.1 hd with hd | hd
  ·simp at hd
   rcases hd with rfl | rfl
   ·exact n1
   ·exact n2
  ·obtain ⟨x,hx,rfl⟩:=ze8.1 hd;rw[Ej];exact hAi x hx
 ·rw[zf6 oM,zf6 oM,zf6 oM,zf7 k] at hd;unfold nH at hd;obtain ⟨x,hx,rfl⟩:=ze8.1 hd;exact hAi x (qm.1 hx).1
 ·rw[zf6 oM,zf6 oM,zf6 oM,zf6 oM] at hd;exact hAi d (qm.1 hd).1
end Go.Proofs.YtbbppeihhkhkcaaGreatDoor
namespace Go.Sy
open Go
section
variable {P:Program}{N:Nat}{E:World}{f:Fr}{g:PH}{s:Own}{fn:Func}{R:Value→PH→Own→Prop}{e:Exit}
theorem ST.retC3 {T U:TypeId}{t u q m b k:Nat}{cs:Array Value}{fr:Nat×Nat}{x y z:Value}(i:Nat)(s':Own)(he:e = .ret∨e = .normal)(hr:fn.results = #[.cell t T,.tmp u,.tmp q,.tmp m])(hv:aN f t=some (pp b 0))(hu:aN f u=some x)(hq:aN f q=some y)(hm:aN f m=some z)
  (hT:∀ w,(isAgg T).run P w = .ok true w) (hk:∀ w,(sizeOf T).run P w = .ok k w)
  (hs:s[i]?=some (pt b (.cells cs U fr))) (hc:cs.size=k) (hs':s'.Sublist s) (hR:R (.tuple #[.agg cs,x,y,z]) g s'):ST N E (bodyPost P fn (mL E R)) e f g s :=
 fun a w ha hw=>by
  have h1:=dA (P:=P) hw hT (by rw[hc]; exact hk) hs;have h2:=ha.at_ t _ hv;have h5:=ha.at_ u _ hu;have h6:=ha.at_ q _ hq;have h7:=ha.at_ m _ hm;simp only[Array.getD_eq_getD_getElem?] at h2 h5 h6 h7;have h3:(results fn a.tmps).run P w = .ok (.tuple #[.agg cs,x,y,z]) w:=by simp[results,hr,asAddr,pp,h2,h1,h5,h6,h7]
  have h4:mL E R (.returned (.tuple #[.agg cs,x,y,z])) w:=⟨_,g,s',rfl,hw.sublist hs',hR⟩
  rcases he with rfl | rfl
  ·exact⟨ha.defers,_,h3,h4⟩
  ·exact⟨ha.defers,_,h3,h4⟩
end
end Go.Sy
namespace Go.Proofs.YtbbppeihhkhkcaaGreatDoor
open _root_.Go.Proofs.Tryz _root_.Go.Proofs.YtbbppeihhkhkcaaGreatDoor.Tryz
open Go Go.Sy Go.Pl Go.Proofs
set_option maxRecDepth 100000
set_option maxHeartbeats 4000000
theorem AI {es:List Ed}{k:Nat}(h:k<es.length)(A:List Cl)(ss:List Stp):tf A ss k (es.drop k)=if (eo A es[k]).1=0 then tf (eo A es[k]).2 (ss++[imO A es[k]]) (k+1) (es.drop (k+1)) else (((eo A es[k]).1,(k:Int)),[],[]):=by
 rw[zg3 h];rfl
theorem Cf {es:List Ed}{k:Nat}(h:es.length≤k)(A:List Cl)(ss:List Stp):tf A ss k (es.drop k)=((0,0),A,ss):=by
 rw[List.drop_of_length_le h];rfl
theorem AC {g:PH}{p:Option Addr}{n c:Nat}{l:List Cl}(h:aj g (.slice p n c) l):n=l.length:=by
 obtain ⟨q,d,e⟩:=h.form;injection e
theorem CQ.nil {g:PH}{code i:Int}:CQ ((code,i),[],[]) (.tuple #[.agg #[.slice none 0 0],.slice none 0 0,vi i,vi code]) g:=⟨_,none,0,0,rfl,aj.nil g,Sts.nil g⟩
theorem iU (E:World)(g:PH)(s:Own)(v ev:Value)(l:List Cl)(es:List Ed)(hv:aj g v l)(hf:bd l)(he:Eds g ev es)(hs:∀ e∈es,DR e)(hel:es.length<1099511627776) :
  Ctr Tryz.prog E 23 #[.agg #[v],ev] g s (fun r g' s'=>s=s'∧Le g g'∧CQ (mJ l es) r g'):=by
 obtain ⟨p,c,rfl⟩:=hv.form;obtain ⟨rs,hrs,hall⟩:=he;have hrl:=hall.length;obtain ⟨pe,ce,rfl⟩:=za3 hrs;refine zb1 (args:=[.agg #[.slice p l.length c],.slice pe rs.length ce]) func23 I ntmps23 (bE I) ?_;refine rZ (bW (bO I) fun b2=>?_);refine bW (aL zk7) fun b4=>?_;refine lA I (lA I (aT I (sQ (bK (sW I (lU (eN wy I) (lU (SU.gtr I I) (aT I ?_))))))));refine iP I (fun h0=>?_) (fun h0=>?_)
 ·have hC:mJ l es=((2,0),[],[]):=by unfold mJ; rw[zf7 oM]
  refine rZ (lU (za2 I buildE29) (oZ (sK 0 ak I I I I I sB) ?_));refine lA I (lA I (aT I (rE (bR (tR ?_)))));rw[hC];exact ST.retC3 0 s (.inl I) results23 I I I I aA ak I I (.cons _ (.cons _ (.refl _))) ⟨I,zb8 _,CQ.nil⟩
 ·by_cases hr:(ar l).2=0
  ·have hC:mJ l es=tf (aa l) [] 0 es:=by unfold mJ; rw[zf6 oM,zf6 oM]
   refine rZ (lK (qV 1 aA ak I I I) (lW (SO.call call41 I (kS E g _ _ l hv hf true (zf5 hr))) ?_));rintro _ _ _ ⟨rfl,rfl,rfl⟩;refine lU (SU.not I) (aT I (cF I (kP (bN (tN (rZ (lK (qV 1 aA ak I I I) (lW (SO.call call53 I (dX E g _ _ l hv hf)) ?_))))))));rintro _ g1 _ ⟨rfl,hle1,u1,rfl,hA⟩;obtain ⟨p1,c1,rfl⟩:=hA.form;refine oZ (sK 1 ak I I I I I sB) ?_;refine tZ (rZ (aT I (sQ (sW I (lU (eN wy I) (lM I (tZ (bK ?_))))))));rw[hC];have hAl:=aF hf;generalize aa l=A at *;refine zb5 35 2 ?_;refine oP (ι:=Nat×PH×List Cl×Option Addr×Nat×Value×List Sr×List Stp) (fun i=>[(2,pp b2 0),(4,pp b4 0),(8,i.2.2.2.2.2.1),(26,.slice pe rs.length ce),(27,vi rs.length),(28,vi i.1)]) (fun i=>i.2.1) (fun i=>rowA sN 35 i.2.2.2.2.2.1 i.2.2.2.2.2.2.1::pt b4 (.cells #[.slice none 0 0] 29 (0,0))::pt b2 (.cells #[.slice i.2.2.2.1 i.2.2.1.length i.2.2.2.2.1] 29 (0,0))::s)
    (fun i=>i.1≤es.length∧Le g1 i.2.1∧aj i.2.1 (.slice i.2.2.2.1 i.2.2.1.length i.2.2.2.2.1) i.2.2.1∧bd i.2.2.1∧az (StK i.2.1) i.2.2.2.2.2.2.2 i.2.2.2.2.2.2.1∧i.2.2.2.2.2.2.1.length=i.1∧tf A [] 0 es=tf i.2.2.1 i.2.2.2.2.2.2.2 i.1 (es.drop i.1)) (fun i=>es.length - i.1)
    (0,g1,A,p1,c1,.slice none 0 0,[],[]) sB rfl rfl ⟨zf3 _,zb8 _,hA,hAl,trivial,rfl,rfl⟩ ?_
   rintro ⟨k,gk,B,pk,ck,ov,acc,ss⟩ ⟨hk,hlek,hB,hBf,hacc,hal,heq⟩;dsimp only at hk hlek hB hBf hacc hal heq ⊢;refine rZ (yL I (tZ (sQ ?_)));refine iP I (fun hlt=>?_) (fun hlt=>?_)
   ·have hke:k<es.length:=oM;have hkr:k<rs.length:=oM;have hrk:=za4 hrs (hle1.trans hlek);have hbk:=za5 hrk oM;have hgx:rs[((k:Nat):Int).toNat]?=some rs[k]:=List.getElem?_eq_getElem hkr;have hex:=(hall.get (List.getElem?_eq_getElem hke) (List.getElem?_eq_getElem hkr)).mono (hle1.trans hlek);have hsx:=hs _ (gM hke);rw[AI hke] at heq;generalize es[k]=e at *;generalize rs[k]=x at *;obtain ⟨x1,x2,x3,x4,x5,⟨x6,x7,x8⟩,⟨x9,x10,x11⟩⟩:=x;have hDf:=sz B e;refine kP (tN ?_);refine SC.cut (ι:=PH×Option Addr×Nat×Value×Sr) (fun i=>[(2,pp b2 0),(4,pp b4 0),(8,i.2.2.2.1),(26,.slice pe rs.length ce),(27,vi rs.length),(28,vi k)]) (fun i=>i.1) (fun i=>rowA sN 35 i.2.2.2.1 (acc++[i.2.2.2.2])::pt b4 (.cells #[.slice none 0 0] 29 (0,0))::pt b2 (.cells #[.slice i.2.1 (eo B e).2.length i.2.2.1] 29 (0,0))::s)
     (fun i=>Le gk i.1∧aj i.1 (.slice i.2.1 (eo B e).2.length i.2.2.1) (eo B e).2∧StK i.1 (imO B e) i.2.2.2.2∧tf A [] 0 es=tf (eo B e).2 (ss++[imO B e]) (k+1) (es.drop (k+1))) ?_ ?_
    ·refine bK (sW I (lU (iA wy jC I I hbk oM sL) (lK (SQ.elemA isAgg42 jC I (za6 hrk) hgx) (bW (aL zl7) fun b10=>?_))));refine lA I ?_;refine oZ (sK 0 jC rfl rfl rfl rfl rfl (by (repeat' (first | exact trivial | refine⟨by rfl,?_⟩)))) ?_;refine tZ (rZ (lK (qV 3 aA ak I I I) (lK (qV 0 isAgg42 jC I I I) (lW (SO.call call12 I (hsx E gk _ _ _ B hB hBf hex)) ?_))));rintro _ g2 _ ⟨rfl,hle2,hR⟩;obtain ⟨⟨d1,d2,d3⟩,⟨⟨y1,y2,y3⟩,y4⟩,rfl,hD,hS⟩:=hR.one;have hdn:=AC hD;subst hdn;refine lM I (yX I (yX I (yX I (bW (aL zk7) fun b11=>?_))));refine bW (aL zl1) fun b12=>?_;refine oZ (sK 1 ak I I I I I sB) ?_;refine oZ (sK 0 nW I I I I I sB) ?_;refine aT I (sQ (sW I (lU (nQ I I) (tZ ?_))));refine iP I (fun hz=>?_) (fun hz=>?_)
     ·refine rZ (lU (za2 I buildE29) (lM I (lM I (oZ (sK 4 ak I I I I I sB) ?_))));refine lA I (lA I (aT I (rE (tR (bR (tR (tR (bR (tR ?_)))))))));rw[zf6 hz] at heq;rw[heq];exact ST.retC3 4 s (.inl I) results23 I I I I aA ak I I (.cons _ (.cons _ (.cons _ (.cons _ (.cons _ (.cons _ (.refl _))))))) ⟨I,hle1.trans (hlek.trans hle2),CQ.nil⟩
     ·have hz:=Decidable.not_not.1 hz;rw[zf7 hz] at heq;refine kP (tN ?_);refine SC.drawX [4,5] zd9 kR ?_;refine SX.u (i:=1) I kR (mV I) dC (SX.q (i:=2) I kR (qV 0 isAgg35 nW I I I) dC ?_);refine zd5 0 3 kR ?_ ?_
      ·refine SB.o (i:=0) I (SQ.sof (qV 1 aA ak I I I)) dC (.inr iR) ?_;rintro _ _ _ ⟨rfl,rfl,rfl⟩;refine zd4 3 kR ?_
       ·refine SB.o (i:=3) I (bS sty64 I I I (ag ⟨I,trivial⟩) dC) dC (.inr iR) ?_;rintro _ _ _ ⟨b48,rfl,rfl,rfl⟩;refine zd4 4 kR ?_
        ·refine SB.o (i:=4) I (aP (e:=sN) (l:=acc) 3 ⟨⟨y1,y2,y3⟩,y4⟩ sty64 I I I I I oM oM) dC (.inl dC) ?_;rintro ov' _ _ ⟨rfl,rfl⟩;refine zd4 5 kR ?_
         ·refine SB.on (i:=5) I (sK 5 ak I I I I I sB) (.inl dC) ?_;rintro _ _ _ ⟨rfl,rfl⟩;refine SX.u (i:=6) I kR (aS I) dC (SX.nil kR (bN ?_));refine dR (.cons _ (.cons _ (.cons _ (.refl _)))) ?_; exact za8 (g2,d1,d3,ov',⟨⟨y1,y2,y3⟩,y4⟩) sB I I ⟨hle2,hD,hS,heq⟩
      ·refine SB.o (i:=3) I (bS sty64 I I I (ag ⟨I,trivial⟩) dC) dC (.inr iR) ?_;rintro _ _ _ ⟨b48,rfl,rfl,rfl⟩;refine zd5 0 4 kR ?_ ?_
       ·refine SB.o (i:=0) I (SQ.sof (qV 2 aA ak I I I)) dC (.inr iR) ?_;rintro _ _ _ ⟨rfl,rfl,rfl⟩;refine zd4 4 kR ?_
        ·refine SB.o (i:=4) I (aP (e:=sN) (l:=acc) 3 ⟨⟨y1,y2,y3⟩,y4⟩ sty64 I I I I I oM oM) dC (.inl dC) ?_;rintro ov' _ _ ⟨rfl,rfl⟩;refine zd4 5 kR ?_
         ·refine SB.on (i:=5) I (sK 5 ak I I I I I sB) (.inl dC) ?_;rintro _ _ _ ⟨rfl,rfl⟩;refine SX.u (i:=6) I kR (aS I) dC (SX.nil kR (bN ?_));refine dR (.cons _ (.cons _ (.cons _ (.refl _)))) ?_; exact za8 (g2,d1,d3,ov',⟨⟨y1,y2,y3⟩,y4⟩) sB I I ⟨hle2,hD,hS,heq⟩
       ·refine SB.o (i:=4) I (aP (e:=sN) (l:=acc) 3 ⟨⟨y1,y2,y3⟩,y4⟩ sty64 I I I I I oM oM) dC (.inl dC) ?_;rintro ov' _ _ ⟨rfl,rfl⟩;refine zd4 0 kR ?_
        ·refine SB.ob (i:=0) I (SQ.sof (qV 1 aA ak I I I)) dC kR ?_;rintro _ _ _ ⟨rfl,rfl,rfl⟩;refine zd4 5 kR ?_
         ·refine SB.on (i:=5) I (sK 5 ak I I I I I sB) (.inl dC) ?_;rintro _ _ _ ⟨rfl,rfl⟩;refine SX.u (i:=6) I kR (aS I) dC (SX.nil kR (bN ?_));refine dR (.cons _ (.cons _ (.cons _ (.refl _)))) ?_; exact za8 (g2,d1,d3,ov',⟨⟨y1,y2,y3⟩,y4⟩) sB I I ⟨hle2,hD,hS,heq⟩
    rintro ⟨g2,d1,d3,ov',⟨⟨y1,y2,y3⟩,y4⟩⟩ ⟨hle2,hD,hS,heq⟩;dsimp only at hle2 hD hS heq ⊢;refine rG (yD I (lM I (nL ?_)));exact ST.again (k+1,g2,(eo B e).2,d1,d3,ov',acc++[⟨⟨y1,y2,y3⟩,y4⟩],ss++[imO B e]) sB I I ⟨by dsimp only; omega,hlek.trans hle2,hD,hDf,(hacc.mono fun _ _=>StK.mono hle2).append ⟨hS,trivial⟩,by dsimp only; rw[ze2,ze4]; omega,heq⟩ (by dsimp only; omega)
   ·rw[Cf oM] at heq;refine xI (tX (tX (bX (tN (sQ (fS fun g2 hle2 hs2=>?_))))));obtain ⟨q2,d2,rfl⟩:=Sl.form hs2;refine rG (lK (qV 1 aA ak I I I) (lM I (oZ (sK 0 ak I I I I I sB) ?_)));refine lA I (lA I (aT I (rE ?_)));rw[heq];exact ST.retC3 0 s (.inl I) results23 I I I I aA ak I I (.cons _ (.cons _ (.refl _))) ⟨I,hle1.trans (hlek.trans hle2),_,_,_,_,I,hB.mono hle2,acc,hs2,hacc.mono fun _ _=>StK.mono hle2⟩
  ·have hC:mJ l es=((1,0),[],[]):=by unfold mJ; rw[zf6 oM,zf7 hr]
   refine rZ (lK (qV 1 aA ak I I I) (lW (SO.call call41 I (kS E g _ _ l hv hf false (zf4 hr))) ?_));rintro _ _ _ ⟨rfl,rfl,rfl⟩;refine lU (SU.not I) (aT I (za1 I (rZ (lU (za2 I buildE29) (oZ (sK 0 ak I I I I I sB) ?_)))));refine lA I (lA I (aT I (rE (bR (tR ?_)))));rw[hC];exact ST.retC3 0 s (.inl I) results23 I I I I aA ak I I (.cons _ (.cons _ (.refl _))) ⟨I,zb8 _,CQ.nil⟩
set_option maxHeartbeats 8000000
def zz9B:List Cl:=[⟨1,0,[]⟩,⟨2,0,[]⟩,⟨3,0,[]⟩,⟨4,1,[⟨1,-1⟩,⟨2,1⟩]⟩,⟨5,1,[⟨2,-1⟩,⟨3,1⟩]⟩]
def eA:Ed:=⟨1,6,1,0,0,[⟨1,-1⟩,⟨3,1⟩],[]⟩
def eC:Ed:=⟨1,7,0,0,0,[],[]⟩
def eD:Ed:=⟨1,6,1,0,0,[⟨3,-1⟩,⟨1,1⟩],[]⟩
def e5:Ed:=⟨2,5,0,0,0,[],[]⟩
def e3:Ed:=⟨2,3,0,0,0,[],[]⟩
def eT:Ed:=⟨1,5,1,0,0,[⟨3,-1⟩,⟨2,1⟩],[]⟩
def sA:List Cl:=zz9B++[⟨6,1,[⟨1,-1⟩,⟨3,1⟩]⟩]
def sC:List Cl:=zz9B++[⟨7,0,[]⟩]
def sD:List Cl:=zz9B++[⟨6,1,[⟨1,1⟩,⟨3,-1⟩]⟩]
def sE:List Cl:=[⟨1,0,[]⟩,⟨2,0,[]⟩,⟨4,1,[⟨1,-1⟩,⟨2,1⟩]⟩]
def sT:List Cl:=[⟨1,0,[]⟩,⟨2,0,[]⟩,⟨3,0,[]⟩,⟨4,1,[⟨1,-1⟩,⟨2,1⟩]⟩,⟨5,1,[⟨2,1⟩,⟨3,-1⟩]⟩]
theorem Dh:cy [1,2]=[1,2]:=by
 unfold cy;rw[vz dC];rfl
theorem De:ct [[0,1],[1,2]]=zz9B:=by
 simp only[ct,aU,Di,Dh];rfl
theorem D3:(mJ zz9B [eA]).2.1=sA:=by kernel_rfl
theorem E4:(mJ zz9B [eC]).2.1=sC:=by kernel_rfl
theorem D2:(mJ zz9B [eD]).2.1=sD:=by kernel_rfl
theorem E3:(mJ zz9B [e5,e3]).2.1=sE:=by kernel_rfl
theorem D1:(mJ zz9B [e5,eT]).2.1=sT:=by kernel_rfl
theorem Bg:eF (aa zz9B) (aa sA) (aa sC)=(sA++[⟨7,0,[]⟩],[]):=by kernel_rfl
theorem Bf:(eF (aa zz9B) (aa sA) (aa sD))=([],[6]):=by kernel_rfl
theorem Be:(eF (aa zz9B) (aa sA) (aa sE))=([],[6]):=by kernel_rfl
theorem ed_E:cQ (aa zz9B) (aa sE)=[e5,e3]:=by kernel_rfl
theorem ed_T:cQ (aa zz9B) (aa sT)=[e5,⟨1,5,1,0,0,[⟨2,1⟩,⟨3,-1⟩],[]⟩]:=by kernel_rfl
theorem j7:(ar zz9B).2=0∧(ar sA).2=0∧(ar sC).2=0∧(ar sD).2=0∧(ar sE).2=0∧(ar sT).2=0:=by decide +kernel
theorem ya {es:List Ed}(h:∀ e∈es,e.sides.length<1099511627776∧(e.kind=1∨e.kind=2)):∀ e∈es,DR e:=fun e he=>zr (h e he).1 (h e he).2
theorem lj {es:List Ed}(h:es.all (fun e=>decide (e.sides.length<1099511627776∧(e.kind=1∨e.kind=2)))=true):∀ e∈es,DR e:=ya fun e he=>zf9 (p:=e.sides.length<1099511627776∧(e.kind=1∨e.kind=2)) (zj6.1 h e he)
theorem cX (E:World)(g:PH)(s:Own)(v ev:Value)(l:List Cl)(es:List Ed)(hv:aj g v l)(hf:bd l)(he:Eds g ev es)(hs:∀ e∈es,DR e)(hel:es.length<1099511627776) :
  Ctr Tryz.prog E 66 #[.agg #[v],ev] g s (fun r g' s'=>s=s'∧Le g g'∧∃ u,r = .agg #[u]∧aj g' u (mJ l es).2.1):=by
 obtain ⟨p,c,rfl⟩:=hv.form;obtain ⟨pe,ce,rfl⟩:=he.form;refine zb1 (args:=[.agg #[.slice p l.length c],.slice pe es.length ce]) func66 I ntmps66 (bE I) ?_;refine rZ (bW (bO I) fun b2=>?_);refine bW (aL zk7) fun b4=>?_;refine tZ (rZ (lK (qV 1 aA ak I I I) (lM I (lW (SO.call call23 I (iU E g _ _ _ l es hv hf he hs hel)) ?_))));rintro _ g1 _ ⟨rfl,hle1,hR⟩;obtain ⟨u,p1,n1,c1,rfl,hu,hS⟩:=hR;obtain ⟨pu,cu,rfl⟩:=hu.form;refine lM I (yX I (yX I (yX I (yX I (bW (aL zk7) fun b5=>?_)))));refine oZ (sK 0 ak I I I I I sB) ?_;refine lA I (lA I (aT I (rZ (lK (qV 0 aA ak I I I) (oZ (sK 1 ak I I I I I sB) ?_)))));refine tZ (rE ?_);exact ST.retCD 1 s (.inl I) results66 I aA ak I I uR ⟨I,hle1,_,I,hu⟩
theorem eL (E:World)(g:PH)(s:Own)(id a b:Int) :
  Ctr Tryz.prog E 67 #[vi id,vi a,vi b] g s (fun r g' s'=>s=s'∧Le g g'∧EdR g' r ⟨1,id,1,0,0,[⟨a,-1⟩,⟨b,1⟩],[]⟩):=by
 refine zb1 (args:=[vi id,vi a,vi b]) func67 I ntmps67 (bE I) ?_;refine rZ (bW (aL zl7) fun b6=>?_);refine tZ (sW I (lM I (lU (za2 I (buildS75 _ _)) (lM I (lU (za2 I (buildS75 _ _)) (lW (bS sty39 I I I (ag sB) dC) ?_))))));rintro _ _ _ ⟨b12,rfl,rfl,rfl⟩;refine zb4 fun g1 hle1 hb1=>?_;have hs1:SlA encSide g1 (.slice (some ⟨b12,0,none⟩) 2 2) [⟨a,-1⟩,⟨b,1⟩]:=SlA.lit hb1 rfl rfl;refine lU (za2 I (xA42 _ _ _ _ _ _)) ?_;refine oZ (sK 0 jC rfl rfl rfl rfl rfl (by (repeat' (first | exact trivial | refine⟨by rfl,?_⟩)))) ?_;refine tZ (rE ?_);exact ST.retCD 0 s (.inl I) results67 I isAgg42 jC I I uR ⟨I,hle1,_,_,I,hs1,zb9 _ _⟩
theorem eE:bd zz9B:=i9 dC dC
theorem tm:bd sA:=i9 dC dC
theorem Dl:bd sC:=i9 dC dC
theorem Dk:bd sD:=i9 dC dC
theorem yO:bd sE:=i9 dC dC
theorem Dj:bd sT:=i9 dC dC
theorem tj {b l r:List Cl}(h:(b++(l++r)).all (fun c=>decide (0≤c.id∧c.id<1000))=true):∀ x,x∈b∨x∈l∨x∈r→bI x.id:=by
 intro x hx;have h2:=zj6.1 h x (by simpa using hx);have h3:=zf9 h2;exact⟨oM,oM⟩
theorem se {g:PH}{e:Ed}{r:Er}(h:EdK g e r):r.kind=e.kind∧r.cell=e.cell:=by
 obtain ⟨sv,pv,e1,_,_⟩:=h;have e2:jA.enc r=[vi e.kind,vi e.cell,vi e.dim,vi e.new,vi e.other,sv,pv]:=by
  have e3:(jA.enc r).toArray = #[vi e.kind,vi e.cell,vi e.dim,vi e.new,vi e.other,sv,pv]:=Value.agg.inj e1;exact zd8 Array.toList e3
 exact⟨(Value.int.inj (List.cons.inj e2).1).2,(Value.int.inj (List.cons.inj (List.cons.inj e2).2).1).2⟩
theorem yu {g:PH}{v:Value}{a b:Ed}(h:Eds g v [a,b]):∃ d1 n1 o1 s1 p1 d2 n2 o2 s2 p2,SlA jA g v [⟨a.kind,a.cell,d1,n1,o1,s1,p1⟩,⟨b.kind,b.cell,d2,n2,o2,s2,p2⟩]:=by
 obtain ⟨rs,h1,h2⟩:=h;obtain ⟨r,m,rfl,hr,h3⟩:=az.cons_left h2;obtain ⟨q,m2,rfl,hq,h4⟩:=az.cons_left h3;obtain rfl:=az.nil_left h4;obtain ⟨e1,e2⟩:=se hr;obtain ⟨e3,e4⟩:=se hq;refine⟨r.dim,r.new,r.other,r.sv,r.pv,q.dim,q.new,q.other,q.sv,q.pv,?_⟩;rw[← e1,← e2,← e3,← e4];exact h1
theorem co {g:PH}{v:Value}{n:Nat}{l:List Cl}(h:aj g v l)(hl:l.length=n):∃ p c,v = .slice p n c:=by
 subst hl;exact h.form
theorem kN {g:PH}{v:Value}{n:Nat}{l:List Int}(h:de g v l)(hl:l.length=n):∃ p c,v = .slice p n c:=by
 subst hl;exact za3 h
theorem SX.freeze {P:Program}{N:Nat}{E:World}{ops:Array Oper}{Q:Exit→Act→World→Prop}{g0:PH}{s0:Own}{tail:List Nat}{f:Fr}{g:PH}{s:Own}{L:Array Bool}{n:Nat}{b:Nat}{o:Obj}(h:∀ g',Le g g'→g' b=some o→SX P N E ops Q g0 s0 tail L n f g' s):SX P N E ops Q g0 s0 tail L n f g (pt b o::s):=fun a w h1 hcl ha hw hb=>by
 have h2:=hw.own (pt b o) (by simp);simp only[pt,Option.bind_some] at h2;obtain ⟨h3,h4⟩:=hw.freeze (b:=b) rfl h2;exact h _ h4 (eh _ _ _) a w h1 hcl ha h3 hb
theorem qQ (E:World)(hDr:E.drawn=0)(g:PH)(s:Own):Ctr Tryz.prog E 16 #[] g s (fun r g' s'=>r=vb true∧s=s'∧Le g g'):=by
 refine zb1 (args:=[]) func16 I ntmps16 (bE I) ?_;refine rZ (aT I (rZ (lW (bS sty52 I I I (ag sB) dC) ?_)));rintro _ _ _ ⟨b15,rfl,rfl,rfl⟩;refine zb4 fun g1 hle hb15=>?_;have hs15:SlA encInt g1 (.slice (some ⟨b15,0,none⟩) 2 2) [0,1]:=SlA.lit hb15 rfl rfl;have hac:=hle;clear hle;refine lW (bS sty52 I I I (ag sB) dC) ?_;rintro _ _ _ ⟨b16,rfl,rfl,rfl⟩;refine zb4 fun g2 hle hb16=>?_;have hs16:SlA encInt g2 (.slice (some ⟨b16,0,none⟩) 2 2) [1,2]:=SlA.lit hb16 rfl rfl;have hs15:=za4 hs15 hle;have hac:=hac.trans hle;clear hle;refine lW (bS sty22 I I I (ag sB) dC) ?_;rintro _ _ _ ⟨b17,rfl,rfl,rfl⟩;refine zb4 fun g3 hle hb17=>?_;have hlit:ci g3 (.slice (some ⟨b17,0,none⟩) 2 2) [[0,1],[1,2]]:=⟨[iI (.slice (some ⟨b15,0,none⟩) 2 2),iI (.slice (some ⟨b16,0,none⟩) 2 2)],SlA.lit hb17 rfl rfl,⟨za4 hs15 hle,za4 hs16 hle,trivial⟩⟩;have hac:=hac.trans hle;clear hle;refine lW (SO.call call65 I (n4 E g3 _ _ _ hlit dC dC)) ?_;rintro _ g4 _ ⟨rfl,hle,uB,rfl,hB⟩;rw[De] at hB;obtain ⟨pB,cB,rfl⟩:=co (n:=5) hB rfl;have hac:=hac.trans hle;clear hle;refine bW (aL zk7) fun b1=>?_;refine oZ (sK 0 ak I I I I I sB) ?_;refine tZ ?_;refine SC.cut (ι:=Nat×PH×Option Addr×Nat) (fun i=>[(1,pp b1 0),(2,pp i.1 0)]) (fun i=>i.2.1) (fun i=>pt i.1 (.cells #[.slice i.2.2.1 6 i.2.2.2] 29 (0,0))::pt b1 (.cells #[.slice pB 5 cB] 29 (0,0))::s) (fun i=>Le g4 i.2.1∧aj i.2.1 (.slice i.2.2.1 6 i.2.2.2) sA) ?_ ?_
 ·refine SC.drawX [5] zd9 kR ?_;refine SX.q (i:=0) I kR (qV 0 aA ak I I I) dC ?_
  repeat' (first
   | ((with_reducible refine SB.k 5 ?_); refine SB.on (i:=5) I (sK 0 ak I I I I I ⟨I,trivial⟩) (.inl dC) ?_; rintro _ _ _ ⟨rfl,rfl⟩)
   | ((with_reducible refine SB.k 4 ?_); first | (refine SB.o (i:=4) rfl (aL zk7) dC (.inr (by rintro _ _ _ ⟨bv,rfl,rfl,rfl⟩; exact⟨by assumption,(by exact .cons _ (.refl _))⟩)) ?_; rintro _ _ _ ⟨bv,rfl,rfl,rfl⟩) | (refine SB.o (i:=4) rfl (aL zk7) dC (.inr (by rintro _ _ _ ⟨bv,rfl,rfl,rfl⟩; exact⟨by exact zb8 _,(by exact .cons _ (.refl _))⟩)) ?_; rintro _ _ _ ⟨bv,rfl,rfl,rfl⟩))
   | ((with_reducible refine SB.k 3 ?_); first | (refine SB.o (i:=3) rfl (SO.call call66 rfl (cX E g6 _ _ _ zz9B [eA] (hB.mono hl12) eE hq (lj dC) dC)) dC (.inr (by rintro _ g7 _ ⟨rfl,hl3,uu,rfl,hX⟩; exact⟨by exact Le.trans (by assumption) (by assumption),(by exact .refl _)⟩)) ?_; rintro _ g7 _ ⟨rfl,hl3,uu,rfl,hX⟩; rw[D3] at hX; obtain ⟨pu,cu,rfl⟩:=co (n:=6) hX rfl; have hl13:=hl12.trans hl3) | (refine SB.o (i:=3) rfl (SO.call call66 rfl (cX E g6 _ _ _ zz9B [eA] (hB.mono hl12) eE hq (lj dC) dC)) dC (.inr (by rintro _ g7 _ ⟨rfl,hl3,uu,rfl,hX⟩; exact⟨by exact Le.trans (by assumption) (by assumption),(by exact .cons _ (.refl _))⟩)) ?_; rintro _ g7 _ ⟨rfl,hl3,uu,rfl,hX⟩; rw[D3] at hX; obtain ⟨pu,cu,rfl⟩:=co (n:=6) hX rfl; have hl13:=hl12.trans hl3))
   | ((with_reducible refine SB.k 2 ?_); first | (refine SB.o (i:=2) rfl (bS sty62 rfl rfl rfl (ag ⟨rfl,trivial⟩) dC) dC (.inr (by rintro _ _ _ ⟨bs,rfl,rfl,rfl⟩; exact⟨by assumption,(by exact .cons _ (.refl _))⟩)) ?_; rintro _ _ _ ⟨bs,rfl,rfl,rfl⟩; refine SX.freeze fun g6 hl2 hbs=>?_; have hq:Eds g6 (.slice (some ⟨bs,0,none⟩) 1 1) [eA]:=⟨[⟨k1,k2,k3,k4,k5,⟨k6,k7,k8⟩,⟨k9,k10,k11⟩⟩],SlA.lit hbs rfl rfl,⟨EdK.mono hl2 he,trivial⟩⟩; have hl12:=hl1.trans hl2) | (refine SB.o (i:=2) rfl (bS sty62 rfl rfl rfl (ag ⟨rfl,trivial⟩) dC) dC (.inr (by rintro _ _ _ ⟨bs,rfl,rfl,rfl⟩; exact⟨by assumption,(by exact .cons _ (.cons _ (.refl _)))⟩)) ?_; rintro _ _ _ ⟨bs,rfl,rfl,rfl⟩; refine SX.freeze fun g6 hl2 hbs=>?_; have hq:Eds g6 (.slice (some ⟨bs,0,none⟩) 1 1) [eA]:=⟨[⟨k1,k2,k3,k4,k5,⟨k6,k7,k8⟩,⟨k9,k10,k11⟩⟩],SlA.lit hbs rfl rfl,⟨EdK.mono hl2 he,trivial⟩⟩; have hl12:=hl1.trans hl2))
   | ((with_reducible refine SB.k 1 ?_); first | (refine SB.o (i:=1) rfl (SO.call call67 rfl (eL E g4 _ 6 1 3)) dC (.inr (by rintro _ g5 _ ⟨rfl,hl1,he⟩; exact⟨by assumption,(by exact .refl _)⟩)) ?_; rintro _ g5 _ ⟨rfl,hl1,he⟩; obtain ⟨⟨k1,k2,k3,k4,k5,⟨k6,k7,k8⟩,⟨k9,k10,k11⟩⟩,rfl,he⟩:=EdR.rc he) | (refine SB.o (i:=1) rfl (SO.call call67 rfl (eL E g4 _ 6 1 3)) dC (.inr (by rintro _ g5 _ ⟨rfl,hl1,he⟩; exact⟨by assumption,(by exact .cons _ (.refl _))⟩)) ?_; rintro _ g5 _ ⟨rfl,hl1,he⟩; obtain ⟨⟨k1,k2,k3,k4,k5,⟨k6,k7,k8⟩,⟨k9,k10,k11⟩⟩,rfl,he⟩:=EdR.rc he))
   | ((with_reducible refine SX.k 4 ?_); first | refine zd4 1 kD ?_ | refine zd5 2 4 kD ?_ ?_)
   | ((with_reducible refine SX.k 3 ?_); first | refine zd4 2 kD ?_ | refine zd5 3 4 kD ?_ ?_)
   | ((with_reducible refine SX.k 2 ?_); first | refine zd4 4 kD ?_ | refine zd4 3 kD ?_)
   | ((with_reducible refine SX.k 1 ?_); refine zd4 5 kD ?_)
   | ((with_reducible refine SX.k 0 ?_); refine SX.nil kD ?_; exact za8 (bv,g7,pu,cu) sB I I ⟨hl13,hX⟩)
   | (refine SX.k 5 ?_; refine zd5 1 4 kD ?_ ?_))
 rintro ⟨b2,g8,pA,cA⟩ ⟨hle,hA⟩;dsimp only at hle hA ⊢;have hB:=hB.mono hle;have hac:=hac.trans hle;clear hle;refine rZ (lK (qV 1 aA ak I I I) (lU (za2 I (xB42 _ _)) (lW (bS sty62 I I I (ag ⟨I,trivial⟩) dC) ?_)));rintro _ _ _ ⟨b25,rfl,rfl,rfl⟩;refine zb4 fun g9 hle hb25=>?_;have hq25:Eds g9 (.slice (some ⟨b25,0,none⟩) 1 1) [eC]:=⟨[⟨1,7,0,0,0,⟨none,0,0⟩,⟨none,0,0⟩⟩],SlA.lit hb25 rfl rfl,⟨⟨_,_,rfl,zb9 _ _,zb9 _ _⟩,trivial⟩⟩;have hB:=hB.mono hle;have hA:=hA.mono hle;have hac:=hac.trans hle;clear hle;refine lW (SO.call call66 I (cX E g9 _ _ _ zz9B [eC] hB eE hq25 (lj dC) dC)) ?_;rintro _ g10 _ ⟨rfl,hle,uC,rfl,hC⟩;rw[E4] at hC;obtain ⟨pC,cC,rfl⟩:=co (n:=6) hC rfl;have hB:=hB.mono hle;have hA:=hA.mono hle;have hac:=hac.trans hle;clear hle;refine bW (aL zk7) fun b3=>?_;refine oZ (sK 0 ak I I I I I sB) ?_;refine tZ ?_;refine SC.cut (ι:=Nat×PH×Option Addr×Nat) (fun i=>[(1,pp b1 0),(2,pp b2 0),(3,pp b3 0),(4,pp i.1 0)]) (fun i=>i.2.1) (fun i=>pt i.1 (.cells #[.slice i.2.2.1 6 i.2.2.2] 29 (0,0))::pt b3 (.cells #[.slice pC 6 cC] 29 (0,0))::pt b2 (.cells #[.slice pA 6 cA] 29 (0,0))::pt b1 (.cells #[.slice pB 5 cB] 29 (0,0))::s) (fun i=>Le g10 i.2.1∧aj i.2.1 (.slice i.2.2.1 6 i.2.2.2) sD) ?_ ?_
 ·refine SC.drawX [5] zd9 kR ?_;refine SX.q (i:=0) I kR (qV 2 aA ak I I I) dC ?_
  repeat' (first
   | ((with_reducible refine SB.k 5 ?_); refine SB.on (i:=5) I (sK 0 ak I I I I I ⟨I,trivial⟩) (.inl dC) ?_; rintro _ _ _ ⟨rfl,rfl⟩)
   | ((with_reducible refine SB.k 4 ?_); first | (refine SB.o (i:=4) rfl (aL zk7) dC (.inr (by rintro _ _ _ ⟨bv,rfl,rfl,rfl⟩; exact⟨by assumption,(by exact .cons _ (.refl _))⟩)) ?_; rintro _ _ _ ⟨bv,rfl,rfl,rfl⟩) | (refine SB.o (i:=4) rfl (aL zk7) dC (.inr (by rintro _ _ _ ⟨bv,rfl,rfl,rfl⟩; exact⟨by exact zb8 _,(by exact .cons _ (.refl _))⟩)) ?_; rintro _ _ _ ⟨bv,rfl,rfl,rfl⟩))
   | ((with_reducible refine SB.k 3 ?_); first | (refine SB.o (i:=3) rfl (SO.call call66 rfl (cX E g12 _ _ _ zz9B [eD] (hB.mono hl12) eE hq (lj dC) dC)) dC (.inr (by rintro _ g13 _ ⟨rfl,hl3,uu,rfl,hX⟩; exact⟨by exact Le.trans (by assumption) (by assumption),(by exact .refl _)⟩)) ?_; rintro _ g13 _ ⟨rfl,hl3,uu,rfl,hX⟩; rw[D2] at hX; obtain ⟨pu,cu,rfl⟩:=co (n:=6) hX rfl; have hl13:=hl12.trans hl3) | (refine SB.o (i:=3) rfl (SO.call call66 rfl (cX E g12 _ _ _ zz9B [eD] (hB.mono hl12) eE hq (lj dC) dC)) dC (.inr (by rintro _ g13 _ ⟨rfl,hl3,uu,rfl,hX⟩; exact⟨by exact Le.trans (by assumption) (by assumption),(by exact .cons _ (.refl _))⟩)) ?_; rintro _ g13 _ ⟨rfl,hl3,uu,rfl,hX⟩; rw[D2] at hX; obtain ⟨pu,cu,rfl⟩:=co (n:=6) hX rfl; have hl13:=hl12.trans hl3))
   | ((with_reducible refine SB.k 2 ?_); first | (refine SB.o (i:=2) rfl (bS sty62 rfl rfl rfl (ag ⟨rfl,trivial⟩) dC) dC (.inr (by rintro _ _ _ ⟨bs,rfl,rfl,rfl⟩; exact⟨by assumption,(by exact .cons _ (.refl _))⟩)) ?_; rintro _ _ _ ⟨bs,rfl,rfl,rfl⟩; refine SX.freeze fun g12 hl2 hbs=>?_; have hq:Eds g12 (.slice (some ⟨bs,0,none⟩) 1 1) [eD]:=⟨[⟨k1,k2,k3,k4,k5,⟨k6,k7,k8⟩,⟨k9,k10,k11⟩⟩],SlA.lit hbs rfl rfl,⟨EdK.mono hl2 he,trivial⟩⟩; have hl12:=hl1.trans hl2) | (refine SB.o (i:=2) rfl (bS sty62 rfl rfl rfl (ag ⟨rfl,trivial⟩) dC) dC (.inr (by rintro _ _ _ ⟨bs,rfl,rfl,rfl⟩; exact⟨by assumption,(by exact .cons _ (.cons _ (.refl _)))⟩)) ?_; rintro _ _ _ ⟨bs,rfl,rfl,rfl⟩; refine SX.freeze fun g12 hl2 hbs=>?_; have hq:Eds g12 (.slice (some ⟨bs,0,none⟩) 1 1) [eD]:=⟨[⟨k1,k2,k3,k4,k5,⟨k6,k7,k8⟩,⟨k9,k10,k11⟩⟩],SlA.lit hbs rfl rfl,⟨EdK.mono hl2 he,trivial⟩⟩; have hl12:=hl1.trans hl2))
   | ((with_reducible refine SB.k 1 ?_); first | (refine SB.o (i:=1) rfl (SO.call call67 rfl (eL E g10 _ 6 3 1)) dC (.inr (by rintro _ g11 _ ⟨rfl,hl1,he⟩; exact⟨by assumption,(by exact .refl _)⟩)) ?_; rintro _ g11 _ ⟨rfl,hl1,he⟩; obtain ⟨⟨k1,k2,k3,k4,k5,⟨k6,k7,k8⟩,⟨k9,k10,k11⟩⟩,rfl,he⟩:=EdR.rc he) | (refine SB.o (i:=1) rfl (SO.call call67 rfl (eL E g10 _ 6 3 1)) dC (.inr (by rintro _ g11 _ ⟨rfl,hl1,he⟩; exact⟨by assumption,(by exact .cons _ (.refl _))⟩)) ?_; rintro _ g11 _ ⟨rfl,hl1,he⟩; obtain ⟨⟨k1,k2,k3,k4,k5,⟨k6,k7,k8⟩,⟨k9,k10,k11⟩⟩,rfl,he⟩:=EdR.rc he))
   | ((with_reducible refine SX.k 4 ?_); first | refine zd4 1 kD ?_ | refine zd5 2 4 kD ?_ ?_)
   | ((with_reducible refine SX.k 3 ?_); first | refine zd4 2 kD ?_ | refine zd5 3 4 kD ?_ ?_)
   | ((with_reducible refine SX.k 2 ?_); first | refine zd4 4 kD ?_ | refine zd4 3 kD ?_)
   | ((with_reducible refine SX.k 1 ?_); refine zd4 5 kD ?_)
   | ((with_reducible refine SX.k 0 ?_); refine SX.nil kD ?_; exact za8 (bv,g13,pu,cu) sB I I ⟨hl13,hX⟩)
   | (refine SX.k 5 ?_; refine zd5 1 4 kD ?_ ?_))
 rintro ⟨b4,g14,pD,cD⟩ ⟨hle,hD⟩;dsimp only at hle hD ⊢;have hB:=hB.mono hle;have hA:=hA.mono hle;have hC:=hC.mono hle;have hac:=hac.trans hle;clear hle;refine rZ (lK (qV 3 aA ak I I I) (lU (za2 I (xB42 _ _)) (lU (za2 I (xB42 _ _)) (lW (bS sty62 I I I (ag sB) dC) ?_))));rintro _ _ _ ⟨b34,rfl,rfl,rfl⟩;refine zb4 fun g15 hle hb34=>?_;have hq34:Eds g15 (.slice (some ⟨b34,0,none⟩) 2 2) [e5,e3]:=⟨[⟨2,5,0,0,0,⟨none,0,0⟩,⟨none,0,0⟩⟩,⟨2,3,0,0,0,⟨none,0,0⟩,⟨none,0,0⟩⟩],SlA.lit hb34 rfl rfl,⟨⟨_,_,rfl,zb9 _ _,zb9 _ _⟩,⟨_,_,rfl,zb9 _ _,zb9 _ _⟩,trivial⟩⟩;have hB:=hB.mono hle;have hA:=hA.mono hle;have hC:=hC.mono hle;have hD:=hD.mono hle;have hac:=hac.trans hle;clear hle;refine lW (SO.call call66 I (cX E g15 _ _ _ zz9B [e5,e3] hB eE hq34 (lj dC) dC)) ?_;rintro _ g16 _ ⟨rfl,hle,uE,rfl,hE⟩;rw[E3] at hE;obtain ⟨pE,cE,rfl⟩:=co (n:=3) hE rfl;have hB:=hB.mono hle;have hA:=hA.mono hle;have hC:=hC.mono hle;have hD:=hD.mono hle;have hac:=hac.trans hle;clear hle;refine bW (aL zk7) fun b5=>?_;refine oZ (sK 0 ak I I I I I sB) ?_;refine tZ ?_;refine SC.cut (ι:=Nat×PH×Option Addr×Nat) (fun i=>[(1,pp b1 0),(2,pp b2 0),(3,pp b3 0),(4,pp b4 0),(5,pp b5 0),(6,pp i.1 0)]) (fun i=>i.2.1) (fun i=>pt i.1 (.cells #[.slice i.2.2.1 5 i.2.2.2] 29 (0,0))::pt b5 (.cells #[.slice pE 3 cE] 29 (0,0))::pt b4 (.cells #[.slice pD 6 cD] 29 (0,0))::pt b3 (.cells #[.slice pC 6 cC] 29 (0,0))::pt b2 (.cells #[.slice pA 6 cA] 29 (0,0))::pt b1 (.cells #[.slice pB 5 cB] 29 (0,0))::s) (fun i=>Le g16 i.2.1∧aj i.2.1 (.slice i.2.2.1 5 i.2.2.2) sT) ?_ ?_
 ·refine SC.drawX [6] zd9 kR ?_;refine SX.q (i:=0) I kR (qV 4 aA ak I I I) dC (SX.u (i:=1) I kR (za2 I (xB42 _ _)) dC ?_)
  repeat' (first
   | ((with_reducible refine SB.k 6 ?_); refine SB.on (i:=6) I (sK 0 ak I I I I I ⟨I,trivial⟩) (.inl dC) ?_; rintro _ _ _ ⟨rfl,rfl⟩)
   | ((with_reducible refine SB.k 5 ?_); first | (refine SB.o (i:=5) rfl (aL zk7) dC (.inr (by rintro _ _ _ ⟨bv,rfl,rfl,rfl⟩; exact⟨by assumption,(by exact .cons _ (.refl _))⟩)) ?_; rintro _ _ _ ⟨bv,rfl,rfl,rfl⟩) | (refine SB.o (i:=5) rfl (aL zk7) dC (.inr (by rintro _ _ _ ⟨bv,rfl,rfl,rfl⟩; exact⟨by exact zb8 _,(by exact .cons _ (.refl _))⟩)) ?_; rintro _ _ _ ⟨bv,rfl,rfl,rfl⟩))
   | ((with_reducible refine SB.k 4 ?_); first | (refine SB.o (i:=4) rfl (SO.call call66 rfl (cX E g18 _ _ _ zz9B [e5,eT] (hB.mono hl12) eE hq (lj dC) dC)) dC (.inr (by rintro _ g19 _ ⟨rfl,hl3,uu,rfl,hX⟩; exact⟨by exact Le.trans (by assumption) (by assumption),(by exact .refl _)⟩)) ?_; rintro _ g19 _ ⟨rfl,hl3,uu,rfl,hX⟩; rw[D1] at hX; obtain ⟨pu,cu,rfl⟩:=co (n:=5) hX rfl; have hl13:=hl12.trans hl3) | (refine SB.o (i:=4) rfl (SO.call call66 rfl (cX E g18 _ _ _ zz9B [e5,eT] (hB.mono hl12) eE hq (lj dC) dC)) dC (.inr (by rintro _ g19 _ ⟨rfl,hl3,uu,rfl,hX⟩; exact⟨by exact Le.trans (by assumption) (by assumption),(by exact .cons _ (.refl _))⟩)) ?_; rintro _ g19 _ ⟨rfl,hl3,uu,rfl,hX⟩; rw[D1] at hX; obtain ⟨pu,cu,rfl⟩:=co (n:=5) hX rfl; have hl13:=hl12.trans hl3))
   | ((with_reducible refine SB.k 3 ?_); first | (refine SB.o (i:=3) rfl (bS sty62 rfl rfl rfl (ag sB) dC) dC (.inr (by rintro _ _ _ ⟨bs,rfl,rfl,rfl⟩; exact⟨by assumption,(by exact .cons _ (.refl _))⟩)) ?_; rintro _ _ _ ⟨bs,rfl,rfl,rfl⟩; refine SX.freeze fun g18 hl2 hbs=>?_; have hq:Eds g18 (.slice (some ⟨bs,0,none⟩) 2 2) [e5,eT]:=⟨[⟨2,5,0,0,0,⟨none,0,0⟩,⟨none,0,0⟩⟩,⟨k1,k2,k3,k4,k5,⟨k6,k7,k8⟩,⟨k9,k10,k11⟩⟩],SlA.lit hbs rfl rfl,⟨⟨_,_,rfl,zb9 _ _,zb9 _ _⟩,EdK.mono hl2 he,trivial⟩⟩; have hl12:=hl1.trans hl2) | (refine SB.o (i:=3) rfl (bS sty62 rfl rfl rfl (ag sB) dC) dC (.inr (by rintro _ _ _ ⟨bs,rfl,rfl,rfl⟩; exact⟨by assumption,(by exact .cons _ (.cons _ (.refl _)))⟩)) ?_; rintro _ _ _ ⟨bs,rfl,rfl,rfl⟩; refine SX.freeze fun g18 hl2 hbs=>?_; have hq:Eds g18 (.slice (some ⟨bs,0,none⟩) 2 2) [e5,eT]:=⟨[⟨2,5,0,0,0,⟨none,0,0⟩,⟨none,0,0⟩⟩,⟨k1,k2,k3,k4,k5,⟨k6,k7,k8⟩,⟨k9,k10,k11⟩⟩],SlA.lit hbs rfl rfl,⟨⟨_,_,rfl,zb9 _ _,zb9 _ _⟩,EdK.mono hl2 he,trivial⟩⟩; have hl12:=hl1.trans hl2))
   | ((with_reducible refine SB.k 2 ?_); first | (refine SB.o (i:=2) rfl (SO.call call67 rfl (eL E g16 _ 5 3 2)) dC (.inr (by rintro _ g17 _ ⟨rfl,hl1,he⟩; exact⟨by assumption,(by exact .refl _)⟩)) ?_; rintro _ g17 _ ⟨rfl,hl1,he⟩; obtain ⟨⟨k1,k2,k3,k4,k5,⟨k6,k7,k8⟩,⟨k9,k10,k11⟩⟩,rfl,he⟩:=EdR.rc he) | (refine SB.o (i:=2) rfl (SO.call call67 rfl (eL E g16 _ 5 3 2)) dC (.inr (by rintro _ g17 _ ⟨rfl,hl1,he⟩; exact⟨by assumption,(by exact .cons _ (.refl _))⟩)) ?_; rintro _ g17 _ ⟨rfl,hl1,he⟩; obtain ⟨⟨k1,k2,k3,k4,k5,⟨k6,k7,k8⟩,⟨k9,k10,k11⟩⟩,rfl,he⟩:=EdR.rc he))
   | ((with_reducible refine SX.k 4 ?_); first | refine zd4 2 kD ?_ | refine zd5 3 5 kD ?_ ?_)
   | ((with_reducible refine SX.k 3 ?_); first | refine zd4 3 kD ?_ | refine zd5 4 5 kD ?_ ?_)
   | ((with_reducible refine SX.k 2 ?_); first | refine zd4 5 kD ?_ | refine zd4 4 kD ?_)
   | ((with_reducible refine SX.k 1 ?_); refine zd4 6 kD ?_)
   | ((with_reducible refine SX.k 0 ?_); refine SX.nil kD ?_; exact za8 (bv,g19,pu,cu) sB I I ⟨hl13,hX⟩)
   | (refine SX.k 5 ?_; refine zd5 2 5 kD ?_ ?_))
 rintro ⟨b6,g20,pT,cT⟩ ⟨hle,hT⟩;dsimp only at hle hT ⊢;have hB:=hB.mono hle;have hA:=hA.mono hle;have hC:=hC.mono hle;have hD:=hD.mono hle;have hE:=hE.mono hle;have hac:=hac.trans hle;clear hle;refine rZ (lK (qV 5 aA ak I I I) (lK (qV 4 aA ak I I I) (lK (qV 3 aA ak I I I) (lW (SO.call call18 I (ig E hDr g20 _ _ _ _ zz9B sA sC hB hA hC eE tm Dl j7.1 j7.2.1 j7.2.2.1 (tj dC) dC)) ?_))));rintro _ g21 _ ⟨rfl,hle,uM1,uZ1,rfl,hM1,hZ1⟩;rw[Bg] at hM1 hZ1;obtain ⟨pM1,cM1,rfl⟩:=co (n:=7) hM1 rfl;obtain ⟨pZ1,cZ1,rfl⟩:=kN (n:=0) hZ1 rfl;have hB:=hB.mono hle;have hA:=hA.mono hle;have hC:=hC.mono hle;have hD:=hD.mono hle;have hE:=hE.mono hle;have hT:=hT.mono hle;have hac:=hac.trans hle;clear hle;refine lM I (yX I (yX I (bW (aL zk7) fun b7=>?_)));refine oZ (sK 0 ak I I I I I sB) ?_;refine aT I (rZ (lK (qV 6 aA ak I I I) (lK (qV 5 aA ak I I I) (lK (qV 3 aA ak I I I) (lW (SO.call call18 I (ig E hDr g21 _ _ _ _ zz9B sA sD hB hA hD eE tm Dk j7.1 j7.2.1 j7.2.2.2.1 (tj dC) dC)) ?_)))));rintro _ g22 _ ⟨rfl,hle,uM2,uZ2,rfl,hM2,hZ2⟩;rw[Bf] at hM2 hZ2;obtain ⟨pM2,cM2,rfl⟩:=co (n:=0) hM2 rfl;obtain ⟨pZ2,cZ2,rfl⟩:=kN (n:=1) hZ2 rfl;have hB:=hB.mono hle;have hA:=hA.mono hle;have hC:=hC.mono hle;have hD:=hD.mono hle;have hE:=hE.mono hle;have hT:=hT.mono hle;have hac:=hac.trans hle;clear hle;refine lM I (yX I (yX I (bW (aL zk7) fun b9=>?_)));refine oZ (sK 0 ak I I I I I sB) ?_;refine aT I (rZ (lK (qV 7 aA ak I I I) (lK (qV 6 aA ak I I I) (lK (qV 3 aA ak I I I) (lW (SO.call call18 I (ig E hDr g22 _ _ _ _ zz9B sA sE hB hA hE eE tm yO j7.1 j7.2.1 j7.2.2.2.2.1 (tj dC) dC)) ?_)))));rintro _ g23 _ ⟨rfl,hle,uM3,uZ3,rfl,hM3,hZ3⟩;rw[Be] at hM3 hZ3;obtain ⟨pM3,cM3,rfl⟩:=co (n:=0) hM3 rfl;obtain ⟨pZ3,cZ3,rfl⟩:=kN (n:=1) hZ3 rfl;have hB:=hB.mono hle;have hA:=hA.mono hle;have hC:=hC.mono hle;have hD:=hD.mono hle;have hE:=hE.mono hle;have hT:=hT.mono hle;have hZ2:=za4 hZ2 hle;have hac:=hac.trans hle;clear hle;refine lM I (yX I (yX I (bW (aL zk7) fun b11=>?_)));refine oZ (sK 0 ak I I I I I sB) ?_;refine aT I (rZ (lK (qV 8 aA ak I I I) (lK (qV 4 aA ak I I I) (lW (SO.call call22 I (eK E g23 _ _ _ zz9B sE hB hE eE yO j7.1 j7.2.2.2.2.1)) ?_))));rintro _ g24 _ ⟨rfl,hle,hlE⟩;rw[ed_E] at hlE;obtain ⟨d1E,n1E,o1E,s1E,q1E,d2E,n2E,o2E,s2E,q2E,hRE⟩:=yu hlE;clear hlE;obtain ⟨pRE,cRE,rfl⟩:=za3 hRE;have hbRE:based (.slice pRE 2 cRE)=true:=za5 hRE (Nat.zero_lt_succ _);have hB:=hB.mono hle;have hA:=hA.mono hle;have hC:=hC.mono hle;have hD:=hD.mono hle;have hE:=hE.mono hle;have hT:=hT.mono hle;have hZ2:=za4 hZ2 hle;have hZ3:=za4 hZ3 hle;have hac:=hac.trans hle;clear hle;refine aT I (rZ (lK (qV 8 aA ak I I I) (lK (qV 3 aA ak I I I) (lW (SO.call call22 I (eK E g24 _ _ _ zz9B sT hB hT eE Dj j7.1 j7.2.2.2.2.2)) ?_))));rintro _ g25 _ ⟨rfl,hle,hlT⟩;rw[ed_T] at hlT;obtain ⟨d1T,n1T,o1T,s1T,q1T,d2T,n2T,o2T,s2T,q2T,hRT⟩:=yu hlT;clear hlT;obtain ⟨pRT,cRT,rfl⟩:=za3 hRT;have hbRT:based (.slice pRT 2 cRT)=true:=za5 hRT (Nat.zero_lt_succ _);have hB:=hB.mono hle;have hA:=hA.mono hle;have hC:=hC.mono hle;have hD:=hD.mono hle;have hE:=hE.mono hle;have hT:=hT.mono hle;have hZ2:=za4 hZ2 hle;have hZ3:=za4 hZ3 hle;have hRE:=za4 hRE hle;have hac:=hac.trans hle;clear hle;refine aT I (sQ (sW I (lU (eN wy I) (lU (SU.eq (v':=vb false) (nQ I I) I) (lM I (yC I (lY I I I (eN wy I) (lY I I I (SU.eq (v':=vb false) (nQ I I) I) (yF I (tZ (cF I (kP (tN (rZ (lU (fA ec I dF I) (lK (qL (v:=.slice pM1 7 cM1) fw I (cO 2 I I)) (lU (eN aB I) (lU (SU.eq (v':=vb true) (eQ I I) (zd8 vb (zf5 I))) (lM I (yC I (lY I I I (eN aG I) (lY I I I (SU.eq (v':=vb true) (eQ I I) (zd8 vb (zf5 I))) (yP I ?_)))))))))))))))))))))));refine lM I (yC I (SL.go (gT I I I dC) (bS sty52 I I I (ag ⟨I,trivial⟩) dC) dC ?_));rintro _ _ _ ⟨b87,rfl,rfl,rfl⟩;refine zb4 fun g26 hle hb87=>?_;have hs87:SlA encInt g26 (.slice (some ⟨b87,0,none⟩) 1 1) [6]:=SlA.lit hb87 rfl rfl;have hB:=hB.mono hle;have hA:=hA.mono hle;have hC:=hC.mono hle;have hD:=hD.mono hle;have hE:=hE.mono hle;have hT:=hT.mono hle;have hZ2:=za4 hZ2 hle;have hZ3:=za4 hZ3 hle;have hRE:=za4 hRE hle;have hRT:=za4 hRT hle;have hac:=hac.trans hle;clear hle;refine SL.go (gT I I I dC) (SO.call call68 I (rT E g26 _ _ _ [6] [6] hZ2 hs87 dC)) dC ?_;rintro _ _ _ ⟨rfl,rfl,rfl⟩;rw[show decide (([6]:List Int)=[6])=true from rfl];refine yP I (lM I (yC I (SL.go (gT I I I dC) (bS sty52 I I I (ag ⟨I,trivial⟩) dC) dC ?_)));rintro _ _ _ ⟨b92,rfl,rfl,rfl⟩;refine zb4 fun g27 hle hb92=>?_;have hs92:SlA encInt g27 (.slice (some ⟨b92,0,none⟩) 1 1) [6]:=SlA.lit hb92 rfl rfl;have hB:=hB.mono hle;have hA:=hA.mono hle;have hC:=hC.mono hle;have hD:=hD.mono hle;have hE:=hE.mono hle;have hT:=hT.mono hle;have hZ2:=za4 hZ2 hle;have hZ3:=za4 hZ3 hle;have hRE:=za4 hRE hle;have hRT:=za4 hRT hle;have hac:=hac.trans hle;clear hle;refine SL.go (gT I I I dC) (SO.call call68 I (rT E g27 _ _ _ [6] [6] hZ3 hs92 dC)) dC ?_;rintro _ _ _ ⟨rfl,rfl,rfl⟩;rw[show decide (([6]:List Int)=[6])=true from rfl];refine yP I (lM I (yC I (lY I I I (iA wy jC I I hbRE dC (by show (0:Int)<2; decide)) ?_)));refine lY I I I (fC kA I zT3 I hbRE) (SL.gq (gT I I I dC) (aZ (e:=jA) (o:=1) (u:=vi 5) (a:=(⟨e5.kind,e5.cell,d1E,n1E,o1E,s1E,q1E⟩:Er)) iT3 I (za6 hRE) I I) dC (lY I I I (SU.eq (v':=vb true) (eQ I I) (zd8 vb (zf5 I))) (yP I (lM I (yC I (lY I I I (iA wy jC I I hbRE dC (by show (1:Int)<2; decide)) ?_))))));refine lY I I I (fC kA I zT3 I hbRE) (SL.gq (gT I I I dC) (aZ (e:=jA) (o:=1) (u:=vi 3) (a:=(⟨e3.kind,e3.cell,d2E,n2E,o2E,s2E,q2E⟩:Er)) iT3 I (za6 hRE) I I) dC (lY I I I (SU.eq (v':=vb true) (eQ I I) (zd8 vb (zf5 I))) (yP I (lM I (yC I (lY I I I (iA wy jC I I hbRT dC (by show (0:Int)<2; decide)) ?_))))));refine lY I I I (fC kA I zT3 I hbRT) (SL.gq (gT I I I dC) (aZ (e:=jA) (o:=0) (u:=vi 2) (a:=(⟨e5.kind,e5.cell,d1T,n1T,o1T,s1T,q1T⟩:Er)) iT3 I (za6 hRT) I I) dC (lY I I I (SU.eq (v':=vb true) (eQ I I) (zd8 vb (zf5 I))) (yP I (lM I (yC I (lY I I I (iA wy jC I I hbRT dC (by show (1:Int)<2; decide)) ?_))))));refine lY I I I (fC kA I zT3 I hbRT) (SL.gq (gT I I I dC) (aZ (e:=jA) (o:=0) (u:=vi 1) (a:=(⟨(⟨1,5,1,0,0,[⟨2,1⟩,⟨3,-1⟩],[]⟩:Ed).kind,(⟨1,5,1,0,0,[⟨2,1⟩,⟨3,-1⟩],[]⟩:Ed).cell,d2T,n2T,o2T,s2T,q2T⟩:Er)) iT3 I (za6 hRT) I I) dC (lY I I I (SU.eq (v':=vb true) (eQ I I) (zd8 vb (zf5 I))) (yP I (lM I (yC I (lY I I I (iA wy jC I I hbRT dC (by show (1:Int)<2; decide)) ?_))))));refine lY I I I (fC kA I zT3 I hbRT) (SL.gq (gT I I I dC) (aZ (e:=jA) (o:=1) (u:=vi 5) (a:=(⟨(⟨1,5,1,0,0,[⟨2,1⟩,⟨3,-1⟩],[]⟩:Ed).kind,(⟨1,5,1,0,0,[⟨2,1⟩,⟨3,-1⟩],[]⟩:Ed).cell,d2T,n2T,o2T,s2T,q2T⟩:Er)) iT3 I (za6 hRT) I I) dC (lY I I I (SU.eq (v':=vb true) (eQ I I) (zd8 vb (zf5 I))) (yP I (aT I (rE (dR (s':=s) uR ?_))))));exact za7 (.inl I) results16 I ⟨I,I,hac⟩
end Go.Proofs.YtbbppeihhkhkcaaGreatDoor
namespace Go.Sy
open Go
section
variable {P:Program}{N:Nat}{E:World}{f:Fr}{g:PH}{s:Own}{fn:Func}{R:Value→PH→Own→Prop}{e:Exit}
end
end Go.Sy
namespace Go.Proofs.YtbbppeihhkhkcaaGreatDoor
open _root_.Go.Proofs.Tryz _root_.Go.Proofs.YtbbppeihhkhkcaaGreatDoor.Tryz
open Go Go.Sy Go.Pl Go.Proofs
set_option maxRecDepth 100000
set_option maxHeartbeats 8000000
def EP (l:List Cl):Prop:=bd l∧∀ c∈l,bI c.id
set_option maxHeartbeats 1000000
theorem ib.up {A G:List Cl}{lo:Int}{m:Nat}(h:ib A lo m G):∀ {n:Nat},m≤n→ib A lo n G:=fun {n} hn=>by
 induction n with
 | zero=>rw[show m=0 by omega] at h; exact h
 | succ n ih =>
  by_cases e:m=n+1
  ·subst e; exact h
  ·exact (ih oM).skip
theorem yz {m:Int}(h:0≤m∧m<3):bA m 10=0∨bA m 10=1∨bA m 10=2:=by
 rcases (by omega:m=0∨m=1∨m=2) with rfl | rfl | rfl <;> decide
theorem B6 {g:PH}{e:Ed}{r1 r2 r3 r4 r5 x:Int}{r6:Option Addr}{r7 r8:Nat}{r9:Option Addr}{r10 r11:Nat}(h:EdK g e ⟨r1,r2,r3,r4,r5,⟨r6,r7,r8⟩,⟨r9,r10,r11⟩⟩) :
  EdR g (.agg #[vi r1,vi x,vi r3,vi r4,vi r5,.slice r6 r7 r8,.slice r9 r10 r11]) { e with cell:=x }:=by
 obtain ⟨sv,pv,h1,h2,h3⟩:=h;have h1:Value.agg #[vi r1,vi r2,vi r3,vi r4,vi r5,.slice r6 r7 r8,.slice r9 r10 r11] = .agg #[vi e.kind,vi e.cell,vi e.dim,vi e.new,vi e.other,sv,pv]:=h1;injection h1 with h1
 simp only[Array.mk.injEq,List.cons.injEq,Value.int.injEq,true_and,and_true] at h1;obtain ⟨f1,-,f3,f4,f5,f6,f7⟩:=h1;refine⟨sv,pv,?_,h2,h3⟩;dsimp only;rw[← f1,← f3,← f4,← f5,← f6,← f7]
theorem o7 (E:World)(g:PH)(s:Own)(v av:Value)(A:List Cl)(acts:List Ac)(lo:Int)(hlo:lo=1000∨lo=2000)(hv:aj g v A)(hA:Rt A)(hf:EP A)(hlow:∀ c∈A,c.id<lo)(ha:SlA l6 g av acts)(hw:∀ a∈acts,A64 a) :
  Ctr Tryz.prog E 27 #[.agg #[v],av,vi lo] g s (fun r g' s'=>s=s'∧Le g g'∧∃ u G,r = .agg #[u]∧aj g' u G∧ib A lo 6 G∧EP G):=by
 obtain ⟨p,c,rfl⟩:=hv.form;obtain ⟨pa,ca,rfl⟩:=za3 ha;refine zb1 (args:=[.agg #[.slice p A.length c],.slice pa acts.length ca,vi lo]) func27 I ntmps27 (bE I) ?_;refine rZ (bW (bO I) fun b3=>?_);refine bW (aL zk7) fun b6=>?_;refine tZ (sQ (rZ (aT I (bK ?_))));refine oP (ι:=Nat×PH×List Cl×Option Addr×Nat) (fun i=>[(1,.slice pa acts.length ca),(2,vi lo),(3,pp b3 0),(6,pp b6 0),(7,vi i.1)]) (fun i=>i.2.1) (fun i=>pt b6 (.cells #[.slice none 0 0] 29 (0,0))::pt b3 (.cells #[.slice i.2.2.2.1 i.2.2.1.length i.2.2.2.2] 29 (0,0))::s)
  (fun i=>i.1≤acts.length∧i.1≤6∧Le g i.2.1∧aj i.2.1 (.slice i.2.2.2.1 i.2.2.1.length i.2.2.2.2) i.2.2.1∧EP i.2.2.1∧ib A lo i.1 i.2.2.1) (fun i=>acts.length - i.1)
  (0,g,A,p,c) sB rfl rfl ⟨zf3 _,zf3 _,zb8 _,hv,hf,.start hA lo⟩ ?_
 rintro ⟨k,gk,B,pk,ck⟩ ⟨hk,hk6,hlek,hB,hBf,hG⟩;dsimp only at hk hk6 hlek hB hBf hG ⊢;refine sQ ?_;refine SC.cutB 20 (decide (k<acts.length)&&decide (k<6)) ?_ ?_
 ·refine rG (lM I (lM I (lU (eN underlying25 I) (yL I (lM I ?_)))));refine sP ?_ ?_
  ·intro h17;refine yC I (lY I I I (lS I I) (yP I (nL ?_)));exact za9 (by (simp_all[aN]; omega)) mI
  ·intro h17;refine yA I (yA I (yF I (nL ?_)));exact za9 (by (simp_all[aN]; omega)) mI
 refine iQ I (fun hlt=>?_) (fun hlt=>?_)
 ·simp only[zi9,zj3] at hlt;obtain ⟨hka,hk9⟩:=hlt;have hak:=za4 ha hlek;have hba:=za5 hak oM;have hgx:acts[((k:Nat):Int).toNat]?=some acts[k]:=List.getElem?_eq_getElem hka;have hwx:=hw _ (gM hka);generalize acts[k]=x at *;obtain ⟨k0,k1,k2,k3⟩:=x;have hm3:=bU k0 3 dC dC;refine kP (tN (sQ (bK (sW I (lM I (lU (iA underlying25 sizeOf44 I I hba oM sL) (lK (SQ.elemA isAgg44 sizeOf44 I (za6 hak) hgx) (bW (aL zeroValue44) fun b8=>?_))))))));refine oZ (sK 0 sizeOf44 rfl rfl rfl rfl rfl (by (repeat' (first | exact trivial | refine⟨by rfl,?_⟩)))) ?_;refine tZ (sQ ?_);refine SC.to (g':=gk) (s':=pt b8 (.cells #[vi k0,vi k1,vi k2,vi k3] 44 (0,0))::pt b6 (.cells #[.slice none 0 0] 29 (0,0))::pt b3 (.cells #[.slice pk B.length ck] 29 (0,0))::s) (fun w hw=>hw) ?_;refine rG (lU (fA td I zT3 I) (lK (qL (v:=vi k0) iT3 I (cO 0 I I)) (lW (SO.call call32 I (bH E gk _ k0 3 dC)) ?_)));rintro _ _ _ ⟨rfl,rfl,rfl⟩;refine lU (fA td rfl zT3 rfl) (oZ (SO.store1 0 zT3 rfl rfl rfl rfl (bE rfl) (by rfl)) ?_);refine tZ (sQ ?_);refine SC.to (g':=gk) (s':=pt b8 (.cells #[vi (bA k0 3),vi k1,vi k2,vi k3] 44 (0,0))::pt b6 (.cells #[.slice none 0 0] 29 (0,0))::pt b3 (.cells #[.slice pk B.length ck] 29 (0,0))::s) (fun w hw=>hw) ?_;refine rG (lK (qV 0 isAgg44 sizeOf44 I I I) (lK (qV 2 aA ak I I I) (lW (SO.call call13 I (re E gk _ _ B (bA k0 3) k1 k2 k3 hB hBf.1 (yz hm3))) ?_)));rintro ev g3 _ ⟨rfl,hle3,e,he,hse1,hse2,hkind,-⟩;have hkind:e.kind=1:=hkind (yz hm3);obtain ⟨⟨r1,r2,r3,r4,r5,⟨r6,r7,r8⟩,⟨r9,r10,r11⟩⟩,rfl,hr⟩:=he.rc;refine bW (aL zl7) fun b9=>?_;refine oZ (sK 0 jC rfl rfl rfl rfl rfl (by (repeat' (first | exact trivial | refine⟨by rfl,?_⟩)))) ?_;refine tZ (sQ ?_);refine SC.to (g':=g3) (s':=pt b9 (.cells #[vi r1,vi r2,vi r3,vi r4,vi r5,.slice r6 r7 r8,.slice r9 r10 r11] 42 (0,0))::pt b8 (.cells #[vi (bA k0 3),vi k1,vi k2,vi k3] 44 (0,0))::pt b6 (.cells #[.slice none 0 0] 29 (0,0))::pt b3 (.cells #[.slice pk B.length ck] 29 (0,0))::s) (fun w hw=>hw) ?_;refine rG (lM rfl (lM rfl (yD rfl (lU (fA kA rfl zT3 rfl) (oZ (SO.store1 0 zT3 rfl rfl rfl rfl (bE rfl) (by rfl)) ?_)))));refine tZ (sQ ?_);refine SC.to (g':=g3) (s':=pt b9 (.cells #[vi r1,vi (lo+k),vi r3,vi r4,vi r5,.slice r6 r7 r8,.slice r9 r10 r11] 42 (0,0))::pt b8 (.cells #[vi (bA k0 3),vi k1,vi k2,vi k3] 44 (0,0))::pt b6 (.cells #[.slice none 0 0] 29 (0,0))::pt b3 (.cells #[.slice pk B.length ck] 29 (0,0))::s) (fun w hw=>hw) ?_;refine rG (lK (qV 3 aA ak I I I) (lK (qV 0 isAgg42 jC I I I) (lW (SO.call call12 I (zr (e:={ e with cell:=lo+k }) hse1 (.inl hkind) E g3 _ _ _ B (hB.mono hle3) hBf.1 (B6 hr))) ?_)));rintro _ g4 _ ⟨rfl,hle4,hR⟩;obtain ⟨u4,y4,rfl,hD,hS⟩:=hR.one;obtain ⟨u1,u2,u3⟩:=u4;obtain ⟨⟨z1,z2,z3⟩,z4⟩:=y4;have hle34:=hle3.trans hle4;have hDn:=tw hD;subst hDn;have hB4:=(hB.mono hle3).mono hle4;have hDf:=sz B { e with cell:=lo+k };refine lM I (yX I (yX I (yX I (bW (aL zk7) fun b10=>?_))));refine bW (aL zl1) fun b11=>?_;refine oZ (sK 1 ak I I I I I sB) ?_;refine oZ (sK 0 nW I I I I I sB) ?_;refine aT I (sW I (yE I (tZ ?_)));refine iP I (fun hz=>?_) (fun hz=>?_)
  ·refine rG (lK (qV 1 aA ak I I I) (oZ (sK 5 ak I I I I I sB) ?_));refine nL (bN (tN (rG (lM I (yD I (lA I (nL (dR (.cons _ (.cons _ (.cons _ (.cons _ (.refl _))))) ?_))))))));exact ST.again (k+1,g4,(eo B { e with cell:=lo+k }).2,u1,u3) sB I I ⟨by dsimp only; omega,by dsimp only; omega,hlek.trans hle34,hD,⟨hDf,Cd hz hBf.2 (fun _=>by unfold bI; dsimp only; omega) (fun h=>by dsimp only at h; omega)⟩,hG.step hlow hkind I hz⟩ (by dsimp only; omega)
  ·refine kP (bN (tN (rG (lM I (yD I (lA I (nL (dR (.cons _ (.cons _ (.cons _ (.cons _ (.refl _))))) ?_))))))));exact ST.again (k+1,g4,B,pk,ck) sB I I ⟨by dsimp only; omega,by dsimp only; omega,hlek.trans hle34,hB4,hBf,hG.skip⟩ (by dsimp only; omega)
 ·refine xI (tX (tX (bX (tN (rZ (lK (qV 1 aA ak I I I) (oZ (sK 0 ak I I I I I sB) ?_)))))));refine tZ (rE ?_);exact ST.retCD 0 s (.inl I) results27 I aA ak I I uR ⟨I,hlek,_,B,I,hB,hG.up hk6,hBf⟩
theorem jV {l:List Cl}(h:Rt l):(ar l).2=0:=by rw[h.check]
theorem lQ (E:World)(g:PH)(s:Own)(u:Value)(kd y:Int)(ls:List (List Int))(av:Value)(acts:List Ac)(bv:Value)(bcts:List Ac)(hls:ci g u ls)(ha:SlA l6 g av acts)(hw:∀ a∈acts,A64 a)(hb:SlA l6 g bv bcts)(hwb:∀ a∈bcts,A64 a)(hE:E.drawn=0) :
  Ctr Tryz.prog E 7 #[.agg #[vi kd,u,vi y],av,bv] g s (fun r g' s'=>r=vb true∧s=s'∧Le g g'):=by
 obtain ⟨p,n,c,rfl⟩:∃ p n c,u = .slice p n c:=by
  obtain ⟨rs0,hrs0,_⟩:=hls;obtain ⟨p,c,rfl⟩:=za3 hrs0;exact⟨_,_,_,I⟩
 obtain ⟨pa,ca,rfl⟩:=za3 ha;obtain ⟨pb,cb,rfl⟩:=za3 hb;have hmi:=BO kd ls y;have hmf:=xj kd ls y;have hmr:=lB kd ls y;have hm90:=BP kd ls y;have hml:=BN kd ls y;have hmade:=fun g s v hv=>Ad E g s v kd y ls hv;generalize mX kd ls y=M at *;refine zb1 (args:=[.agg #[vi kd,.slice p n c,vi y],.slice pa acts.length ca,.slice pb bcts.length cb]) func7 I ntmps7 (bE I) ?_;refine rZ (bW (bO I) fun b3=>?_);refine aT I (rZ (lW (SO.call call16 I (qQ E hE g _)) ?_));rintro _ g1 _ ⟨rfl,rfl,hle1⟩;refine aT I (rZ (lK (qV 0 isAgg24 sizeOf24 I I I) (lW (SO.call call11 I (hmade g1 _ _ (hls.mono hle1))) ?_)));rintro _ g2 _ ⟨rfl,hle2,xm,rfl,hM⟩;obtain ⟨pM,cM,rfl⟩:=hM.form;have hle12:=hle1.trans hle2;refine bW (aL zk7) fun b8=>?_;refine oZ (sK 0 ak I I I I I sB) ?_;refine tZ (rZ (lK (qV 0 aA ak I I I) (lM I (lW (SO.call call27 I (o7 E g2 _ _ _ M acts 1000 (.inl I) hM hmr ⟨hmf,hmi⟩ hml (za4 ha hle12) hw)) ?_))));rintro _ g3 _ ⟨rfl,hle3,uL,L,rfl,hL,gL,fL⟩;obtain ⟨pL,cL,rfl⟩:=hL.form;have hM3:=hM.mono hle3;have hle13:=hle12.trans hle3;refine bW (aL zk7) fun b9=>?_;refine oZ (sK 0 ak I I I I I sB) ?_;refine tZ (rZ (lK (qV 1 aA ak I I I) (lM I (lW (SO.call call27 I (o7 E g3 _ _ _ M bcts 2000 (.inr I) hM3 hmr ⟨hmf,hmi⟩ (fun x hx=>by have:=hml x hx; omega) (za4 hb hle13) hwb)) ?_))));rintro _ g4 _ ⟨rfl,hle4,uR,R,rfl,hR,gR,fR⟩;obtain ⟨pR,cR,rfl⟩:=hR.form;have hM4:=hM3.mono hle4;have hL4:=hL.mono hle4;have hle14:=hle13.trans hle4;obtain ⟨lL,lR,W,hW,hT,hU,hA1,hA2⟩:=xx hml hm90 hmr gL gR;have fW:=hW.fits;have kL:=jV gL.rt;have zkR:=jV gR.rt;have kM:=jV hmr;refine bW (aL zk7) fun b10=>?_;refine oZ (sK 0 ak I I I I I sB) ?_;refine tZ (rZ (lK (qV 2 aA ak I I I) (lK (qV 1 aA ak I I I) (lK (qV 0 aA ak I I I) (lW (SO.call call18 I (ig E hE g4 _ _ _ _ M L R hM4 hL4 hR hmf fL.1 fR.1 kM kL zkR (fun x hx=>hx.elim (hmi x) fun hx=>hx.elim (fL.2 x) (fR.2 x)) oM)) ?_)))));rintro _ g5 _ ⟨rfl,hle5,y5,z5,rfl,hY,hZ⟩;rw[hmr.canon,gL.rt.canon,gR.rt.canon,hT] at hY hZ;obtain ⟨pY,cY,rfl⟩:=hY.form;obtain ⟨pZ,cZ,rfl⟩:=kN (n:=0) hZ rfl;have hM5:=hM4.mono hle5;have hL5:=hL4.mono hle5;have hR5:=hR.mono hle5;have hle15:=hle14.trans hle5;refine lM I (yX I (yX I (bW (aL zk7) fun b11=>?_)));refine oZ (sK 0 ak I I I I I sB) ?_;refine aT I ?_;refine SC.cut (ι:=Nat×PH×Sv) (fun i=>[(1,.slice pa acts.length ca),(2,.slice pb bcts.length cb),(3,pp b3 0),(7,vb true),(8,pp b8 0),(9,pp b9 0),(10,pp b10 0),(11,pp b11 0),(13,pp i.1 0),(16,vi 0)]) (fun i=>i.2.1) (fun i=>pt i.1 (.cells #[.slice i.2.2.p i.2.2.n i.2.2.c] 29 (0,0))::pt b11 (.cells #[.slice pY W.length cY] 29 (0,0))::pt b10 (.cells #[.slice pR R.length cR] 29 (0,0))::pt b9 (.cells #[.slice pL L.length cL] 29 (0,0))::pt b8 (.cells #[.slice pM M.length cM] 29 (0,0))::pt b3 (.cells #[vi kd,.slice p n c,vi y] 24 (0,0))::s) (fun i=>Le g5 i.2.1∧aj i.2.1 (.slice i.2.2.p i.2.2.n i.2.2.c) W) ?_ ?_
 ·refine SC.drawX [11] zd9 kR ?_;refine SX.q (i:=0) I kR (qV 2 aA ak I I I) dC (SX.q (i:=1) I kR (qV 3 aA ak I I I) dC (SX.q (i:=2) I kR (qV 1 aA ak I I I) dC ?_))
  repeat' (first
   | (refine SB.o (i:=3) I (SO.call call22 I (eK E g5 _ _ _ M R hM5 hR5 hmf fR.1 kM zkR)) dC (.inr iR) ?_; rintro _ gx _ ⟨rfl,hl2,hes⟩; rw[hmr.canon,gR.rt.canon] at hes)
   | (refine SB.o (i:=3) I (SO.call call22 I (eK E g5 _ _ _ M R hM5 hR5 hmf fR.1 kM zkR)) dC (.inr iR) ?_; rintro _ gx _ ⟨rfl,hl2,hes⟩; rw[hmr.canon,gR.rt.canon] at hes)
   | (refine SB.o (i:=4) I (SO.call call23 I (iU E gx _ _ _ L (cQ M R) (hL5.mono hl2) fL.1 hes (ya (mE gR.rt)) (by have:=gv hmr gR.rt; omega))) dC (.inr (by rintro _ gz _ ⟨rfl,hl3,hAR⟩; exact⟨by exact Le.trans (by assumption) (by assumption),(by exact .cons _ (.refl _))⟩)) ?_; rintro _ gz _ ⟨rfl,hl3,hAR⟩; obtain ⟨ss,hss⟩:=hA1; rw[hss] at hAR; obtain ⟨u9,p9,n9,c9,rfl,hu,hS⟩:=hAR; obtain ⟨pu,cu,rfl⟩:=hu.form; have hl23:=hl2.trans hl3; refine SX.u (i:=5) I kD (mV I) dC ?_; refine SX.u (i:=6) I kD (xT I I) dC ?_; refine SX.u (i:=7) I kD (xT I I) dC ?_; refine SX.u (i:=8) I kD (xT I I) dC ?_; refine SX.u (i:=9) I kD (xT I I) dC ?_)
   | (refine SB.o (i:=4) I (SO.call call23 I (iU E gx _ _ _ L (cQ M R) (hL5.mono hl2) fL.1 hes (ya (mE gR.rt)) (by have:=gv hmr gR.rt; omega))) dC (.inr (by rintro _ gz _ ⟨rfl,hl3,hAR⟩; exact⟨by exact Le.trans (by assumption) (by assumption),(by exact .refl _)⟩)) ?_; rintro _ gz _ ⟨rfl,hl3,hAR⟩; obtain ⟨ss,hss⟩:=hA1; rw[hss] at hAR; obtain ⟨u9,p9,n9,c9,rfl,hu,hS⟩:=hAR; obtain ⟨pu,cu,rfl⟩:=hu.form; have hl23:=hl2.trans hl3; refine SX.u (i:=5) I kD (mV I) dC ?_; refine SX.u (i:=6) I kD (xT I I) dC ?_; refine SX.u (i:=7) I kD (xT I I) dC ?_; refine SX.u (i:=8) I kD (xT I I) dC ?_; refine SX.u (i:=9) I kD (xT I I) dC ?_)
   | (refine SB.o (i:=10) I (aL zk7) dC (.inr iR) ?_; rintro _ _ _ ⟨bv,rfl,rfl,rfl⟩)
   | (refine SB.o (i:=10) I (aL zk7) dC (.inr iR) ?_; rintro _ _ _ ⟨bv,rfl,rfl,rfl⟩)
   | (refine SB.on (i:=11) I (sK 0 ak I I I I I ⟨I,trivial⟩) (.inl dC) ?_; rintro _ _ _ ⟨rfl,rfl⟩; refine SX.u (i:=12) I kD (aS I) dC ?_; refine SX.u (i:=13) I kD (aS I) dC ?_; refine SX.u (i:=14) I kD (aS I) dC ?_)
   | refine zd5 3 10 kD ?_ ?_
   | refine zd5 4 10 kD ?_ ?_
   | refine zd4 10 kD ?_
   | refine zd4 11 kD ?_
   | refine zd4 4 kD ?_
   | refine zd4 3 kD ?_
   | (refine SX.nil kD ?_; exact za8 (bv,gz,⟨pu,W.length,cu⟩) sB I I ⟨hl23,hu⟩))
 rintro ⟨b13,g6,⟨p13,n13,c13⟩⟩ ⟨hle6,hW13⟩;dsimp only at hle6 hW13 ⊢;have hn13:=tw hW13;subst hn13;have hM6:=hM5.mono hle6;have hL6:=hL5.mono hle6;have hR6:=hR5.mono hle6;have hY6:=hY.mono hle6;refine SC.cut (ι:=Nat×PH×Sv) (fun i=>[(1,.slice pa acts.length ca),(2,.slice pb bcts.length cb),(3,pp b3 0),(7,vb true),(8,pp b8 0),(9,pp b9 0),(10,pp b10 0),(11,pp b11 0),(13,pp b13 0),(16,vi 0),(17,pp i.1 0),(20,vi 0)]) (fun i=>i.2.1) (fun i=>pt i.1 (.cells #[.slice i.2.2.p i.2.2.n i.2.2.c] 29 (0,0))::pt b13 (.cells #[.slice p13 W.length c13] 29 (0,0))::pt b11 (.cells #[.slice pY W.length cY] 29 (0,0))::pt b10 (.cells #[.slice pR R.length cR] 29 (0,0))::pt b9 (.cells #[.slice pL L.length cL] 29 (0,0))::pt b8 (.cells #[.slice pM M.length cM] 29 (0,0))::pt b3 (.cells #[vi kd,.slice p n c,vi y] 24 (0,0))::s) (fun i=>Le g6 i.2.1∧aj i.2.1 (.slice i.2.2.p i.2.2.n i.2.2.c) W) ?_ ?_
 ·refine SC.drawX [11] zd9 kR ?_;refine SX.q (i:=0) I kR (qV 2 aA ak I I I) dC (SX.q (i:=1) I kR (qV 4 aA ak I I I) dC (SX.q (i:=2) I kR (qV 3 aA ak I I I) dC ?_))
  repeat' (first
   | (refine SB.o (i:=3) I (SO.call call22 I (eK E g6 _ _ _ M L hM6 hL6 hmf fL.1 kM kL)) dC (.inr iR) ?_; rintro _ gx _ ⟨rfl,hl2,hes⟩; rw[hmr.canon,gL.rt.canon] at hes)
   | (refine SB.o (i:=3) I (SO.call call22 I (eK E g6 _ _ _ M L hM6 hL6 hmf fL.1 kM kL)) dC (.inr iR) ?_; rintro _ gx _ ⟨rfl,hl2,hes⟩; rw[hmr.canon,gL.rt.canon] at hes)
   | (refine SB.o (i:=4) I (SO.call call23 I (iU E gx _ _ _ R (cQ M L) (hR6.mono hl2) fR.1 hes (ya (mE gL.rt)) (by have:=gv hmr gL.rt; omega))) dC (.inr (by rintro _ gz _ ⟨rfl,hl3,hAR⟩; exact⟨by exact Le.trans (by assumption) (by assumption),(by exact .cons _ (.refl _))⟩)) ?_; rintro _ gz _ ⟨rfl,hl3,hAR⟩; obtain ⟨ss,hss⟩:=hA2; rw[hss] at hAR; obtain ⟨u9,p9,n9,c9,rfl,hu,hS⟩:=hAR; obtain ⟨pu,cu,rfl⟩:=hu.form; have hl23:=hl2.trans hl3; refine SX.u (i:=5) I kD (mV I) dC ?_; refine SX.u (i:=6) I kD (xT I I) dC ?_; refine SX.u (i:=7) I kD (xT I I) dC ?_; refine SX.u (i:=8) I kD (xT I I) dC ?_; refine SX.u (i:=9) I kD (xT I I) dC ?_)
   | (refine SB.o (i:=4) I (SO.call call23 I (iU E gx _ _ _ R (cQ M L) (hR6.mono hl2) fR.1 hes (ya (mE gL.rt)) (by have:=gv hmr gL.rt; omega))) dC (.inr (by rintro _ gz _ ⟨rfl,hl3,hAR⟩; exact⟨by exact Le.trans (by assumption) (by assumption),(by exact .refl _)⟩)) ?_; rintro _ gz _ ⟨rfl,hl3,hAR⟩; obtain ⟨ss,hss⟩:=hA2; rw[hss] at hAR; obtain ⟨u9,p9,n9,c9,rfl,hu,hS⟩:=hAR; obtain ⟨pu,cu,rfl⟩:=hu.form; have hl23:=hl2.trans hl3; refine SX.u (i:=5) I kD (mV I) dC ?_; refine SX.u (i:=6) I kD (xT I I) dC ?_; refine SX.u (i:=7) I kD (xT I I) dC ?_; refine SX.u (i:=8) I kD (xT I I) dC ?_; refine SX.u (i:=9) I kD (xT I I) dC ?_)
   | (refine SB.o (i:=10) I (aL zk7) dC (.inr iR) ?_; rintro _ _ _ ⟨bv,rfl,rfl,rfl⟩)
   | (refine SB.o (i:=10) I (aL zk7) dC (.inr iR) ?_; rintro _ _ _ ⟨bv,rfl,rfl,rfl⟩)
   | (refine SB.on (i:=11) I (sK 0 ak I I I I I ⟨I,trivial⟩) (.inl dC) ?_; rintro _ _ _ ⟨rfl,rfl⟩; refine SX.u (i:=12) I kD (aS I) dC ?_; refine SX.u (i:=13) I kD (aS I) dC ?_; refine SX.u (i:=14) I kD (aS I) dC ?_)
   | refine zd5 3 10 kD ?_ ?_
   | refine zd5 4 10 kD ?_ ?_
   | refine zd4 10 kD ?_
   | refine zd4 11 kD ?_
   | refine zd4 4 kD ?_
   | refine zd4 3 kD ?_
   | (refine SX.nil kD ?_; exact za8 (bv,gz,⟨pu,W.length,cu⟩) sB I I ⟨hl23,hu⟩))
 rintro ⟨b17,g7,⟨p17,n17,c17⟩⟩ ⟨hle7,hW17⟩;dsimp only at hle7 hW17 ⊢;have hn17:=tw hW17;subst hn17;have hY7:=hY6.mono hle7;have hW7:=hW13.mono hle7;refine sW I (lM I (yC I (lY I I I (SU.eq (v':=vb true) (eQ I I) (zd8 vb (zf5 I))) (yP I (lM I (yC I (lY I I I (SU.eq (v':=vb true) (eQ I I) (zd8 vb (zf5 I))) (yP I (lM I (SL.gq (gT I I I dC) (qV 1 aA ak I I I) dC (SL.gq (gT I I I dC) (qV 2 aA ak I I I) dC (SL.go (gT I I I dC) (SO.call call21 I (po E g7 _ _ _ W W hW7 hY7 fW fW)) dC ?_))))))))))));rintro _ _ _ ⟨rfl,rfl,rfl⟩;rw[show decide (aa W=aa W)=true from zf5 rfl];refine yP I (lM I (SL.gq (gT I I I dC) (qV 0 aA ak I I I) dC (SL.gq (gT I I I dC) (qV 2 aA ak I I I) dC (SL.go (gT I I I dC) (SO.call call21 I (po E g7 _ _ _ W W hW17 hY7 fW fW)) dC ?_))));rintro _ _ _ ⟨rfl,rfl,rfl⟩;rw[show decide (aa W=aa W)=true from zf5 rfl];refine yP I (aT I (rE (dR (s':=s) uR ?_)));exact za7 (.inl I) results7 I ⟨I,I,hle15.trans (hle6.trans hle7)⟩
end Go.Proofs.YtbbppeihhkhkcaaGreatDoor
