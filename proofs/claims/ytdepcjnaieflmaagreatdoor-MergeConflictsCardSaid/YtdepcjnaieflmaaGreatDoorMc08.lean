/- 8 -/
import Derived.Test.YtdepcjnaieflmaaGreatDoorMc07
import Derived.Test.YtdepcjnaieflmaaGreatDoorRows
import Derived.WalkKit
import Derived.ProofKit
import Derived.OpenShut
import Derived.ShutString
import Derived.ChangeOld
import Derived.Deep.Slices
import Derived.Lib.SmallJoins
import Derived.Laws.IdiomArrays
set_option linter.unusedSimpArgs false
set_option linter.unusedVariables false
namespace Go.Proofs.YtdepcjnaieflmaaGreatDoor
open _root_.Go.Proofs.Tryz _root_.Go.Proofs.YtdepcjnaieflmaaGreatDoor.Tryz
open Go Go.Sy Go.Pl Go.Proofs
set_option maxRecDepth 100000
set_option maxHeartbeats 2000000
theorem ef {l:List Cl}(h:(aG l).2=0):l.length≤4000∧(aa l).Pairwise (fun a b=>a.id<b.id)∧am l=aa l∧∀ x∈aa l,cN (am l) x=0:=by
 unfold aG at h;split at h
 ·exact absurd h dC
 ·rename_i hl;cases hc:iC (am l) (aa l) 0 with
  | some p=>rw[hc] at h;exact absurd h<|wh hc
  | none =>
   have c:=(lm hc).2;exact⟨oM,c,bQ c,mh hc⟩
theorem yj:∀ {l:List Int} {k:Nat} (h:k<l.length),l.Pairwise (· < ·)→lbI l l[k]=k:=by
 intro l;induction l with
 | nil=>intro k h;simp at h
 | cons a r ih =>
  intro k h f;obtain ⟨d,g⟩:=zk5.1 f;cases k with
  | zero =>
   unfold lbI;rw[List.length_eq_zero_iff,List.filter_eq_nil_iff];intro y b
   rcases zf3.1 b with rfl | b
   ·simp
   ·have:=d y b;simp;omega
  | succ k =>
   have e:k<r.length:=by simpa using h
   have c:=d r[k] (gM e);have:=ih e g;unfold lbI at this ⊢;simp[c,this]
theorem yR {tl:List Cl}(d:(tl.map Cl.id).Pairwise (· ≤ ·)){id:Int}(h:(ag tl id).isSome=true):atC tl id=lbI (tl.map Cl.id) id:=by
 obtain ⟨c,hc⟩:=zi1.1 h;have hm:(tl.map Cl.id).contains id=true:=by
  obtain ⟨a,b⟩:=aJ hc;simp;exact⟨c,a,b⟩
 unfold atC;rw[zg3 hm]
def cH (a b:List Cl):Bool:=!decide ((aG a).2=0) || !decide ((aG b).2=0)||decide (((am a).length:Int) * (am b).length>4000)
def cX (a b:List Cl):List Cl:=if cH a b then [] else if (aG<|dU a b).2=0 then aa (dU a b) else []
theorem nf {α β:Type}{l:List α}{i:Nat}(h:i<l.length)(f:α→List β):(l.take<|i+1).flatMap f=(l.take i).flatMap f++f l[i]:=by
 rw[tS h,List.flatMap_append];simp
theorem fo (E:World)(g:PH)(s:Own)(v u:Value)(a b:List Cl)(hv:ai g v a)(hu:ai g u b)(ha:aM a)(hb:aM b) :
  Ctr Tryz.prog E 73 #[.agg #[v],.agg #[u]] g s (fun r g' s'=>s=s'∧Le g g'∧∃ x,r = .agg #[x]∧ai g' x (cX a b)):=by
 obtain ⟨u6,u7,u8⟩:=hv.form;obtain ⟨u9,v0,v1⟩:=hu.form;have Z:¬ (aG a).2=0→cH a b=true:=fun h=>by simp[cH,h]
 have a0:(aG a).2=0→¬ (aG b).2=0→cH a b=true:=fun h Y=>by simp[cH,Y]
 have a1:(aG a).2=0→(aG b).2=0→cH a b=decide (((am a).length:Int) * (am b).length>4000):=fun h Y=>by simp[cH,h,Y]
 have n6:=ib a;have n7:=ib b;have i0:(aG a).2=0→(aG b).2=0→((am a).length:Int) * (am b).length≤16000000∧0≤((am a).length:Int) * (am b).length:=fun h Y=>wW (zk9 n6 (ef h).1)<|zk9 n7 (ef Y).1;refine zb2 (args:=[.agg #[v],.agg #[u]]) func73 I ntmps73 (bE I)<|rZ (bW (bO I) fun R=>?_);refine bW (bO I) fun S=>bW (aL zl3) fun T=>tZ<|rZ<|lK (qV 2 an ae I I I)<|lW (SO.call call52 I<|dV E g _ _ a hv ha) ?_;rintro _ g1 _ ⟨rfl,rfl,D⟩;refine aT I<|rZ<|lK (qV 1 an ae I I I)<|lW (SO.call call52 I<|dV E g1 _ _ b (hu.mono D) hb) ?_;rintro _ g2 _ ⟨rfl,rfl,H⟩;refine aT I<|rZ<|lK (qV 2 an ae I I I)<|lW (SO.call call54 I<|dw E g2 _ _ a (hv.mono<|D.trans H) ha) ?_;rintro v24 g3 _ ⟨rfl,U,hA⟩;refine aT I<|rZ<|lK (qV 1 an ae I I I)<|lW (SO.call call54 I<|dw E g3 _ _ b (hu.mono<|D.trans<|H.trans U) hb) ?_;rintro v26 g4 _ ⟨rfl,J,hB⟩;obtain ⟨N,K,b6⟩:=hA;have b7:=K.mono J;have O:=b6.mono fun _ _=>ak.mono J;obtain ⟨n,b8,P⟩:=hB;have eal:=O.length;have ebl:=P.length;obtain ⟨pa,ca,rfl⟩:=b7.form;obtain ⟨pb,cb,rfl⟩:=b8.form;refine aT I<|sQ<|SC.cutB 40 ((cH a b)) ?_ ?_
 ·refine rG<|lM I<|lU (SU.notP I)<|lM I<|sP ?_ ?_
  ·intro a2;exact yA I<|yA I<|yP I<|lM I<|yA I<|yA I<|yA I<|yA I<|yA I<|yA I<|yP I<|SL.nil<|zb1 (by (rw[Z a2];rfl)) mI
  ·intro a2;refine yC I<|lY I I I (SU.notP I)<|yF I<|lM I<|sP ?_ ?_
   ·intro b9;exact yA I<|yA I<|yA I<|yA I<|yA I<|yA I<|yP I<|SL.nil<|zb1 (by (rw[a0 (zh2 a2) b9];rfl)) mI
   ·intro b9;refine yC I<|lY I I I (eN aF I)<|yC I<|lY I I I (eN aF I)<|lY I I I (SU.mul I I (by have:=i0 (zh2 a2)<|zh2 b9;rw[eal,ebl] at this;omega)) ?_;refine lY I I I (gR I I)<|yF I<|SL.nil ?_;exact zb1 (by (rw[a1 (zh2 a2)<|zh2 b9,eal,ebl];rfl)) mI
 refine iQ I (fun p=>?_) (fun p=>?_)
 ·exact rZ<|lU (za3 I<|buildE29)<|oZ (sK 0 ae I I I I I sB)<|tZ<|rE<|tR<|ST.retCD 0 s (.inl I) results73 I an ae I I uR ⟨I,D.trans<|H.trans<|U.trans J,_,I,by unfold cX;rw[zg3 p];exact⟨[],zc1 _ _,trivial⟩⟩
 ·have K:(aG a).2=0:=zh2 fun h=>by rw[Z h] at p;cases p
  have c6:(aG b).2=0:=zh2 fun h=>by rw[a0 K h] at p;cases p
  have a3:((am a).length:Int) * (am b).length≤4000:=by rw[a1 K c6] at p;simp at p;omega
  obtain ⟨v2,a4,i1,e2⟩:=ef K;obtain ⟨v3,a5,i2,e4⟩:=ef c6;rw[← i1] at a4 e2;rw[← i2] at a5 e4;have c7:=fD a;have c9:=fD b;have n8:((am a).map Cl.id).Pairwise (· < ·):=zk6.2 a4;have o1:((am b).map Cl.id).Pairwise (· < ·):=zk6.2 a5;have e9:am a=aa a→am b=aa b→dU a b=(am a).flatMap fun x=>(am b).map (ee (am a) (am b) x):=fun h Y=>by unfold dU;rw[← h,← Y]
  have Q:=e9 i1 i2;have o2:ai g4 (.slice pa N.length ca) (am a):=⟨N,b7,O⟩;have p0:ai g4 (.slice pb n.length cb) (am b):=⟨n,b8,P⟩;refine kP (tN<|sW I<|lU (eN aF I)<|aT I<|rZ<|bW (aL zl3) fun B=>?_);refine tZ<|sQ<|rZ<|aT I<|bK<|zb6 37 3<|oP (ι:=PH×Value×List Rc×Nat) (fun i=>[(2,pp R 0),(3,pp S 0),(4,pp T 0),(7,.slice pa N.length ca),(8,.slice pb n.length cb),(9,vi n.length),(10,pp B 0),(11,vi i.2.2.2)]) (fun i=>i.1) (fun i=>rowA encCell 37 i.2.1 i.2.2.1::pt B (bY #[i.2.1] 29)::pt T (bY #[.slice none 0 0] 29)::pt S (bY #[u] 29)::pt R (bY #[v] 29)::s)
   (fun i=>Le g4 i.1∧i.2.2.2≤N.length∧ax (ak i.1) (((am a).take i.2.2.2).flatMap fun x=>(am b).map<|ee (am a) (am b) x) i.2.2.1) (fun i=>N.length - i.2.2.2)
   (g4,.slice none 0 0,[],0) sB rfl rfl ⟨zb9 g4,zf8 _,trivial⟩ ?_
  rintro ⟨g5,ov,i3,i⟩ ⟨t,hi,V⟩;dsimp only at t hi V ⊢;refine sQ<|sW I<|lM I<|lU (eN aF I)<|yL I<|tZ<|iP I (fun p1=>?_) (fun p1=>?_)
  ·have c0:i<(am a).length:=oM;have j0:i<N.length:=oM;have L:=b7.based oM;have p2:=O.get (List.getElem?_eq_getElem c0)<|List.getElem?_eq_getElem j0;have d0:N[((i:Nat):Int).toNat]?=some N[i]:=List.getElem?_eq_getElem j0;have p3:=gM c0;have j1:lbI ((am a).map Cl.id) (am a)[i].id=i:=by
    have:=yj (l:=(am a).map Cl.id) (k:=i) (by simpa using c0) n8;simpa using this
   have f7:=nf c0 fun x=>(am b).map<|ee (am a) (am b) x;generalize v4:(am a)[i]=x at *;obtain ⟨xp,d1,p5,p6⟩:=ec p2;rw[p5] at d0;have c1:=d0;have f8:=e2 x p3;have p7:=yq f8;have v5:=i9 f8;have j2:=mZ f8;refine kP<|tN<|sQ<|bK<|rZ<|aT I<|bK<|oP (ι:=PH×Value×List Rc×Nat) (fun k=>[(2,pp R 0),(3,pp S 0),(4,pp T 0),(7,.slice pa N.length ca),(8,.slice pb n.length cb),(9,vi n.length),(10,pp B 0),(11,vi i),(12,vi k.2.2.2)]) (fun k=>k.1) (fun k=>rowA encCell 37 k.2.1 k.2.2.1::pt B (bY #[k.2.1] 29)::pt T (bY #[.slice none 0 0] 29)::pt S (bY #[u] 29)::pt R (bY #[v] 29)::s)
    (fun k=>Le g5 k.1∧k.2.2.2≤n.length∧ax (ak k.1) ((((am a).take i).flatMap fun x=>(am b).map<|ee (am a) (am b) x)++((am b).take k.2.2.2).map (ee (am a) (am b) x)) k.2.2.1) (fun k=>n.length - k.2.2.2)
    (g5,ov,i3,0) sB rfl rfl ⟨zb9 g5,zf8 _,by simpa using V⟩ ?_
   rintro ⟨g6,A,d,k⟩ ⟨f,hk,C⟩;dsimp only at f hk C ⊢;refine sQ<|sW I<|lM I<|yL I<|tZ<|iP I (fun l0=>?_) (fun l0=>?_)
   ·have c2:k<(am b).length:=oM;have l1:k<n.length:=oM;have X:=b8.based oM;have p9:=P.get (List.getElem?_eq_getElem c2)<|List.getElem?_eq_getElem l1;have d2:n[((k:Nat):Int).toNat]?=some n[k]:=List.getElem?_eq_getElem l1;have q0:=gM c2;have l2:lbI ((am b).map Cl.id) (am b)[k].id=k:=by
     have:=yj (l:=(am b).map Cl.id) (k:=k) (by simpa using c2) o1;simpa using this
    have q1:((am b).take<|k+1).map (ee (am a) (am b) x)=((am b).take k).map (ee (am a) (am b) x)++[ee (am a) (am b) x (am b)[k]]:=by rw[tS c2,zg7];rfl
    generalize v6:(am b)[k]=y at *;obtain ⟨yp,d3,q2,q3⟩:=ec p9;rw[q2] at d2;have g9:=d2;have h0:=e4 y q0;have v7:=yq h0;have q4:=i9 h0;have l3:=mZ h0;have h5:=C.length;have t9:(i:Int) * n.length≤4000:=by
     have h1:(i:Int) * n.length≤(N.length:Int) * n.length:=Int.mul_le_mul_of_nonneg_right oM oM;rw[eal,ebl] at a3;omega
    have q5:0≤(i:Int) * n.length:=Int.mul_nonneg oM oM;have u0:d.length≤4000:=by
     have h1:d.length=i * n.length+k:=by
      rw[← h5,ze7,ze8,ze6,jn,ze6,← ebl];rw[Nat.min_eq_left oM,Nat.min_eq_left oM]
     have Y:i * n.length+k≤N.length * n.length:=by
      have h3:(i+1) * n.length≤N.length * n.length:=Nat.mul_le_mul_right _ oM;rw[Nat.succ_mul] at h3;omega
     have h4:((N.length * n.length:Nat):Int)≤4000:=by rw[eal,ebl] at a3;rw[Int.natCast_mul];exact a3
     omega
    have r0:aY (am a) (am b) x.id y.id=(i:Int) * n.length+k+1:=by unfold aY;rw[j1,l2,ebl]
    have W:=b7.mono<|t.trans f;have a9:=b8.mono<|t.trans f;have d4:=p6.mono<|t.trans f;have d5:=q3.mono<|t.trans f;refine kP<|tN<|sQ<|bK<|sQ<|dW [] [(0,2),(1,2),(2,2),(3,2),(4,2),(5,2),(6,2),(7,2),(8,2),(9,2),(10,1),(11,2),(12,2),(13,2),(14,2),(15,1),(16,2),(17,2),(18,0),(19,0)] ze5 kR<|yM I<|yM I<|pU I (SU.mul I I oM)<|yM I<|pU I (aD I I oM)<|pU I (aD I I oM)<|yM I<|yM I<|pU I (iA aF ar I I L oM sL)<|pU I (fC ao I zT3 I L)<|pK I (aZ (e:=encCell) (o:=1) (u:=vi x.dim) iT3 I W.rd c1 I)<|yM I<|yM I<|pU I (iA aF ar I I X oM sL)<|pU I (fC ao I zT3 I X)<|pK I (aZ (e:=encCell) (o:=1) (u:=vi y.dim) iT3 I a9.rd g9 I)<|pU I (aD I I oM)<|pU I (za3 I<|buildC37 _ _)<|SP.o I (aL zm2) dC (.inr iR) ?_;rintro _ _ _ ⟨G,rfl,rfl,rfl⟩;refine SP.on I (sK 0 ar I I I I I sB) (.inr iR) ?_;rintro _ _ _ ⟨rfl,rfl⟩;refine pN<|tN<|sQ<|rZ<|aT I<|bK ?_;refine SC.to (fun w hw=>?_) (g':=g6) (s':=pt G (bY #[vi<|aY (am a) (am b) x.id y.id,vi<|x.dim+y.dim,.slice none 0 0] 37)::rowA encCell 37 A d::pt B (bY #[A] 29)::pt T (bY #[.slice none 0 0] 29)::pt S (bY #[u] 29)::pt R (bY #[v] 29)::s) ?_
    ·rw[r0];exact hw
    refine zb6 80 2<|oP (ι:=Value×Nat) (fun j=>[(2,pp R 0),(3,pp S 0),(4,pp T 0),(7,.slice pa N.length ca),(8,.slice pb n.length cb),(9,vi n.length),(10,pp B 0),(11,vi i),(12,vi k),(13,pp G 0),(14,vi j.2)]) (fun _=>g6)
     (fun j=>rowA encSide 80 j.1 ((x.sides.take j.2).map fun q=>(⟨aY (am a) (am b) q.cell y.id,q.sign⟩:aj))::pt G (bY #[vi<|aY (am a) (am b) x.id y.id,vi<|x.dim+y.dim,j.1] 37)::rowA encCell 37 A d::pt B (bY #[A] 29)::pt T (bY #[.slice none 0 0] 29)::pt S (bY #[u] 29)::pt R (bY #[v] 29)::s)
     (fun j=>j.2≤x.sides.length) (fun j=>x.sides.length - j.2) (.slice none 0 0,0) sB rfl rfl (zf8 _) ?_
    rintro ⟨sv,j⟩ hj;dsimp only at hj ⊢;refine sQ<|sW I<|lM I<|lM I<|lU (iA aF ar I I L oM sL)<|lU (fC ao I aH I L)<|lK (aZ (e:=encCell) (o:=2) (u:=.slice xp x.sides.length d1) bi I W.rd c1 I)<|lU (eN a7 I)<|yL I<|tZ<|iP I (fun l4=>?_) (fun l4=>?_)
    ·have h6:j<x.sides.length:=oM;have h7:=d4.based oM;have r1:x.sides[((j:Nat):Int).toNat]?=some x.sides[j]:=List.getElem?_eq_getElem h6;have r2:(x.sides.take<|j+1).map (fun q=>(⟨aY (am a) (am b) q.cell y.id,q.sign⟩:aj))=(x.sides.take j).map (fun q=>(⟨aY (am a) (am b) q.cell y.id,q.sign⟩:aj))++[⟨aY (am a) (am b) x.sides[j].cell y.id,x.sides[j].sign⟩]:=by rw[tS h6,zg7];rfl
     have h8:=j2 _<|gM h6;generalize x.sides[j]=z at *;have b0:=yR c7 h8;have b1:=Et ((am a).map Cl.id) z.cell;rw[ze8] at b1;have b5:aY (am a) (am b) z.cell y.id=((lbI ((am a).map Cl.id) z.cell:Nat):Int) * n.length+k+1:=by unfold aY;rw[l2,ebl]
     have v8:((lbI ((am a).map Cl.id) z.cell:Nat):Int) * n.length≤4000:=by
      have h1:((lbI ((am a).map Cl.id) z.cell:Nat):Int) * n.length≤(N.length:Int) * n.length:=Int.mul_le_mul_of_nonneg_right oM oM;rw[eal,ebl] at a3;omega
     have u1:0≤((lbI ((am a).map Cl.id) z.cell:Nat):Int) * n.length:=Int.mul_nonneg oM oM;refine kP (tN<|sQ<|bK<|sW I<|lM I<|lU (iA aF ar I I L oM sL)<|lU (fC ao I aH I L)<|lK (aZ (e:=encCell) (o:=2) (u:=.slice xp x.sides.length d1) bi I W.rd c1 I)<|lM I<|lU (iA a7 aR I I h7 oM sL)<|lK (SQ.elemA iU aR I d4.rd r1)<|bW (aL zm1) fun r3=>?_);refine oZ (sK 0 aR I I I I I sB)<|tZ ?_;refine SC.to (fun w hw=>hw) (g':=g6) (s':=pt r3 (bY #[vi z.cell,vi z.sign] 80)::rowA encSide 80 sv ((x.sides.take j).map fun q=>(⟨aY (am a) (am b) q.cell y.id,q.sign⟩:aj))::pt G (bY #[vi<|aY (am a) (am b) x.id y.id,vi<|x.dim+y.dim,sv] 37)::rowA encCell 37 A d::pt B (bY #[A] 29)::pt T (bY #[.slice none 0 0] 29)::pt S (bY #[u] 29)::pt R (bY #[v] 29)::s) ?_;refine dW [15,16,17] [(0,2),(1,1),(2,2),(3,2),(4,1),(6,2),(8,2),(11,2),(12,1),(5,0),(7,2),(9,2),(10,2),(13,2),(14,0),(15,0),(16,0),(17,0)] ze5 kR<|pU I (fA ao I aH I)<|pK I (qL (v:=sv) bi I<|cO 2 I I)<|yM I<|pU I (fA de I zT3 I)<|pK I (qL (v:=vi z.cell) iT3 I<|cO 0 I I)<|yM I<|yM I<|pU I (fA de I zT3 I)<|pK I (qL (v:=vi z.sign) iT3 I<|cO 0 I I)<|SP.o I (SO.call call107 I<|ip E g6 _ _ (am a) z.cell (o2.mono<|t.trans f) oM c7) dC (.inr iR) ?_;rintro _ _ _ ⟨rfl,rfl,rfl⟩;rw[b0];refine pU I (SU.mul I I oM)<|pU I (aD I I oM)<|pU I (SU.eq (v':=vi<|aY (am a) (am b) z.cell y.id) (aD I I oM)<|ze4 vi b5.symm)<|pU I (za3 I<|buildS80 _ _)<|SP.o I (bS sty35 I I I (ab sB) dC) dC (.inr iR) ?_;rintro _ _ _ ⟨u2,rfl,rfl,rfl⟩;refine SP.o I (aP (e:=encSide) 1 ⟨aY (am a) (am b) z.cell y.id,z.sign⟩ sty35 I I I I I (by simp;omega) (by simp;omega)) dC (.inl dC) ?_;rintro sv' _ _ ⟨rfl,rfl⟩;rw[← r2];refine zd3 fun ⟨w0,M⟩=>?_;obtain ⟨q6,d6,rfl⟩:=ah (i:=1) M rfl;clear M w0;refine oU rfl (fA ao rfl aH rfl) dC (.inl dC)<|SP.on rfl (SO.store1 2 aH rfl rfl rfl rfl (bE rfl)<|by rfl) (.inl dC) ?_;rintro _ _ _ ⟨rfl,rfl⟩;refine pN<|bN<|tN<|rG<|lM I<|yD I<|lA I<|SL.nil<|dR (s':=rowA encSide 80 (.slice q6 ((x.sides.take<|j+1).map fun q=>(⟨aY (am a) (am b) q.cell y.id,q.sign⟩:aj)).length d6) ((x.sides.take<|j+1).map fun q=>(⟨aY (am a) (am b) q.cell y.id,q.sign⟩:aj))::pt G (bY #[vi<|aY (am a) (am b) x.id y.id,vi<|x.dim+y.dim,.slice q6 ((x.sides.take<|j+1).map fun q=>(⟨aY (am a) (am b) q.cell y.id,q.sign⟩:aj)).length d6] 37)::rowA encCell 37 A d::pt B (bY #[A] 29)::pt T (bY #[.slice none 0 0] 29)::pt S (bY #[u] 29)::pt R (bY #[v] 29)::s) (.cons _<|.refl _) ?_;exact ST.again (_,j+1) sB I I lN lN
    ·have r4:x.sides.take j=x.sides:=tL oM;rw[r4];generalize e0:x.sides.map (fun q=>(⟨aY (am a) (am b) q.cell y.id,q.sign⟩:aj))=fl1 at *;have r5:fl1.length=x.sides.length:=by rw[← e0,ze8]
     refine xI<|tX<|tX<|bX<|tN<|sQ<|rZ<|aT I<|bK<|oP (ι:=Value×Nat) (fun m=>[(2,pp R 0),(3,pp S 0),(4,pp T 0),(7,.slice pa N.length ca),(8,.slice pb n.length cb),(9,vi n.length),(10,pp B 0),(11,vi i),(12,vi k),(13,pp G 0),(16,vi m.2)]) (fun _=>g6)
      (fun m=>rowA encSide 80 m.1 (fl1++(y.sides.take m.2).map fun q=>(⟨aY (am a) (am b) x.id q.cell,dz x.dim * q.sign⟩:aj))::pt G (bY #[vi<|aY (am a) (am b) x.id y.id,vi<|x.dim+y.dim,m.1] 37)::rowA encCell 37 A d::pt B (bY #[A] 29)::pt T (bY #[.slice none 0 0] 29)::pt S (bY #[u] 29)::pt R (bY #[v] 29)::s)
      (fun m=>m.2≤y.sides.length) (fun m=>y.sides.length - m.2) (sv,0) sB rfl dO (zf8 _) ?_
     rintro ⟨c3,m⟩ hm;dsimp only at hm ⊢;refine sQ<|sW I<|lM I<|lM I<|lU (iA aF ar I I X oM sL)<|lU (fC ao I aH I X)<|lK (aZ (e:=encCell) (o:=2) (u:=.slice yp y.sides.length d3) bi I a9.rd g9 I)<|lU (eN a7 I)<|yL I<|tZ<|iP I (fun m1=>?_) (fun m1=>?_)
     ·have c5:m<y.sides.length:=oM;have h7:=d5.based oM;have r6:y.sides[((m:Nat):Int).toNat]?=some y.sides[m]:=List.getElem?_eq_getElem c5;have r7:fl1++(y.sides.take<|m+1).map (fun q=>(⟨aY (am a) (am b) x.id q.cell,dz x.dim * q.sign⟩:aj))=fl1++(y.sides.take m).map (fun q=>(⟨aY (am a) (am b) x.id q.cell,dz x.dim * q.sign⟩:aj))++[⟨aY (am a) (am b) x.id y.sides[m].cell,dz x.dim * y.sides[m].sign⟩]:=by rw[tS c5,zg7];simp
      have h8:=l3 _<|gM c5;have r8:=q4.2 _<|gM c5;generalize y.sides[m]=z at *;have b0:=yR c9 h8;have b1:=Et ((am b).map Cl.id) z.cell;rw[ze8] at b1;have b5:aY (am a) (am b) x.id z.cell=(i:Int) * n.length+((lbI ((am b).map Cl.id) z.cell:Nat):Int)+1:=by unfold aY;rw[j1,ebl]
      have m2:z.sign * dz x.dim=dz x.dim * z.sign:=Int.mul_comm _ _;have m3:=wG x.dim;have h9:x.dim.tmod 2=x.dim % 2:=Int.tmod_eq_emod_of_nonneg p7.1;have r9 : -1≤z.sign * dz x.dim∧z.sign * dz x.dim≤1:=by rcases r8 with h | h <;> rcases m3 with Y | Y <;> rw[h,Y] <;> decide
      refine kP (tN<|sQ<|bK<|sW I<|lM I<|lU (iA aF ar I I X oM sL)<|lU (fC ao I aH I X)<|lK (aZ (e:=encCell) (o:=2) (u:=.slice yp y.sides.length d3) bi I a9.rd g9 I)<|lM I<|lU (iA a7 aR I I h7 oM sL)<|lK (SQ.elemA iU aR I d5.rd r6)<|bW (aL zm1) fun s2=>?_);refine oZ (sK 0 aR I I I I I sB)<|tZ ?_;refine SC.to (fun w hw=>hw) (g':=g6) (s':=pt s2 (bY #[vi z.cell,vi z.sign] 80)::rowA encSide 80 c3 (fl1++(y.sides.take m).map fun q=>(⟨aY (am a) (am b) x.id q.cell,dz x.dim * q.sign⟩:aj))::pt G (bY #[vi<|aY (am a) (am b) x.id y.id,vi<|x.dim+y.dim,c3] 37)::rowA encCell 37 A d::pt B (bY #[A] 29)::pt T (bY #[.slice none 0 0] 29)::pt S (bY #[u] 29)::pt R (bY #[v] 29)::s) ?_;refine dW [24,25,26] [(0,2),(1,1),(2,2),(3,2),(4,2),(5,2),(6,2),(7,1),(11,2),(12,1),(13,2),(14,2),(15,2),(16,2),(17,1),(18,2),(19,2),(20,2),(21,2),(8,0),(9,2),(10,2),(22,2),(23,0),(24,0),(25,0),(26,0)] ze5 kR<|pU I (fA ao I aH I)<|pK I (qL (v:=c3) bi I<|cO 2 I I)<|yM I<|yM I<|pU I (SU.mul I I oM)<|yM I<|pU I (fA de I zT3 I)<|pK I (qL (v:=vi z.cell) iT3 I<|cO 0 I I)<|pU I (fA de I zT3 I)<|pK I (qL (v:=vi z.sign) iT3 I<|cO 0 I I)<|yM I<|yM I<|pU I (iA aF ar I I L oM sL)<|pU I (fC ao I zT3 I L)<|pK I (aZ (e:=encCell) (o:=1) (u:=vi x.dim) iT3 I W.rd c1 I)<|pU I (SU.eq (v':=vi<|x.dim % 2) (zd9 I I dC)<|ze4 vi h9)<|pU I (SU.mul I I oM)<|pU I (SU.eq (v':=vi<|dz x.dim) (sU I I oM) I)<|pU I (SU.eq (v':=vi<|dz x.dim * z.sign) (SU.mul I I oM)<|ze4 vi m2)<|SP.o I (SO.call call107 I<|ip E g6 _ _ (am b) z.cell (p0.mono<|t.trans f) oM c9) dC (.inr iR) ?_;rintro _ _ _ ⟨rfl,rfl,rfl⟩;rw[b0];refine pU I (aD I I oM)<|pU I (SU.eq (v':=vi<|aY (am a) (am b) x.id z.cell) (aD I I oM)<|ze4 vi b5.symm)<|pU I (za3 I<|buildS80 _ _)<|SP.o I (bS sty35 I I I (ab sB) dC) dC (.inr iR) ?_;rintro _ _ _ ⟨u3,rfl,rfl,rfl⟩;refine SP.o I (aP (e:=encSide) 1 ⟨aY (am a) (am b) x.id z.cell,dz x.dim * z.sign⟩ sty35 I I I I I (by simp;omega) (by simp;omega)) dC (.inl dC) ?_;rintro sv3 _ _ ⟨rfl,rfl⟩;rw[← r7];refine zd3 fun ⟨w0,M⟩=>?_;obtain ⟨q7,d7,rfl⟩:=ah (i:=1) M rfl;clear M w0;refine oU rfl (fA ao rfl aH rfl) dC (.inl dC)<|SP.on rfl (SO.store1 2 aH rfl rfl rfl rfl (bE rfl)<|by rfl) (.inl dC) ?_;rintro _ _ _ ⟨rfl,rfl⟩;refine pN<|bN<|tN<|rG<|lM I<|yD I<|lA I<|SL.nil<|dR (s':=rowA encSide 80 (.slice q7 (fl1++(y.sides.take<|m+1).map fun q=>(⟨aY (am a) (am b) x.id q.cell,dz x.dim * q.sign⟩:aj)).length d7) (fl1++(y.sides.take<|m+1).map fun q=>(⟨aY (am a) (am b) x.id q.cell,dz x.dim * q.sign⟩:aj))::pt G (bY #[vi<|aY (am a) (am b) x.id y.id,vi<|x.dim+y.dim,.slice q7 (fl1++(y.sides.take<|m+1).map fun q=>(⟨aY (am a) (am b) x.id q.cell,dz x.dim * q.sign⟩:aj)).length d7] 37)::rowA encCell 37 A d::pt B (bY #[A] 29)::pt T (bY #[.slice none 0 0] 29)::pt S (bY #[u] 29)::pt R (bY #[v] 29)::s) (.cons _<|.refl _) ?_;exact ST.again (_,m+1) sB I I lN lN
     ·have t0:y.sides.take m=y.sides:=tL oM;rw[t0];have t1:ee (am a) (am b) x y=⟨aY (am a) (am b) x.id y.id,x.dim+y.dim,fl1++y.sides.map fun q=>(⟨aY (am a) (am b) x.id q.cell,dz x.dim * q.sign⟩:aj)⟩:=by unfold ee;rw[e0]
      generalize u4:(fl1++y.sides.map fun q=>(⟨aY (am a) (am b) x.id q.cell,dz x.dim * q.sign⟩:aj))=m4 at *;refine xI (tX<|tX<|bX<|tN<|rG<|zd6 fun g7 F t2=>?_);have n0:SlA encSide g7 c3 m4:=t2;obtain ⟨q8,d8,rfl⟩:=za4 n0;obtain ⟨nc,n1⟩:∃ nc:Rc,nc=⟨aY (am a) (am b) x.id y.id,x.dim+y.dim,⟨q8,m4.length,d8⟩⟩:=⟨_,rfl⟩;refine lU (fA dA I cq I)<|lK (qL eG I<|cO 2 I I)<|lK (qV 0 dH ar I I I)<|lW (bS sty27 I I I (ab sB) dC) ?_;rintro _ _ _ ⟨u5,rfl,rfl,rfl⟩;refine lW (aP (e:=encCell) 1 nc sty27 I I I I (by rw[n1];rfl) oM oM) ?_;rintro v156 _ _ ⟨rfl,rfl⟩;refine zd4 fun ⟨w0,M⟩=>?_;obtain ⟨q9,d9,rfl⟩:=ah (i:=1) M rfl;clear M w0;refine lU (fA dA I cq I)<|oZ (sK 2 cq I I I I I sB)<|SL.nil<|bN<|tN<|rG<|lM I<|yD I<|lA I<|SL.nil<|dR (s':=rowA encCell 37 (.slice q9 (d++[nc]).length d9) (d++[nc])::pt B (.cells #[(.slice q9 (d++[nc]).length d9)] 29 (0,0))::pt T (bY #[.slice none 0 0] 29)::pt S (bY #[u] 29)::pt R (bY #[v] 29)::s) (.cons _<|.refl _)<|ST.again (g7,_,d++[nc],k+1) sB I I ⟨f.trans F,lN,?_⟩ lN;dsimp only;rw[q1,← zh1];exact (C.mono fun _ _=>ak.mono F).append ⟨(by rw[t1,n1];exact⟨I,I,n0⟩),trivial⟩
   ·have t3:(am b).take k=am b:=tL oM;rw[t3] at C;exact xI<|tX<|tX<|bX<|bN<|tN<|rG<|lM I<|yD I<|lA I<|SL.nil<|ST.again (g6,A,d,i+1) sB I I ⟨t.trans f,lN,by dsimp only;rw[f7];exact C⟩ lN
  ·have t4:(am a).take i=am a:=tL oM;rw[t4,← Q] at V;have v9:(dU a b).length≤4000:=by
    rw[Q,jn];have h4:(((am a).length * (am b).length:Nat):Int)≤4000:=by rw[Int.natCast_mul];exact a3
    omega
   have e1:aM (dU a b):=by
    refine⟨oM,fun c hc=>?_⟩;rw[Q] at hc;obtain ⟨x,hx,hc⟩:=List.mem_flatMap.1 hc;obtain ⟨y,hy,rfl⟩:=zf4.1 hc;have h1:=(i9<|e2 x hx).1;have Y:=(i9<|e4 y hy).1;simp[ee];omega
   refine xI (tX<|tX<|bX<|tN<|sQ<|fS fun g6 f t5=>?_);have n2:ai g6 ov (dU a b):=⟨i3,t5,V.mono fun _ _=>ak.mono f⟩;refine rG<|lK (qV 0 an ae I I I)<|lW (SO.call call52 I<|dV E g6 _ _ (dU a b) n2 e1) ?_;rintro _ g7 _ ⟨rfl,rfl,F⟩;refine aT I<|sQ<|sW I<|lU (SU.notP I)<|tZ<|iP I (fun hr=>?_) (fun hr=>?_)
   ·exact rZ<|lU (za3 I<|buildE29)<|oZ (sK 1 ae I I I I I sB)<|tZ<|rE<|tR<|ST.retCD 1 s (.inl I) results73 I an ae I I uR ⟨I,D.trans<|H.trans<|U.trans<|J.trans<|t.trans<|f.trans F,_,I,by unfold cX;rw[zg2 (by rw[p];simp),zg2 hr];exact⟨[],zc1 _ _,trivial⟩⟩
   ·refine kP<|tN<|rZ<|lK (qV 0 an ae I I I)<|lW (SO.call call77 I<|cd E g7 _ _ (dU a b) (n2.mono F) e1) ?_;rintro _ g8 _ ⟨rfl,n3,x8,rfl,n5⟩;obtain ⟨q8,d8,rfl⟩:=n5.form;exact oZ (sK 1 ae I I I I I sB)<|tZ<|rE<|ST.retCD 1 s (.inl I) results73 I an ae I I uR ⟨I,D.trans<|H.trans<|U.trans<|J.trans<|t.trans<|f.trans<|F.trans n3,_,I,by unfold cX;rw[zg2 (by rw[p];simp),zg3<|zh2 hr];exact n5⟩
end Go.Proofs.YtdepcjnaieflmaaGreatDoor
namespace Go.Sy
open Go
section
variable {P:Program}{N:Nat}{E:World}{ops:Array Oper}{Q:Exit→Act→World→Prop}{g0:PH}{s0:Own}{tail:List Nat}{f:Fr}{g g':PH}{s s':Own}{L:Array Bool}{n:Nat}
theorem SX.to (h:∀ w,At E g s w→At E g' s' w)(hc:SX P N E ops Q g0 s0 tail L n f g' s'):SX P N E ops Q g0 s0 tail L n f g s:=fun a w c b d e hb=>hc a w c b d (h w e) hb
theorem SX.facts (h:(∃ w,At E g s w)→SX P N E ops Q g0 s0 tail L n f g s):SX P N E ops Q g0 s0 tail L n f g s:=fun a w d b e c hb=>h ⟨w,c⟩ a w d b e c hb
theorem SX.freezeRow {T:TypeId}{k m:Nat}{v:Value}{xs:List Value}(h:∀ g',Le g g'→Sl g' k v m xs→SX P N E ops Q g0 s0 tail L n f g' s):SX P N E ops Q g0 s0 tail L n f g (row T k v m xs::s):=fun a w c b d e hb=>by
 obtain ⟨g',i,j,l⟩:=e.freezeRow;exact h g' i l a w c b d j hb
end
end Go.Sy
namespace Go.Proofs.YtdepcjnaieflmaaGreatDoor
open _root_.Go.Proofs.Tryz _root_.Go.Proofs.YtdepcjnaieflmaaGreatDoor.Tryz
open Go Go.Sy Go.Pl Go.Proofs
set_option maxRecDepth 100000
def oh (ls:List (List Int)):List (List Int):=(ls.take 5).map fun l=>(l.take 4).map fun x=>bV x 7
theorem gN {α β:Type}{l:List α}{i:Nat}(h:i<l.length)(f:α→β):(l.take<|i+1).map f=(l.take i).map f++[f l[i]]:=by
 rw[tS h,zg7];rfl
theorem l5 (E:World)(g:PH)(s:Own)(v:Value)(ls:List (List Int))(X:cQ g v ls) :
  Ctr Tryz.prog E 71 #[v] g s (fun r g' s'=>∃ rs,s'=rowA dQ 32 r rs::s∧Le g g'∧ax (dZ g') (oh ls) rs):=by
 obtain ⟨a,b,f⟩:=X;have K:=f.length;obtain ⟨p,c,rfl⟩:=za4 b;refine zb2 (args:=[.slice p a.length c]) func71 I ntmps71 (bE I)<|rZ<|aT I<|rZ<|aT I<|sQ<|rZ<|aT I<|bK<|zb6 32 1<|oP (ι:=PH×Value×List Sv×Nat) (fun i=>[(0,.slice p a.length c),(2,.slice none 0 0),(3,i.2.1),(4,vi i.2.2.2)]) (fun i=>i.1)
  (fun i=>rowA dQ 32 i.2.1 i.2.2.1::s)
  (fun i=>Le g i.1∧i.2.2.2≤a.length∧i.2.2.2≤5∧ax (dZ i.1) ((ls.take i.2.2.2).map fun l=>(l.take 4).map fun x=>bV x 7) i.2.2.1) (fun i=>a.length - i.2.2.2)
  (g,.slice none 0 0,[],0) sB rfl rfl ⟨zb9 g,zf8 _,zf8 _,trivial⟩ ?_
 rintro ⟨g1,L,rs,i⟩ ⟨d,Y,M,j⟩;dsimp only at d Y M j ⊢;have N:=j.length;rw[ze8,ze6] at N;have f1:(i:Int)<(a.length:Int)→(decide ((i:Int)<(a.length:Int))&&decide ((i:Int)<5))=decide ((i:Int)<5):=fun h=>by simp[h]
 have f2:¬ (i:Int)<(a.length:Int)→(decide ((i:Int)<(a.length:Int))&&decide ((i:Int)<5))=false:=fun h=>by simp only[h,decide_false,Bool.false_and]
 refine sQ<|SC.cutB 14 ((decide ((i:Int)<(a.length:Int))&&decide ((i:Int)<5))) ?_ ?_
 ·refine rG<|lM I<|lM I<|lU (eN eS I)<|yL I<|lM I<|sP ?_ ?_
  ·intro n;exact yC I<|lY I I I (lS I I)<|yP I<|SL.nil<|zb1 (by (rw[f1 n];rfl)) mI
  ·intro n;exact yA I<|yA I<|yF I<|SL.nil<|zb1 (by (rw[f2 n];rfl)) mI
 refine iQ I (fun hc=>?_) (fun hc=>?_)
 ·rw[zj5,zj8,zj8] at hc;have z:i<ls.length:=oM;have A:i<a.length:=oM;have B:=b.based oM;have V:=(f.get (List.getElem?_eq_getElem z)<|List.getElem?_eq_getElem A).mono d;have C:=V.len;have o:=gN z fun l=>(l.take 4).map fun x=>bV x 7;generalize hx:ls[i]=x at *;generalize hr:a[i]=r at *;obtain ⟨J,rn,rc⟩:=r;dsimp only at C;subst C;have D:dp g1 (.slice J x.length rc) x:=V;have F:a[((i:Nat):Int).toNat]?=some ⟨J,x.length,rc⟩:=by rw[← hr];exact List.getElem?_eq_getElem A
  refine kP<|tN<|sQ<|bK<|rZ<|aT I<|sQ<|rZ<|aT I<|bK<|zb6 3 1<|oP (ι:=Value×Nat) (fun k=>[(0,.slice p a.length c),(2,.slice none 0 0),(3,L),(4,vi i),(5,k.1),(6,vi k.2)]) (fun _=>g1)
   (fun k=>rowA encInt 3 k.1 ((x.take k.2).map fun x=>bV x 7)::rowA dQ 32 L rs::s)
   (fun k=>k.2≤x.length∧k.2≤4) (fun k=>x.length - k.2) (.slice none 0 0,0) sB rfl rfl ⟨zf8 _,zf8 _⟩ ?_
  rintro ⟨Z,k⟩ ⟨hk,O⟩;dsimp only at hk O ⊢;have f3:(k:Int)<(x.length:Int)→(decide ((k:Int)<(x.length:Int))&&decide ((k:Int)<4))=decide ((k:Int)<4):=fun h=>by simp[h]
  have f4:¬ (k:Int)<(x.length:Int)→(decide ((k:Int)<(x.length:Int))&&decide ((k:Int)<4))=false:=fun h=>by simp only[h,decide_false,Bool.false_and]
  refine sQ<|SC.cutB 27 ((decide ((k:Int)<(x.length:Int))&&decide ((k:Int)<4))) ?_ ?_
  ·refine rG<|lM I<|lM I<|lM I<|lU (iA eS fW I I B oM sL)<|lK (eB (u:=.slice J x.length rc) ic I (b.mono d).rd F I)<|lU (eN az I)<|yL I<|lM I<|sP ?_ ?_
   ·intro q;exact yC I<|lY I I I (lS I I)<|yP I<|SL.nil<|zb1 (by (rw[f3 q];rfl)) mI
   ·intro q;exact yA I<|yA I<|yF I<|SL.nil<|zb1 (by (rw[f4 q];rfl)) mI
  refine iQ I (fun t=>?_) (fun t=>?_)
  ·rw[zj5,zj8,zj8] at t;have G:k<x.length:=oM;have P:=za6 D oM;have Q:=gN G fun x=>bV x 7;have R:x[((k:Nat):Int).toNat]?=some x[k]:=List.getElem?_eq_getElem G;generalize x[k]=y at *;refine kP<|tN<|sQ<|bK<|rG<|lM I<|lM I<|lM I<|lU (iA eS fW I I B oM sL)<|lK (eB (u:=.slice J x.length rc) ic I (b.mono d).rd F I)<|lM I<|lU (iA az zT3 I I P oM sL)<|lK (eB iT3 I (za7 D) R I)<|lW (SO.call lP I<|bB E g1 _ y 7 dC) ?_;rintro _ _ _ ⟨rfl,rfl,rfl⟩;refine lW (bS sty32 I I I (ab sB) dC) ?_;rintro _ _ _ ⟨a0,rfl,rfl,rfl⟩;refine lW (aP (e:=encInt) 0 (bV y 7) sty32 I I I I I (by rw[ze8,ze6];omega) (by rw[ze8,ze6];omega)) ?_;rintro iv' _ _ ⟨rfl,rfl⟩;refine lA I<|SL.nil<|bN<|tN<|rG<|lM I<|yD I<|lA I<|SL.nil ?_;refine ST.to (fun w hw=>?_) (g':=g1) (s':=rowA encInt 3 iv' ((x.take<|k+1).map fun x=>bV x 7)::rowA dQ 32 L rs::s) ?_
   ·rw[Q];exact hw
   exact ST.again (iv',k+1) sB I I ⟨lN,lN⟩ lN
  ·have S:x.take k=x.take 4:=by
    rw[Bool.and_eq_false_iff,decide_eq_false_iff_not,decide_eq_false_iff_not] at t;by_cases h4:k=4
    ·rw[h4]
    ·rw[tL oM,tL oM]
   rw[S];refine xI (tX<|tX<|bX<|tN<|fS fun g2 m T=>?_);have H:dp g2 Z ((x.take 4).map fun x=>bV x 7):=T;obtain ⟨W,d2,rfl⟩:=za4 H;obtain ⟨nl,a1⟩:∃ nl,nl=((x.take 4).map fun x=>bV x 7).length:=⟨_,rfl⟩;refine rG<|lM I<|lM I<|lW (bS sty22 I I I (ab sB) dC) ?_;rintro _ _ _ ⟨a2,rfl,rfl,rfl⟩;refine lW (aP (e:=dQ) 0 ⟨W,((x.take 4).map fun x=>bV x 7).length,d2⟩ sty22 I I I I I oM oM) ?_;rintro ov' _ _ ⟨rfl,rfl⟩;refine lA I<|SL.nil<|bN<|tN<|rG<|lM I<|yD I<|lA I<|SL.nil<|ST.again (g2,ov',rs++[⟨W,((x.take 4).map fun x=>bV x 7).length,d2⟩],i+1) sB I I ⟨d.trans m,lN,lN,?_⟩ lN;dsimp only;rw[o];exact (j.mono fun _ _=>dZ.mono m).append ⟨H,trivial⟩
 ·have U:ls.take i=ls.take 5:=by
   rw[Bool.and_eq_false_iff,decide_eq_false_iff_not,decide_eq_false_iff_not] at hc;by_cases h5:i=5
   ·rw[h5]
   ·rw[tL oM,tL oM]
  rw[U] at j;exact xI<|tX<|tX<|bX<|tN<|sW I<|aT I<|rE<|za8 (.inl I) results71 I ⟨rs,I,d,j⟩
def eR (id k:Int):Int:=if k=1 then id else IntKind.i64.wrap ((IntKind.i64.wrap<|id * k).tmod 211+1)
theorem kA (E:World)(g:PH)(s:Own)(a k:Int):Ctr Tryz.prog E 118 #[vi a,vi k] g s
  (fun r g' s'=>r=vi (eR a k)∧g=g'∧s=s'):=by
 refine zb2 (args:=[vi a,vi k]) func118 I ntmps118 (bE I)<|rZ<|aT I<|sQ<|sW I<|yE I<|tZ<|iP I (fun b=>?_) (fun b=>?_)
 ·exact sW I<|aT I<|rE<|tR<|za8 (.inl I) results118 I ⟨by simp[eR,b],I,I⟩
 ·exact kP<|tN<|sW I<|lM I<|lU (SU.mulW I I)<|lU (zd9 I I dC)<|lU (ze2 I I)<|aT I<|rE<|za8 (.inl I) results118 I ⟨by simp[eR,b],I,I⟩
theorem o3 (E:World)(g:PH)(s:Own)(a k:Int)(b:k≠0):Ctr Tryz.prog E 119 #[vi a,vi k] g s
  (fun r g' s'=>r=vb (decide (a.tmod k=1))∧g=g'∧s=s'):=by
 exact zb2 (args:=[vi a,vi k]) func119 I ntmps119 (bE I)<|rZ<|aT I<|sW I<|lM I<|lU (zd9 I I oM)<|yE I<|aT I<|rE<|za8 (.inl I) results119 I ⟨I,I,I⟩
theorem ju:∀ (all ls:List (List Int)),all.length≤4000→(∀ x∈all,x.length≤9)→∀ r,aX all ls=some r→r.length≤4000∧∀ x∈r,x.length≤9
 | all,[],d,c,r,h=>by cases h;exact⟨d,c⟩
 | all,t::ls,d,c,r,h=>by
  unfold aX at h;split at h
  ·exact ju all ls d c r h
  ·rename_i hb;split at h
   ·cases h
   ·rename_i hl;refine ju _ ls oM (fun x b=>?_) r h
    rcases lp b with b | b
    ·exact c x b
    ·refine iH ?_ x b;cases e:dB t with
     | nil=>simp
     | cons a r =>
      rw[e] at hb;simp only[jz,zj6,zj8,not_or] at hb;omega
theorem eH (ls:List (List Int)):aM (dy ls)∧(dy ls).length≤4000:=by
 unfold dy;cases h:aX [] ls with
 | none=>exact⟨⟨by simp,by simp⟩,by simp⟩
 | some all =>
  obtain ⟨a,b⟩:=ju [] ls dO dO all h;have c:(aa<|be all).length≤4000:=by rw[aw,bL];exact a
  exact⟨aB<|kK a b,c⟩
theorem fk (a b:List Cl):aM (cX a b)∧(cX a b).length≤4000:=by
 unfold cX;split
 ·exact⟨⟨by simp,by simp⟩,by simp⟩
 ·rename_i d;split
  ·have n:(aG a).2=0:=zh2 fun h=>d (by simp[cH,h]);have hb:(aG b).2=0:=zh2 fun h=>d (by simp[cH,h]);have l:((am a).length:Int) * (am b).length≤4000:=by
    refine zh2 fun h=>d ?_;have:((am a).length:Int) * (am b).length>4000:=oM;simp[cH,this]
   obtain ⟨_,_,f,g⟩:=ef n;obtain ⟨_,_,i,j⟩:=ef hb;rw[← f] at g;rw[← i] at j;have e:dU a b=(am a).flatMap fun x=>(am b).map (ee (am a) (am b) x):=by unfold dU;rw[← f,← i]
   have m:(dU a b).length≤4000:=by
    rw[e,jn];have q:(((am a).length * (am b).length:Nat):Int)≤4000:=by rw[Int.natCast_mul];exact l
    omega
   have k:aM (dU a b):=by
    refine⟨oM,fun c hc=>?_⟩;rw[e] at hc;obtain ⟨x,o,hc⟩:=List.mem_flatMap.1 hc;obtain ⟨y,p,rfl⟩:=zf4.1 hc;have r:=(i9<|g x o).1;have s:=(i9<|j y p).1;simp[ee];omega
   exact⟨aB k,by rw[aw];exact m⟩
  ·exact⟨⟨by simp,by simp⟩,by simp⟩
def qr:List Cl:=cX (dy [[0,1],[1,2],[0,2]]) (dy [[0,1],[1,2],[0,2]])
theorem zq (E:World)(g:PH)(s:Own):Ctr Tryz.prog E 75 #[] g s (fun r g' s'=>s=s'∧Le g g'∧∃ u,r = .agg #[u]∧ai g' u qr):=by
 have p:=(eH [[0,1],[1,2],[0,2]]).1;refine zb2 (args:=[]) func75 I ntmps75 (bE I)<|rZ (bW (aL zl3) fun A=>?_);refine tZ<|rZ<|lW (bS sty32 I I I (ab sB) dC) ?_;rintro _ _ _ ⟨v,rfl,rfl,rfl⟩;refine zb5 fun g1 e k=>?_;refine lW (bS sty32 I I I (ab sB) dC) ?_;rintro _ _ _ ⟨w,rfl,rfl,rfl⟩;refine zb5 fun g2 c l=>?_;refine lW (bS sty32 I I I (ab sB) dC) ?_;rintro _ _ _ ⟨y,rfl,rfl,rfl⟩;refine zb5 fun g3 b m=>?_;refine lW (bS sty22 I I I (ab sB) dC) ?_;rintro _ _ _ ⟨z,rfl,rfl,rfl⟩;refine zb5 fun g4 a n=>?_;have f:cQ g4 (.slice (some ⟨z,0,none⟩) 3 3) [[0,1],[1,2],[0,2]]:=⟨[jA<|.slice (some ⟨v,0,none⟩) 2 2,jA<|.slice (some ⟨w,0,none⟩) 2 2,jA<|.slice (some ⟨y,0,none⟩) 2 2],SlA.lit n rfl rfl,⟨SlA.lit (a _ _<|b _ _<|c _ _ k) rfl rfl,SlA.lit (a _ _<|b _ _ l) rfl rfl,SlA.lit (a _ _ m) rfl rfl,trivial⟩⟩;refine lW (SO.call call70 I<|aU E g4 _ _ _ f dC dC) ?_;rintro _ g5 _ ⟨rfl,i,u,rfl,o⟩;obtain ⟨q,d,rfl⟩:=o.form;refine bW (aL zl3) fun B=>oZ (sK 0 ae I I I I I sB)<|tZ<|rZ<|lK (qV 0 an ae I I I)<|lK (qV 0 an ae I I I)<|lW (SO.call call73 I<|fo E g5 _ _ _ _ _ o o p p) ?_;rintro _ g6 _ ⟨rfl,j,x,rfl,t⟩;obtain ⟨C,d6,rfl⟩:=t.form;exact oZ (sK 1 ae I I I I I sB)<|tZ<|rE<|ST.retCD 1 s (.inl I) results75 I an ae I I uR ⟨I,e.trans<|c.trans<|b.trans<|a.trans<|i.trans j,_,I,t⟩
theorem zC (ls:List (List Int)):(oh ls).length≤5∧∀ x∈oh ls,x.length≤4:=by
 refine⟨by simp[oh];omega,fun x a=>?_⟩;obtain ⟨l,_,rfl⟩:=zf4.1 a;simp;omega
def FE:List (List Int):=[[0,1,2],[0,1,3],[0,2,3],[1,2,3]]
def FD:List (List Int):=[[0,1,2],[0,2,3],[0,3,4],[0,4,5],[0,1,5],[1,2,4],[2,3,5],[1,3,4],[2,4,5],[1,3,5]]
def vf (k:Nat):List (List Int):=(List.range k).flatMap fun (i:Nat)=>[[(i:Int),((i:Int)+1).tmod 7,((i:Int)+3).tmod 7],[(i:Int),((i:Int)+2).tmod 7,((i:Int)+3).tmod 7]]
def nh (n:Int):List (List Int):=if bV n 3=0 then FE else if bV n 3=1 then FD else vf 7
theorem qO (k:Nat):vf (k+1)=vf k++[[(k:Int),((k:Int)+1).tmod 7,((k:Int)+3).tmod 7],[(k:Int),((k:Int)+2).tmod 7,((k:Int)+3).tmod 7]]:=by
 simp[vf,List.range_succ,List.flatMap_append]
theorem j4 (k:Nat):(vf k).length=2 * k:=by
 induction k with
 | zero=>rfl
 | succ k ih=>rw[qO,ze7,ih];simp;omega
theorem nn (E:World)(g:PH)(s:Own)(n:Int):Ctr Tryz.prog E 72 #[vi n] g s (fun r g' s'=>s=s'∧Le g g'∧cQ g' r (nh n)):=by
 refine zb2 (args:=[vi n]) func72 I ntmps72 (bE I)<|rZ<|aT I<|sQ<|sW I<|lW (SO.call lP I<|bB E g _ n 3 dC) ?_;rintro _ _ _ ⟨rfl,rfl,rfl⟩;refine tZ<|bK<|rZ<|yE I<|aT I<|iP I (fun S=>?_) (fun S=>?_)
 ·refine rZ<|lW (bS sty32 I I I (ab sB) dC) ?_;rintro _ _ _ ⟨b9,rfl,rfl,rfl⟩;refine zb5 fun g1 q T=>?_;refine lW (bS sty32 I I I (ab sB) dC) ?_;rintro _ _ _ ⟨U,rfl,rfl,rfl⟩;refine zb5 fun g2 d v=>?_;refine lW (bS sty32 I I I (ab sB) dC) ?_;rintro _ _ _ ⟨V,rfl,rfl,rfl⟩;refine zb5 fun g3 f w=>?_;refine lW (bS sty32 I I I (ab sB) dC) ?_;rintro _ _ _ ⟨W,rfl,rfl,rfl⟩;refine zb5 fun g4 b x=>?_;refine lW (bS sty22 I I I (ab sB) dC) ?_;rintro _ _ _ ⟨X,rfl,rfl,rfl⟩;refine zb5 fun g5 j y=>?_;have p:cQ g5 (.slice (some ⟨X,0,none⟩) 4 4) FE:=⟨[jA<|.slice (some ⟨b9,0,none⟩) 3 3,jA<|.slice (some ⟨U,0,none⟩) 3 3,jA<|.slice (some ⟨V,0,none⟩) 3 3,jA<|.slice (some ⟨W,0,none⟩) 3 3],SlA.lit y rfl rfl,⟨SlA.lit (j _ _<|b _ _<|f _ _<|d _ _ T) rfl rfl,SlA.lit (j _ _<|b _ _<|f _ _ v) rfl rfl,SlA.lit (j _ _<|b _ _ w) rfl rfl,SlA.lit (j _ _ x) rfl rfl,trivial⟩⟩;exact aT I<|rE<|bR<|tR<|za8 (.inl I) results72 I ⟨I,(q.trans<|d.trans<|f.trans<|b.trans j),by unfold nh;rw[zg3 S];exact p⟩
 ·refine rZ<|yE I<|aT I<|iP I (fun Y=>?_) (fun Y=>?_)
  ·refine rZ<|lW (bS sty32 I I I (ab sB) dC) ?_;rintro _ _ _ ⟨Z,rfl,rfl,rfl⟩;refine zb5 fun g1 q z=>?_;refine lW (bS sty32 I I I (ab sB) dC) ?_;rintro _ _ _ ⟨a0,rfl,rfl,rfl⟩;refine zb5 fun g2 d A=>?_;refine lW (bS sty32 I I I (ab sB) dC) ?_;rintro _ _ _ ⟨a1,rfl,rfl,rfl⟩;refine zb5 fun g3 f B=>?_;refine lW (bS sty32 I I I (ab sB) dC) ?_;rintro _ _ _ ⟨a2,rfl,rfl,rfl⟩;refine zb5 fun g4 b C=>?_;refine lW (bS sty32 I I I (ab sB) dC) ?_;rintro _ _ _ ⟨a3,rfl,rfl,rfl⟩;refine zb5 fun g5 j D=>?_;refine lW (bS sty32 I I I (ab sB) dC) ?_;rintro _ _ _ ⟨a4,rfl,rfl,rfl⟩;refine zb5 fun g6 o F=>?_;refine lW (bS sty32 I I I (ab sB) dC) ?_;rintro _ _ _ ⟨a5,rfl,rfl,rfl⟩;refine zb5 fun g7 m G=>?_;refine lW (bS sty32 I I I (ab sB) dC) ?_;rintro _ _ _ ⟨a9,rfl,rfl,rfl⟩;refine zb5 fun g8 l H=>?_;refine lW (bS sty32 I I I (ab sB) dC) ?_;rintro _ _ _ ⟨b0,rfl,rfl,rfl⟩;refine zb5 fun g9 k J=>?_;refine lW (bS sty32 I I I (ab sB) dC) ?_;rintro _ _ _ ⟨b1,rfl,rfl,rfl⟩;refine zb5 fun g10 c K=>?_;refine lW (bS sty22 I I I (ab sB) dC) ?_;rintro _ _ _ ⟨b2,rfl,rfl,rfl⟩;refine zb5 fun g11 a L=>?_;have p:cQ g11 (.slice (some ⟨b2,0,none⟩) 10 10) FD:=⟨[jA<|.slice (some ⟨Z,0,none⟩) 3 3,jA<|.slice (some ⟨a0,0,none⟩) 3 3,jA<|.slice (some ⟨a1,0,none⟩) 3 3,jA<|.slice (some ⟨a2,0,none⟩) 3 3,jA<|.slice (some ⟨a3,0,none⟩) 3 3,jA<|.slice (some ⟨a4,0,none⟩) 3 3,jA<|.slice (some ⟨a5,0,none⟩) 3 3,jA<|.slice (some ⟨a9,0,none⟩) 3 3,jA<|.slice (some ⟨b0,0,none⟩) 3 3,jA<|.slice (some ⟨b1,0,none⟩) 3 3],SlA.lit L rfl rfl,⟨SlA.lit (a _ _<|c _ _<|k _ _<|l _ _<|m _ _<|o _ _<|j _ _<|b _ _<|f _ _<|d _ _ z) rfl rfl,SlA.lit (a _ _<|c _ _<|k _ _<|l _ _<|m _ _<|o _ _<|j _ _<|b _ _<|f _ _ A) rfl rfl,SlA.lit (a _ _<|c _ _<|k _ _<|l _ _<|m _ _<|o _ _<|j _ _<|b _ _ B) rfl rfl,SlA.lit (a _ _<|c _ _<|k _ _<|l _ _<|m _ _<|o _ _<|j _ _ C) rfl rfl,SlA.lit (a _ _<|c _ _<|k _ _<|l _ _<|m _ _<|o _ _ D) rfl rfl,SlA.lit (a _ _<|c _ _<|k _ _<|l _ _<|m _ _ F) rfl rfl,SlA.lit (a _ _<|c _ _<|k _ _<|l _ _ G) rfl rfl,SlA.lit (a _ _<|c _ _<|k _ _ H) rfl rfl,SlA.lit (a _ _<|c _ _ J) rfl rfl,SlA.lit (a _ _ K) rfl rfl,trivial⟩⟩;exact aT I<|rE<|bR<|tR<|za8 (.inl I) results72 I ⟨I,(q.trans<|d.trans<|f.trans<|b.trans<|j.trans<|o.trans<|m.trans<|l.trans<|k.trans<|c.trans a),by unfold nh;rw[zg2 S,zg3 Y];exact p⟩
  ·refine kP<|bN<|tN<|rZ<|aT I<|sQ<|rZ<|aT I<|bK<|zb6 32 1<|oP (ι:=PH×Value×List Sv×Nat) (fun i=>[(3,i.2.1),(4,vi i.2.2.2)]) (fun i=>i.1)
    (fun i=>rowA dQ 32 i.2.1 i.2.2.1::s)
    (fun i=>Le g i.1∧i.2.2.2≤7∧ax (dZ i.1) (vf i.2.2.2) i.2.2.1) (fun i=>7 - i.2.2.2)
    (g,.slice none 0 0,[],0) sB rfl rfl ⟨zb9 g,zf8 _,trivial⟩ ?_
   rintro ⟨g1,ov,rs,i⟩ ⟨u,hi,t⟩;dsimp only at u hi t ⊢;have b3:=t.length;rw[j4] at b3;refine sQ<|sW I<|yL I<|tZ<|iP I (fun b4=>?_) (fun b4=>?_)
   ·have M:i<7:=oM;refine kP<|tN<|sQ<|bK<|rG<|lM I<|lM I<|lM I<|yD I<|lU (zd9 I I dC)<|lM I<|yD I<|lU (zd9 I I dC)<|lW (bS sty32 I I I (ab sB) dC) ?_;rintro _ _ _ ⟨N,rfl,rfl,rfl⟩;refine zb5 fun g2 d O=>?_;refine lM I<|lM I<|yD I<|lU (zd9 I I dC)<|lM I<|yD I<|lU (zd9 I I dC)<|lW (bS sty32 I I I (ab sB) dC) ?_;rintro _ _ _ ⟨P,rfl,rfl,rfl⟩;refine zb5 fun g3 f Q=>?_;refine lW (bS sty22 I I I (ab sB) dC) ?_;rintro _ _ _ ⟨b5,rfl,rfl,rfl⟩;refine zb5 fun g4 b R=>?_;have p:SlA dQ g4 (.slice (some ⟨b5,0,none⟩) 2 2) [⟨some ⟨N,0,none⟩,3,3⟩,⟨some ⟨P,0,none⟩,3,3⟩]:=SlA.lit R rfl rfl;refine lW (aQ (e:=dQ) 0 sty22 I I I p lN lN) ?_;rintro ov' _ _ ⟨rfl,rfl⟩;refine lA I<|SL.nil<|bN<|tN<|rG<|lM I<|yD I<|lA I<|SL.nil<|ST.again (g4,ov',rs++[⟨some ⟨N,0,none⟩,3,3⟩,⟨some ⟨P,0,none⟩,3,3⟩],i+1) sB I I ⟨u.trans<|d.trans<|f.trans b,lN,?_⟩ lN;dsimp only;rw[qO];exact (t.mono fun _ _=>dZ.mono<|d.trans<|f.trans b).append ⟨SlA.lit (b _ _<|f _ _ O) I I,SlA.lit (b _ _ Q) I I,trivial⟩
   ·have M:i=7:=oM;subst M;refine xI (tX<|tX<|bX<|tN<|sQ<|fS fun g2 d b6=>?_);have b7:cQ g2 ov (vf 7):=⟨rs,b6,t.mono fun _ _=>dZ.mono d⟩;exact rG<|lM I<|aT I<|rE<|za8 (.inl I) results72 I ⟨I,u.trans d,by unfold nh;rw[zg2 S,zg2 Y];exact b7⟩
set_option maxHeartbeats 1000000
def my (k:Nat):List Cl:=(List.range k).map fun (i:Nat)=>⟨(i:Int)+1,0,[]⟩
def nj (n k:Nat):List Cl:=(List.range k).map fun (i:Nat)=>⟨(n:Int)+i+1,1,[⟨(i:Int)+1,-1⟩,⟨((i:Int)+1).tmod n+1,1⟩]⟩
def gK (n k:Nat):List aj:=(List.range k).map fun (i:Nat)=>⟨(n:Int)+i+1,1⟩
def eZ (n:Nat):List Cl:=my n++nj n n++[⟨2 * (n:Int)+1,2,gK n n⟩]++(if (n:Int).tmod 2=0 then [⟨2 * (n:Int)+2,2,gK n n⟩] else [])
def wQ (n:Nat):List Cl:=aa (eZ n)
theorem zM (k:Nat):my (k+1)=my k++[⟨(k:Int)+1,0,[]⟩]:=by simp[my,List.range_succ]
theorem zO (n k:Nat):nj n (k+1)=nj n k++[⟨(n:Int)+k+1,1,[⟨(k:Int)+1,-1⟩,⟨((k:Int)+1).tmod n+1,1⟩]⟩]:=by simp[nj,List.range_succ]
theorem zN (n k:Nat):gK n (k+1)=gK n k++[⟨(n:Int)+k+1,1⟩]:=by simp[gK,List.range_succ]
theorem j7 (n k:Nat):(gK n k).length=k:=by simp[gK]
theorem nq {n:Nat}(h:n≤6):aM (eZ n)∧(eZ n).length≤14:=by
 have hl:(eZ n).length≤14:=by
  unfold eZ;split <;> simp[my,nj] <;> omega
 refine⟨⟨oM,fun c hc=>?_⟩,hl⟩;unfold eZ at hc
 rcases zf5.1 hc with hc | hc
 ·rcases zf5.1 hc with hc | hc
  ·rcases zf5.1 hc with hc | hc
   ·obtain ⟨i,_,rfl⟩:=zf4.1 hc;simp
   ·obtain ⟨i,_,rfl⟩:=zf4.1 hc;simp
  ·simp at hc;subst hc;simp[j7];omega
 ·split at hc
  ·simp at hc;subst hc;simp[j7];omega
  ·simp at hc
theorem Tryz.buildD37 (x:Int)(w:World):(Instr.build 37 #[(0,vi x)]).run Tryz.prog w = .ok (.agg #[vi x,vi 0,.slice none 0 0]) w:=by
 have hz:(Value.agg #[vi 0,vi 0,Value.slice none 0 0]).cells = #[vi 0,vi 0,.slice none 0 0]:=rfl;have a:∀ z:Int,(vi z).cells = #[vi z]:=fun _=>rfl;simp[Instr.build,Instr.fill,hz,a]
theorem vD (E:World)(g:PH)(s:Own)(n:Nat)(h2:2≤n)(h6:n≤6) :
  Ctr Tryz.prog E 74 #[vi n] g s (fun r g' s'=>s=s'∧Le g g'∧∃ x,r = .agg #[x]∧ai g' x (wQ n)):=by
 have R:((n:Nat):Int)≠0:=oM;refine zb2 (args:=[vi n]) func74 I ntmps74 (bE I)<|rZ (bW (aL zl3) fun O=>?_);refine tZ (rZ<|bW (aL zl3) fun P=>?_);refine tZ<|sQ<|rZ<|aT I<|bK<|zb6 37 3<|oP (ι:=Value×List Rc×Nat) (fun i=>[(0,vi n),(2,pp O 0),(3,pp P 0),(4,vi i.2.2)]) (fun _=>g)
  (fun i=>rowA encCell 37 i.1 i.2.1::pt P (bY #[i.1] 29)::pt O (bY #[.slice none 0 0] 29)::s)
  (fun i=>i.2.2≤n∧ax (ak g) (my i.2.2) i.2.1) (fun i=>n - i.2.2)
  (.slice none 0 0,[],0) sB rfl rfl ⟨zf8 _,trivial⟩ ?_
 rintro ⟨ov,S,i⟩ ⟨hi,t⟩;dsimp only at hi t ⊢;have Y:=t.length;simp only[my,ze8,zi6] at Y;refine sQ<|sW I<|lM I<|yL I<|tZ<|iP I (fun Z=>?_) (fun Z=>?_)
 ·refine kP<|tN<|sQ<|bK<|rG<|lU (fA dA I cq I)<|lK (qL (v:=ov) eG I<|cO 1 I I)<|lM I<|yD I<|lU (za3 I<|buildD37 _)<|lW (bS sty27 I I I (ab sB) dC) ?_;rintro _ _ _ ⟨b4,rfl,rfl,rfl⟩;refine lW (aP (e:=encCell) 0 ⟨(i:Int)+1,0,⟨none,0,0⟩⟩ sty27 I I I I I oM oM) ?_;rintro v20 _ _ ⟨rfl,rfl⟩;refine zd4 fun ⟨K,c⟩=>?_;obtain ⟨Q,d9,rfl⟩:=ah (i:=0) c rfl;clear c K;refine lU (fA dA I cq I)<|oZ (sK 1 cq I I I I I sB)<|SL.nil<|bN<|tN<|rG<|lM I<|yD I<|lA I<|SL.nil<|ST.again (_,S++[⟨(i:Int)+1,0,⟨none,0,0⟩⟩],i+1) sB I I ⟨lN,?_⟩ lN;dsimp only;rw[zM];exact t.append ⟨⟨I,I,zc1 _ _⟩,trivial⟩
 ·have a0:i=n:=oM;subst a0;refine xI<|tX<|tX<|bX<|tN<|rZ<|aT I<|sQ<|rZ<|aT I<|bK<|zb6 80 2<|oP (ι:=PH×Value×List Rc×Value×Nat) (fun k=>[(0,vi i),(2,pp O 0),(3,pp P 0),(5,k.2.2.2.1),(6,vi k.2.2.2.2)]) (fun k=>k.1)
   (fun k=>rowA encSide 80 k.2.2.2.1 (gK i k.2.2.2.2)::rowA encCell 37 k.2.1 k.2.2.1::pt P (bY #[k.2.1] 29)::pt O (bY #[.slice none 0 0] 29)::s)
   (fun k=>Le g k.1∧k.2.2.2.2≤i∧ax (ak k.1) (my i++nj i k.2.2.2.2) k.2.2.1) (fun k=>i - k.2.2.2.2)
   (g,ov,S,.slice none 0 0,0) sB rfl rfl ⟨zb9 g,zf8 _,by simpa [nj] using t⟩ ?_
  rintro ⟨g1,G,b,sv,k⟩ ⟨u,hk,f⟩;dsimp only at u hk f ⊢;have T:=f.length;simp only[my,nj,ze7,ze8,zi6] at T;have b5:=j7 i k;refine sQ<|sW I<|lM I<|yL I<|tZ<|iP I (fun U=>?_) (fun U=>?_)
  ·have b6:0≤((k:Int)+1).tmod i∧((k:Int)+1).tmod i<i:=by
    rw[Int.tmod_eq_emod_of_nonneg oM];exact⟨Int.emod_nonneg _ R,Int.emod_lt_of_pos _ oM⟩
   refine kP (tN<|sQ<|bK<|sW I<|yD I<|lU (za3 I<|buildS80 _ _)<|bW (aL zm1) fun b7=>?_);refine oZ (sK 0 aR I I I I I sB)<|tZ (sW I<|yD I<|lM I<|lU (zd9 I I R)<|yD I<|lU (za3 I<|buildS80 _ _)<|bW (aL zm1) fun b8=>?_);refine oZ (sK 0 aR I I I I I sB)<|tZ<|sQ ?_;refine SC.to (fun w hw=>hw) (g':=g1) (s':=pt b8 (bY #[vi<|((k:Int)+1).tmod i+1,vi 1] 80)::pt b7 (bY #[vi<|(k:Int)+1,vi<|-1] 80)::rowA encSide 80 sv (gK i k)::rowA encCell 37 G b::pt P (bY #[G] 29)::pt O (bY #[.slice none 0 0] 29)::s) ?_;refine rG<|lU (fA dA I cq I)<|lK (qL (v:=G) eG I<|cO 4 I I)<|lM I<|lM I<|yD I<|yD I<|lK (qV 1 iU aR I I I)<|lK (qV 0 iU aR I I I)<|lW (bS sty35 I I I (ab sB) dC) ?_;rintro _ _ _ ⟨y,rfl,rfl,rfl⟩;refine zb5 fun g2 d V=>?_;have z:SlA encSide g2 (.slice (some ⟨y,0,none⟩) 2 2) [⟨(k:Int)+1,-1⟩,⟨((k:Int)+1).tmod i+1,1⟩]:=SlA.lit V rfl rfl;refine lU (za3 I<|buildF37 _ _ _ I)<|lW (bS sty27 I I I (ab sB) dC) ?_;rintro _ _ _ ⟨b9,rfl,rfl,rfl⟩;refine lW (aP (e:=encCell) 3 ⟨(i:Int)+k+1,1,⟨some ⟨y,0,none⟩,2,2⟩⟩ sty27 I I I I I oM oM) ?_;rintro v47 _ _ ⟨rfl,rfl⟩;refine zd4 fun ⟨K,c⟩=>?_;obtain ⟨Q,d9,rfl⟩:=ah (i:=3) c rfl;clear c K;refine lU (fA dA I cq I)<|oZ (sK 4 cq I I I I I sB)<|tZ<|rG<|lM I<|lM I<|lM I<|yD I<|yD I<|lU (za3 I<|buildS80 _ _)<|lW (bS sty35 I I I (ab sB) dC) ?_;rintro _ _ _ ⟨c0,rfl,rfl,rfl⟩;refine lW (aP (e:=encSide) 2 ⟨(i:Int)+k+1,1⟩ sty35 I I I I I oM oM) ?_;rintro v56 _ _ ⟨rfl,rfl⟩;refine lA I<|SL.nil<|bN<|tN<|rG<|lM I<|yD I<|lA I<|SL.nil<|dR (s':=rowA encSide 80 v56 (gK i k++[⟨(i:Int)+k+1,1⟩])::rowA encCell 37 (.slice Q (b++[(⟨(i:Int)+k+1,1,⟨some ⟨y,0,none⟩,2,2⟩⟩:Rc)]).length d9) (b++[⟨(i:Int)+k+1,1,⟨some ⟨y,0,none⟩,2,2⟩⟩])::pt P (.cells #[.slice Q (b++[(⟨(i:Int)+k+1,1,⟨some ⟨y,0,none⟩,2,2⟩⟩:Rc)]).length d9] 29 (0,0))::pt O (bY #[.slice none 0 0] 29)::s) (.cons _<|.cons _<|.refl _) ?_;rw[← zN];refine ST.again (g2,_,b++[⟨(i:Int)+k+1,1,⟨some ⟨y,0,none⟩,2,2⟩⟩],v56,k+1) sB I I ⟨u.trans d,lN,?_⟩ lN;dsimp only;rw[zO,← zh1];exact (f.mono fun _ _=>ak.mono d).append ⟨⟨I,I,z⟩,trivial⟩
  ·have a1:k=i:=oM;subst a1;refine xI (tX<|tX<|bX<|tN<|sQ<|fS fun g2 d a2=>?_);have z:SlA encSide g2 sv (gK k k):=a2;obtain ⟨qs,ds,rfl⟩:=za4 z;have L:=f.mono fun _ _=>ak.mono d;refine rG<|lU (fA dA I cq I)<|lK (qL (v:=G) eG I<|cO 1 I I)<|lM I<|lU (SU.mul I I oM)<|yD I<|lM I<|lU (za3 I<|buildF37 _ _ _ I)<|lW (bS sty27 I I I (ab sB) dC) ?_;rintro _ _ _ ⟨c1,rfl,rfl,rfl⟩;refine lW (aP (e:=encCell) 0 ⟨2 * (k:Int)+1,2,⟨qs,(gK k k).length,ds⟩⟩ sty27 I I I I I oM oM) ?_;rintro v65 _ _ ⟨rfl,rfl⟩;refine zd4 fun ⟨K,c⟩=>?_;obtain ⟨Q,d9,rfl⟩:=ah (i:=0) c rfl;clear c K;refine lU (fA dA I cq I)<|oZ (sK 1 cq I I I I I sB)<|tZ<|sQ<|sW I<|lU (zd9 I I dC)<|yE I<|tZ ?_;have m:ax (ak g2) (my k++nj k k++[⟨2 * (k:Int)+1,2,gK k k⟩]) (b++[⟨2 * (k:Int)+1,2,⟨qs,(gK k k).length,ds⟩⟩]):=L.append ⟨⟨rfl,rfl,z⟩,trivial⟩;obtain ⟨p,H⟩:∃ p,p=b++[(⟨2 * (k:Int)+1,2,⟨qs,(gK k k).length,ds⟩⟩:Rc)]:=⟨_,rfl⟩;have a3:p.length=b.length+1:=by rw[H];simp
   rw[← H] at m ⊢;have J:=(nq h6).1;refine iP I (fun M=>?_) (fun M=>?_)
   ·have A:eZ k=my k++nj k k++[⟨2 * (k:Int)+1,2,gK k k⟩]++[⟨2 * (k:Int)+2,2,gK k k⟩]:=by unfold eZ;rw[zg3 M]
    refine dW [10,11,12] [(0,2),(1,1),(2,2),(3,2),(4,2),(6,2),(5,0),(7,0),(8,2),(9,0),(10,0),(11,0),(12,0)] ze5 kR<|pU I (fA dA I cq I)<|pK I (qL (v:=.slice Q p.length d9) eG I<|cO 1 I I)<|yM I<|pU I (SU.mul I I oM)<|pU I (aD I I oM)<|yM I<|SP.o I (bS sty35 I I I (ab trivial) dC) dC (.inr iR) ?_;rintro _ _ _ ⟨a4,rfl,rfl,rfl⟩;refine SP.to (fun w hw=>(hw.sublist<|List.Sublist.cons _<|.refl _).emptyRow 80 2<|some ⟨a4,0,none⟩) ?_;refine SP.o I (aQ (e:=encSide) (l:=[]) 0 sty35 I I I z lN lN) dC (.inr iR) ?_;rintro v77 _ _ ⟨rfl,rfl⟩;refine SP.freezeRow fun a5 B W=>?_;have C:SlA encSide a5 v77 ([]++gK k k):=W;rw[List.nil_append] at C;obtain ⟨X,d77,rfl⟩:=za4 C;refine pU I (za3 I<|buildF37 _ _ _ I)<|SP.o I (bS sty27 I I I (ab sB) dC) dC (.inr iR) ?_;rintro _ _ _ ⟨c2,rfl,rfl,rfl⟩;refine SP.o I (aP (e:=encCell) (l:=p) 0 ⟨2 * (k:Int)+2,2,⟨X,(gK k k).length,d77⟩⟩ sty27 I I I I I oM oM) dC (.inl dC) ?_;rintro v80 _ _ ⟨rfl,rfl⟩;refine zd3 fun ⟨K,c⟩=>?_;obtain ⟨a9,d10,rfl⟩:=ah (i:=0) c rfl;clear c K;refine oU I (fA dA I cq I) dC (.inl dC)<|SP.on I (sK 1 cq I I I I I sB) (.inl dC) ?_;rintro _ _ _ ⟨rfl,rfl⟩;refine pN (tN<|sQ<|fS fun D a F=>?_);have N:ai D (.slice a9 (p++[(⟨2 * (k:Int)+2,2,⟨X,(gK k k).length,d77⟩⟩:Rc)]).length d10) (eZ k):=(by rw[A];exact⟨_,F,(m.mono fun _ _=>ak.mono<|B.trans a).append ⟨⟨I,I,C.mono a⟩,trivial⟩⟩);refine rG<|lK (qV 0 an ae I I I)<|lW (SO.call call77 I<|cd E D _ _ (eZ k) N J) ?_;rintro _ g79 _ ⟨rfl,q,b0,rfl,j⟩;obtain ⟨b1,d79,rfl⟩:=j.form;refine oZ (sK 1 ae I I I I I sB) ?_;refine tZ<|rE ?_;exact ST.retCD 1 s (.inl I) results74 I an ae I I uR ⟨I,u.trans<|d.trans<|B.trans<|a.trans q,_,I,j⟩
   ·have A:eZ k=my k++nj k k++[⟨2 * (k:Int)+1,2,gK k k⟩]:=by unfold eZ;rw[zg2 M,zc7]
    refine kP (tN<|sQ<|fS fun D a F=>?_);have N:ai D (.slice Q p.length d9) (eZ k):=(by rw[A];exact⟨_,F,m.mono fun _ _=>ak.mono a⟩);refine rG<|lK (qV 0 an ae I I I)<|lW (SO.call call77 I<|cd E D _ _ (eZ k) N J) ?_;rintro _ g79 _ ⟨rfl,q,b0,rfl,j⟩;obtain ⟨b1,d79,rfl⟩:=j.form;exact oZ (sK 1 ae I I I I I sB)<|tZ<|rE<|ST.retCD 1 s (.inl I) results74 I an ae I I uR ⟨I,u.trans<|d.trans<|a.trans q,_,I,j⟩
theorem dF (a b:Int)(c:0<b)(d:b≤1000):0≤bV a b∧bV a b<b:=by
 have e:a.tmod b<b:=Int.tmod_lt_of_pos a c;have f : -b<a.tmod b:=by
  have:=Int.lt_tmod_of_pos a c;omega
 unfold bV;rw[zl2 _ oM,Int.tmod_eq_emod_of_nonneg oM];exact⟨Int.emod_nonneg _ oM,Int.emod_lt_of_pos _ c⟩
def AD (y:Int):Int:=1+2 * bV (IntKind.i64.wrap<|y.tdiv 7) 3
def Fv (y:Int):Int:=bV (IntKind.i64.wrap<|y.tdiv 5) 4
def jx (t:Int)(x:Cl):Bool:=decide (t>1)&&decide (x.id.tmod t=1)
def jg (t:Int)(x:Cl)(q:Int):Bool:=(decide (t>1)&&decide (x.dim>1))&&decide (q.tmod t=1)
def vg (b:Bool)(a:Int):Int:=if b then IntKind.i64.wrap (0 - a) else a
def bl (k t:Int)(x:Cl)(q:aj):aj:=⟨eR q.cell k,vg (jg t x q.cell)<|vg (jx t x) q.sign⟩
def aK (k t:Int)(x:Cl):Cl:=⟨eR x.id k,x.dim,x.sides.map<|bl k t x⟩
def FT (l:List Cl)(y:Int):List Cl:=aa (l.map<|aK (AD y)<|Fv y)
theorem xW {l:List Cl}(h:aM l)(k t:Int):aM (l.map<|aK k t):=by
 refine⟨by simpa using h.1,fun c hc=>?_⟩;obtain ⟨x,a,rfl⟩:=zf4.1 hc;simpa [aK] using h.2 x a
theorem ko (E:World)(g:PH)(s:Own)(v:Value)(l:List Cl)(y:Int)(hv:ai g v l)(hf:aM l) :
  Ctr Tryz.prog E 76 #[.agg #[v],vi y] g s (fun r g' s'=>s=s'∧Le g g'∧∃ x,r = .agg #[x]∧ai g' x (FT l y)):=by
 obtain ⟨rs,P,O⟩:=hv;have el:=O.length;obtain ⟨p,c,rfl⟩:=P.form;have d0:=hf.1;have d1:=dF (IntKind.i64.wrap<|y.tdiv 7) 3 dC dC;have b3:=dF (IntKind.i64.wrap<|y.tdiv 5) 4 dC dC;refine zb2 (args:=[.agg #[.slice p rs.length c],vi y]) func76 I ntmps76 (bE I)<|rZ (bW (bO I) fun B=>?_);refine bW (aL zl3) fun C=>tZ<|sW I<|lU (SU.quo I I dC)<|lW (SO.call lP I<|bB E g _ _ 3 dC) ?_;rintro _ _ _ ⟨rfl,rfl,rfl⟩;refine lU (SU.mul I I oM)<|yD I<|aT I<|sW I<|lU (SU.quo I I dC)<|lW (SO.call lP I<|bB E g _ _ 4 dC) ?_;rintro _ _ _ ⟨rfl,rfl,rfl⟩;refine aT I (rZ<|bW (aL zl3) fun D=>?_);refine tZ<|sQ<|rZ<|aT I<|bK<|zb6 37 3 ?_;have b5:1+2 * bV (IntKind.i64.wrap<|y.tdiv 7) 3=AD y:=rfl;have Y:bV (IntKind.i64.wrap<|y.tdiv 5) 4=Fv y:=rfl;rw[Y] at b3;unfold FT;simp only[b5,Y];generalize AD y=k at *;generalize Fv y=t at *;refine oP (ι:=PH×Value×List Rc×Nat) (fun i=>[(2,pp B 0),(4,pp C 0),(5,vi k),(6,vi t),(7,pp D 0),(8,vi i.2.2.2)]) (fun i=>i.1) (fun i=>rowA encCell 37 i.2.1 i.2.2.1::pt D (bY #[i.2.1] 29)::pt C (bY #[.slice none 0 0] 29)::pt B (bY #[.slice p rs.length c] 29)::s)
  (fun i=>Le g i.1∧i.2.2.2≤rs.length∧ax (ak i.1) ((l.take i.2.2.2).map<|aK k t) i.2.2.1) (fun i=>rs.length - i.2.2.2)
  (g,.slice none 0 0,[],0) sB rfl rfl ⟨zb9 g,zf8 _,trivial⟩ ?_
 rintro ⟨g1,A,d,i⟩ ⟨H,hi,m⟩;dsimp only at H hi m ⊢;have b6:=m.length;rw[ze8,ze6] at b6;refine sQ<|sW I<|lU (fA dA I cq I)<|lK (qL (v:=.slice p rs.length c) eG I<|cO 3 I I)<|lU (eN aF I)<|yL I<|tZ<|iP I (fun b8=>?_) (fun b8=>?_)
 ·have Q:i<l.length:=oM;have Z:i<rs.length:=oM;have c0:=P.based oM;have c1:=(O.get (List.getElem?_eq_getElem Q)<|List.getElem?_eq_getElem Z).mono H;have a0:rs[((i:Nat):Int).toNat]?=some rs[i]:=List.getElem?_eq_getElem Z;have R:=gN Q<|aK k t;have d2:=hf.2 _<|gM Q;generalize d4:l[i]=x at *;obtain ⟨J,a,c2,M⟩:=ec c1;rw[c2] at a0;refine kP (tN<|sQ<|bK<|rZ<|lU (fA dA I cq I)<|lK (qL (v:=.slice p rs.length c) eG I<|cO 3 I I)<|lM I<|lU (iA aF ar I I c0 oM sL)<|lK (SQ.elemA dH ar I (P.mono H).rd a0)<|bW (aL zm2) fun G=>?_);refine oZ (sK 0 ar I I I I I sB)<|tZ ?_;refine SC.to (fun w hw=>hw) (g':=g1) (s':=pt G (bY #[vi x.id,vi x.dim,.slice J x.sides.length a] 37)::rowA encCell 37 A d::pt D (bY #[A] 29)::pt C (bY #[.slice none 0 0] 29)::pt B (bY #[.slice p rs.length c] 29)::s) ?_;refine SC.cut (ι:=Nat) (fun b=>[(2,pp B 0),(4,pp C 0),(5,vi k),(6,vi t),(7,pp D 0),(8,vi i),(9,pp G 0),(10,pp b 0)]) (fun _=>g1) (fun b=>pt b (bY #[vi<|eR x.id k,vi x.dim,.slice none 0 0] 37)::pt G (bY #[vi x.id,vi x.dim,.slice J x.sides.length a] 37)::rowA encCell 37 A d::pt D (bY #[A] 29)::pt C (bY #[.slice none 0 0] 29)::pt B (bY #[.slice p rs.length c] 29)::s) (fun _=>True) ?_ ?_
  ·refine SC.drawX [] ze5 kR ?_;refine SX.u (i:=0) I kR (fA ao I zT3 I) dC<|SX.q (i:=1) I kR (qL (v:=vi x.id) iT3 I<|cO 0 I I) dC<|SX.u (i:=2) I kR (mV I) dC<|SX.u (i:=4) I kR (fA ao I zT3 I) dC<|SX.q (i:=5) I kR (qL (v:=vi x.dim) iT3 I<|cO 0 I I) dC ?_
   repeat' (first
    | (refine SB.o (i:=3) I (SO.call call118 I<|kA E g1 _ x.id k) dC (.inr iR) ?_;rintro _ _ _ ⟨rfl,rfl,rfl⟩;refine SX.u (i:=6) I kD (za3 I<|buildC37 _ _) dC ?_)
    | (refine SB.o (i:=3) I (SO.call call118 I<|kA E g1 _ x.id k) dC (.inr iR) ?_;rintro _ _ _ ⟨rfl,rfl,rfl⟩;refine SX.u (i:=6) I kD (za3 I<|buildC37 _ _) dC ?_)
    | (refine SB.o (i:=7) I (aL zm2) dC (.inr iR) ?_;rintro _ _ _ ⟨b,rfl,rfl,rfl⟩)
    | (refine SB.on (i:=8) I (sK 0 ar I I I I I sB) (.inr iR) ?_;rintro _ _ _ ⟨rfl,rfl⟩)
    | refine zd8 3 7 kD ?_ ?_
    | refine zd7 7 kD ?_
    | refine zd7 8 kD ?_
    | refine zd7 3 kD ?_
    | (refine SX.nil kD ?_;exact za9 b sB I I trivial))
  rintro b -;try dsimp only
  refine zb6 80 2<|sQ<|rZ<|aT I<|bK<|oP (ι:=Value×Nat) (fun j=>[(2,pp B 0),(4,pp C 0),(5,vi k),(6,vi t),(7,pp D 0),(8,vi i),(9,pp G 0),(10,pp b 0),(11,vi j.2)]) (fun _=>g1) (fun j=>rowA encSide 80 j.1 ((x.sides.take j.2).map<|bl k t x)::pt b (bY #[vi<|eR x.id k,vi x.dim,j.1] 37)::pt G (bY #[vi x.id,vi x.dim,.slice J x.sides.length a] 37)::rowA encCell 37 A d::pt D (bY #[A] 29)::pt C (bY #[.slice none 0 0] 29)::pt B (bY #[.slice p rs.length c] 29)::s)
   (fun j=>j.2≤x.sides.length) (fun j=>x.sides.length - j.2) (.slice none 0 0,0) sB rfl rfl (zf8 _) ?_
  rintro ⟨sv,j⟩ hj;dsimp only at hj ⊢;refine sQ<|sW I<|lU (fA ao I aH I)<|lK (qL (v:=.slice J x.sides.length a) bi I<|cO 2 I I)<|lU (eN a7 I)<|yL I<|tZ<|iP I (fun a1=>?_) (fun a1=>?_)
  ·have a2:j<x.sides.length:=oM;have F:=M.based oM;have S:x.sides[((j:Nat):Int).toNat]?=some x.sides[j]:=List.getElem?_eq_getElem a2;have a3:=gN a2<|bl k t x;generalize x.sides[j]=z at *;refine kP<|tN<|sQ<|bK<|SC.cut (ι:=Nat) (fun f=>[(2,pp B 0),(4,pp C 0),(5,vi k),(6,vi t),(7,pp D 0),(8,vi i),(9,pp G 0),(10,pp b 0),(11,vi j),(12,pp f 0)]) (fun _=>g1) (fun f=>pt f (bY #[vi<|eR z.cell k,vi z.sign] 80)::rowA encSide 80 sv ((x.sides.take j).map<|bl k t x)::pt b (bY #[vi<|eR x.id k,vi x.dim,sv] 37)::pt G (bY #[vi x.id,vi x.dim,.slice J x.sides.length a] 37)::rowA encCell 37 A d::pt D (bY #[A] 29)::pt C (bY #[.slice none 0 0] 29)::pt B (bY #[.slice p rs.length c] 29)::s) (fun _=>True) ?_ ?_
   ·refine SC.drawX [] ze5 kR ?_;refine SX.u (i:=0) I kR (fA ao I aH I) dC<|SX.q (i:=1) I kR (qL (v:=.slice J x.sides.length a) bi I<|cO 2 I I) dC<|SX.u (i:=2) I kR (mV I) dC<|SX.u (i:=3) I kR (iA a7 aR I I F oM sL) dC<|SX.u (i:=4) I kR (fC de I zT3 I F) dC<|SX.q (i:=5) I kR (aZ (e:=encSide) (o:=0) (u:=vi z.cell) iT3 I M.rd S I) dC<|SX.u (i:=6) I kR (mV I) dC<|SX.u (i:=8) I kR (fA ao I aH I) dC<|SX.q (i:=9) I kR (qL (v:=.slice J x.sides.length a) bi I<|cO 2 I I) dC<|SX.u (i:=10) I kR (mV I) dC<|SX.u (i:=11) I kR (iA a7 aR I I F oM sL) dC<|SX.u (i:=12) I kR (fC de I zT3 I F) dC<|SX.q (i:=13) I kR (aZ (e:=encSide) (o:=1) (u:=vi z.sign) iT3 I M.rd S I) dC ?_
    repeat' (first
     | (refine SB.o (i:=7) I (SO.call call118 I<|kA E g1 _ z.cell k) dC (.inr iR) ?_;rintro _ _ _ ⟨rfl,rfl,rfl⟩;refine SX.u (i:=14) I kD (za3 I<|buildS80 _ _) dC ?_)
     | (refine SB.o (i:=7) I (SO.call call118 I<|kA E g1 _ z.cell k) dC (.inr iR) ?_;rintro _ _ _ ⟨rfl,rfl,rfl⟩;refine SX.u (i:=14) I kD (za3 I<|buildS80 _ _) dC ?_)
     | (refine SB.o (i:=15) I (aL zm1) dC (.inr iR) ?_;rintro _ _ _ ⟨f,rfl,rfl,rfl⟩)
     | (refine SB.on (i:=16) I (sK 0 aR I I I I I sB) (.inr iR) ?_;rintro _ _ _ ⟨rfl,rfl⟩)
     | refine zd8 7 15 kD ?_ ?_
     | refine zd7 15 kD ?_
     | refine zd7 16 kD ?_
     | refine zd7 7 kD ?_
     | (refine SX.nil kD ?_;exact za9 f sB I I trivial))
   rintro f -;try dsimp only
   have e1:t>1→jx t x=decide (x.id.tmod t=1):=fun h=>by simp[jx,h]
   have e2:¬ t>1→jx t x=false:=fun h=>by simp only[jx,h,decide_false,Bool.false_and]
   have e3:t>1→x.dim>1→jg t x z.cell=decide (z.cell.tmod t=1):=fun h h'=>by simp[jg,h,h']
   have e4:t>1→¬ x.dim>1→jg t x z.cell=false:=fun h h'=>by simp only[jg,h',decide_false,Bool.and_false,Bool.false_and]
   have e5:¬ t>1→jg t x z.cell=false:=fun h=>by simp only[jg,h,decide_false,Bool.false_and]
   refine SC.cut (ι:=Int) (fun _=>[(2,pp B 0),(4,pp C 0),(5,vi k),(6,vi t),(7,pp D 0),(8,vi i),(9,pp G 0),(10,pp b 0),(11,vi j),(12,pp f 0)]) (fun _=>g1) (fun sg=>pt f (bY #[vi<|eR z.cell k,vi sg] 80)::rowA encSide 80 sv ((x.sides.take j).map<|bl k t x)::pt b (bY #[vi<|eR x.id k,vi x.dim,sv] 37)::pt G (bY #[vi x.id,vi x.dim,.slice J x.sides.length a] 37)::rowA encCell 37 A d::pt D (bY #[A] 29)::pt C (bY #[.slice none 0 0] 29)::pt B (bY #[.slice p rs.length c] 29)::s) (fun sg=>sg=vg (jx t x) z.sign) ?_ ?_
   ·refine SC.cutB 69 ((jx t x)) ?_ ?_
    ·refine rG<|lM I<|lU (gR I I)<|lM I<|sP ?_ ?_
     ·intro T;refine lY I I I (fA ao I zT3 I)<|SL.gq (gT I I I dC) (qL (v:=vi x.id) iT3 I<|cO 3 I I) dC<|yC I<|ze3 (gT I I I dC) (SO.call call119 I<|o3 E g1 _ x.id t oM) dC ?_;rintro _ _ _ ⟨rfl,rfl,rfl⟩;exact yP I<|SL.nil<|zb1 (by (rw[e1 T];rfl)) mI
     ·intro T;exact yA I<|yA I<|yA I<|yA I<|yF I<|SL.nil<|zb1 (by (rw[e2 T];rfl)) mI
    refine iQ I (fun U=>?_) (fun U=>?_)
    ·refine rG<|lU (fA de rfl zT3 rfl)<|lK (qL (v:=vi z.sign) iT3 rfl<|cO 0 rfl rfl)<|lU (SU.neg rfl)<|lU (fA de rfl zT3 rfl)<|oZ (SO.store1 0 zT3 rfl rfl rfl rfl (bE rfl)<|by rfl) ?_;refine SL.nil ?_;exact za9 (IntKind.i64.wrap<|0 - z.sign) sB I I (by rw[U];rfl)
    ·exact kP<|za9 z.sign sB I I (by rw[U];rfl)
   rintro s1 c3;try dsimp only
   refine SC.cut (ι:=Int) (fun _=>[(2,pp B 0),(4,pp C 0),(5,vi k),(6,vi t),(7,pp D 0),(8,vi i),(9,pp G 0),(10,pp b 0),(11,vi j),(12,pp f 0)]) (fun _=>g1) (fun sg=>pt f (bY #[vi<|eR z.cell k,vi sg] 80)::rowA encSide 80 sv ((x.sides.take j).map<|bl k t x)::pt b (bY #[vi<|eR x.id k,vi x.dim,sv] 37)::pt G (bY #[vi x.id,vi x.dim,.slice J x.sides.length a] 37)::rowA encCell 37 A d::pt D (bY #[A] 29)::pt C (bY #[.slice none 0 0] 29)::pt B (bY #[.slice p rs.length c] 29)::s) (fun sg=>sg=vg (jg t x z.cell) s1) ?_ ?_
   ·refine SC.cutB 90 ((jg t x z.cell)) ?_ ?_
    ·refine rG<|lM I<|lU (gR I I)<|lM I<|sP ?_ ?_
     ·intro N;refine lY I I I (fA ao I zT3 I)<|SL.gq (gT I I I dC) (qL (v:=vi x.dim) iT3 I<|cO 3 I I) dC<|lY I I I (gR I I)<|yP I<|lM I<|sP ?_ ?_
      ·intro V;refine lY I I I (fA ao I aH I)<|SL.gq (gT I I I dC) (qL (v:=.slice J x.sides.length a) bi I<|cO 3 I I) dC<|yC I<|lY I I I (iA a7 aR I I F oM sL)<|lY I I I (fC de I zT3 I F)<|SL.gq (gT I I I dC) (aZ (e:=encSide) (o:=0) (u:=vi z.cell) iT3 I M.rd S I) dC<|yC I<|ze3 (gT I I I dC) (SO.call call119 I<|o3 E g1 _ z.cell t oM) dC ?_;rintro _ _ _ ⟨rfl,rfl,rfl⟩;exact yP I<|SL.nil<|zb1 (by (rw[e3 N V];rfl)) mI
      ·intro V;exact yA I<|yA I<|yA I<|yA I<|yA I<|yA I<|yA I<|yA I<|yF I<|SL.nil<|zb1 (by (rw[e4 N V];rfl)) mI
     ·intro N;exact yA I<|yA I<|yA I<|yF I<|lM I<|yA I<|yA I<|yA I<|yA I<|yA I<|yA I<|yA I<|yA I<|yF I<|SL.nil<|zb1 (by (rw[e5 N];rfl)) mI
    refine iQ I (fun W=>?_) (fun W=>?_)
    ·refine rG<|lU (fA de rfl zT3 rfl)<|lK (qL (v:=vi s1) iT3 rfl<|cO 0 rfl rfl)<|lU (SU.neg rfl)<|lU (fA de rfl zT3 rfl)<|oZ (SO.store1 0 zT3 rfl rfl rfl rfl (bE rfl)<|by rfl) ?_;refine SL.nil ?_;exact za9 (IntKind.i64.wrap<|0 - s1) sB I I (by rw[W];rfl)
    ·exact kP<|za9 s1 sB I I (by rw[W];rfl)
   rintro s2 K;try dsimp only
   have c5:bl k t x z=⟨eR z.cell k,s2⟩:=by unfold bl;rw[K,c3]
   rw[c5] at a3;have d5:((x.sides.take j).map<|bl k t x).length=j:=by rw[ze8,ze6];omega
   refine rG<|lU (fA ao I aH I)<|lK (qL (v:=sv) bi I<|cO 2 I I)<|lK (qV 0 iU aR I I I)<|lW (bS sty35 I I I (ab sB) dC) ?_;rintro _ _ _ ⟨d7,rfl,rfl,rfl⟩;refine lW (aP (e:=encSide) 1 ⟨eR z.cell k,s2⟩ sty35 I I I I I oM oM) ?_;rintro sv' _ _ ⟨rfl,rfl⟩;rw[← a3];refine zd4 fun ⟨w0,L⟩=>?_;obtain ⟨q6,d6,rfl⟩:=ah (i:=1) L rfl;clear L w0;refine lU (fA ao rfl aH rfl)<|oZ (SO.store1 2 aH rfl rfl rfl rfl (bE rfl)<|by rfl) ?_;refine SL.nil<|bN<|tN<|rG<|lM I<|yD I<|lA I<|SL.nil<|dR (s':=rowA encSide 80 (.slice q6 ((x.sides.take<|j+1).map<|bl k t x).length d6) ((x.sides.take<|j+1).map<|bl k t x)::pt b (bY #[vi<|eR x.id k,vi x.dim,(.slice q6 ((x.sides.take<|j+1).map<|bl k t x).length d6)] 37)::pt G (bY #[vi x.id,vi x.dim,.slice J x.sides.length a] 37)::rowA encCell 37 A d::pt D (bY #[A] 29)::pt C (bY #[.slice none 0 0] 29)::pt B (bY #[.slice p rs.length c] 29)::s) (.cons _<|.refl _) ?_;exact ST.again (_,j+1) sB I I lN lN
  ·have c6:x.sides.take j=x.sides:=tL oM;rw[c6];refine xI (tX<|tX<|bX<|tN<|fS fun g2 n K=>?_);have a4:SlA encSide g2 sv (x.sides.map<|bl k t x):=K;obtain ⟨q8,d8,rfl⟩:=za4 a4;obtain ⟨X,a5⟩:∃ X:Rc,X=⟨eR x.id k,x.dim,⟨q8,(x.sides.map<|bl k t x).length,d8⟩⟩:=⟨_,rfl⟩;refine rG<|lU (fA dA I cq I)<|lK (qL (v:=A) eG I<|cO 3 I I)<|lK (qV 0 dH ar I I I)<|lW (bS sty27 I I I (ab sB) dC) ?_;rintro _ _ _ ⟨c9,rfl,rfl,rfl⟩;refine lW (aP (e:=encCell) 2 X sty27 I I I I (by rw[a5];rfl) oM oM) ?_;rintro v105 _ _ ⟨rfl,rfl⟩;refine zd4 fun ⟨w0,L⟩=>?_;obtain ⟨q9,d9,rfl⟩:=ah (i:=2) L rfl;clear L w0;refine lU (fA dA I cq I)<|oZ (sK 3 cq I I I I I sB)<|SL.nil<|bN<|tN<|rG<|lM I<|yD I<|lA I<|SL.nil<|dR (s':=rowA encCell 37 (.slice q9 (d++[X]).length d9) (d++[X])::pt D (.cells #[(.slice q9 (d++[X]).length d9)] 29 (0,0))::pt C (bY #[.slice none 0 0] 29)::pt B (bY #[.slice p rs.length c] 29)::s) (.cons _<|.cons _<|.refl _)<|ST.again (g2,_,d++[X],i+1) sB I I ⟨H.trans n,lN,?_⟩ lN;dsimp only;rw[R];exact (m.mono fun _ _=>ak.mono n).append ⟨(by rw[a5];exact⟨I,I,a4⟩),trivial⟩
 ·have c7:l.take i=l:=tL oM;rw[c7] at m;refine xI (tX<|tX<|bX<|tN<|sQ<|fS fun g2 n K=>?_);have a9:ai g2 A (l.map<|aK k t):=⟨d,K,m.mono fun _ _=>ak.mono n⟩;obtain ⟨qo,e0,rfl⟩:=a9.form;refine rG<|lK (qV 0 an ae I I I)<|lW (SO.call call77 I<|cd E g2 _ _ _ a9<|xW hf k t) ?_;rintro _ g3 _ ⟨rfl,b0,x3,rfl,b1⟩;obtain ⟨q3,d3,rfl⟩:=b1.form;exact oZ (sK 1 ae I I I I I sB)<|tZ<|rE<|ST.retCD 1 s (.inl I) results76 I an ae I I uR ⟨I,H.trans<|n.trans b0,_,I,b1⟩
def wz (j:Int):List (List Int):=if j=0 then [[0,1]] else if j=1 then [[0,1],[1,2]] else [[0,1],[1,2],[0,2]]
def DO (j:Int)(a b c:Value):Value:=if j=0 then a else if j=1 then b else c
theorem xU {j:Int}(h:0≤j∧j<3)(a b c:Value) : #[a,b,c][0+j.toNat * 1]?=some (DO j a b c):=by
 rcases (by omega:j=0∨j=1∨j=2) with rfl | rfl | rfl <;> rfl
theorem o4 {g:PH}{j:Int}(h:0≤j∧j<3){a b c:Value}(d:cQ g a [[0,1]])(hb:cQ g b [[0,1],[1,2]])(hc:cQ g c [[0,1],[1,2],[0,2]]):cQ g (DO j a b c) (wz j):=by
 rcases (by omega:j=0∨j=1∨j=2) with rfl | rfl | rfl
 ·exact d
 ·exact hb
 ·exact hc
theorem jj (j:Int):(wz j).length≤3∧∀ x∈wz j,x.length≤2:=by
 unfold wz;split
 ·exact⟨by decide,by decide⟩
 ·split
  ·exact⟨by decide,by decide⟩
  ·exact⟨by decide,by decide⟩
theorem zu (y:Int):4≤(nh y).length∧(nh y).length≤14∧∀ x∈nh y,x.length≤3:=by
 unfold nh;split
 ·exact⟨by decide,by decide,by decide⟩
 ·split
  ·exact⟨by decide,by decide,by decide⟩
  ·refine⟨by rw[j4];decide,by rw[j4];decide,fun x a=>?_⟩;obtain ⟨i,_,a⟩:=List.mem_flatMap.1 a;simp at a
   rcases a with rfl | rfl <;> simp
def om (m:Int)(ls:List (List Int))(y:Int):List Cl :=
 if m=3 then dy (nh y) else if m=4 then cX (dy<|wz<|bV y 3) (dy<|wz<|bV (IntKind.i64.wrap<|y.tdiv 3) 3)
 else if m=5 then wQ (2+bV y 5).toNat else if m=6 then cX (cX (dy [[0,1]])<|dy [[0,1]]) (dy [[0,1]])
 else if m=7 then dy (oh ls++(nh y).take (2+bV y 2).toNat) else dy (oh ls)
theorem rS (m:Int)(ls:List (List Int))(y:Int):aM (om m ls y):=by
 unfold om;have a:=dF y 5 dC dC
 repeat' split
 ·exact (eH _).1
 ·exact (fk _ _).1
 ·exact aB (nq oM).1
 ·exact (fk _ _).1
 ·exact (eH _).1
 ·exact (eH _).1
def qz (b:List Cl):List Cl:=if (b.length:Int)>45 then qr else b
def jO (kd:Int)(ls:List (List Int))(y:Int):List Cl:=FT (qz<|om (bV kd 8) ls y) y
theorem CG {b:List Cl}(h:aM b):aM (qz b):=by
 unfold qz;split
 ·exact (fk _ _).1
 ·exact h
theorem rf (a:Int)(ls:List (List Int))(y:Int):aM (jO a ls y):=aB (xW (CG<|rS _ _ _) _ _)
theorem Tryz.build113 (a:Option Addr)(b c1:Nat)(c:Option Addr)(d c2:Nat)(e:Option Addr)(f g:Nat)(w:World):(Instr.build 113 #[(0,.slice a b c1),(1,.slice c d c2),(2,.slice e f g)]).run Tryz.prog w = .ok (.agg #[.slice a b c1,.slice c d c2,.slice e f g]) w:=by
 have hz:(Value.agg #[Value.slice none 0 0,Value.slice none 0 0,Value.slice none 0 0]).cells = #[.slice none 0 0,.slice none 0 0,.slice none 0 0]:=rfl;have i:(Value.slice a b c1).cells = #[.slice a b c1]:=rfl;have j:(Value.slice c d c2).cells = #[.slice c d c2]:=rfl;have k:(Value.slice e f g).cells = #[.slice e f g]:=rfl;simp[Instr.build,Instr.fill,hz,i,j,k]
theorem Cc (E:World)(g:PH)(s:Own)(v:Value)(k y:Int)(ls:List (List Int))(hv:cQ g v ls) :
  Ctr Tryz.prog E 22 #[.agg #[vi k,v,vi y]] g s (fun r g' s'=>s=s'∧Le g g'∧∃ x,r = .agg #[x]∧ai g' x (jO k ls y)):=by
 obtain ⟨p,n,c,rfl⟩:∃ p n c,v = .slice p n c:=by
  obtain ⟨h5,b0,_⟩:=hv;obtain ⟨p,c,rfl⟩:=za4 b0;exact⟨_,_,_,I⟩
 have h6:=dF k 8 dC dC;have b4:=dF y 3 dC dC;have a4:=dF (IntKind.i64.wrap<|y.tdiv 3) 3 dC dC;have h7:=dF y 5 dC dC;have h8:=dF y 2 dC dC;have Z:=zC ls;have b7:=zu y;unfold jO;have b8:=rS (bV k 8) ls y;refine zb2 (args:=[.agg #[vi k,.slice p n c,vi y]]) func22 I ntmps22 (bE I)<|rZ (bW (bO I) fun b1=>?_);refine bW (aL zl3) fun b2=>tZ (rZ<|bW (aL zl3) fun b3=>?_);refine tZ ?_;refine SC.to (fun w hw=>hw) (g':=g) (s':=pt b3 (bY #[.slice none 0 0] 29)::pt b2 (bY #[.slice none 0 0] 29)::pt b1 (bY #[vi k,.slice p n c,vi y] 24)::s) ?_;refine SC.cut (ι:=PH×Value) (fun _=>[(1,pp b1 0),(2,pp b2 0),(3,pp b3 0)]) (fun i=>i.1) (fun i=>pt b3 (bY #[i.2] 29)::pt b2 (bY #[.slice none 0 0] 29)::pt b1 (bY #[vi k,.slice p n c,vi y] 24)::s) (fun i=>Le g i.1∧ai i.1 i.2 (om (bV k 8) ls y)) ?_ ?_
 ·rcases (by omega:(bV k 8=0∨bV k 8=1∨bV k 8=2)∨bV k 8=3∨bV k 8=4∨bV k 8=5∨bV k 8=6∨bV k 8=7) with (hm | hm | hm) | hm | hm | hm | hm | hm
  ·refine rZ<|lU (fA mH I zT3 I)<|lK (qL (v:=vi k) iT3 I<|cO 2 I I)<|lW (SO.call lP I<|bB E g _ _ 8 dC) ?_;rintro _ _ _ ⟨rfl,rfl,rfl⟩;rw[hm];refine tZ<|bK<|sQ<|rZ<|yE I<|aT I<|za2 I<|kP<|tN<|za2 I<|rG<|lU (fA mH I sizeOf22 I)<|lK (qL (v:=.slice p n c) isAgg22 I<|cO 2 I I)<|lW (SO.call call71 I<|l5 E g _ _ ls hv) ?_;rintro v16 g1 _ ⟨R,rfl,f,j⟩;refine zd6 fun g2 b U=>?_;have F:cQ g2 v16 (oh ls):=⟨R,U,j.mono fun _ _=>dZ.mono b⟩;refine lW (SO.call call70 I<|aU E g2 _ _ _ F oM (fun x S=>by have:=Z.2 x S;omega)) ?_;rintro _ g3 _ ⟨rfl,a,u,rfl,G⟩;obtain ⟨q,d,rfl⟩:=G.form;exact oZ (sK 0 ae I I I I I sB)<|SL.nil<|bN<|za9 (g3,_) sB I I ⟨f.trans<|b.trans a,G⟩
  ·refine rZ<|lU (fA mH I zT3 I)<|lK (qL (v:=vi k) iT3 I<|cO 2 I I)<|lW (SO.call lP I<|bB E g _ _ 8 dC) ?_;rintro _ _ _ ⟨rfl,rfl,rfl⟩;rw[hm];refine tZ<|bK<|sQ<|rZ<|yE I<|aT I<|za1 I<|rZ<|yE I<|aT I<|za2 I<|kP<|tN<|za2 I<|rG<|lU (fA mH I sizeOf22 I)<|lK (qL (v:=.slice p n c) isAgg22 I<|cO 2 I I)<|lW (SO.call call71 I<|l5 E g _ _ ls hv) ?_;rintro v16 g1 _ ⟨R,rfl,f,j⟩;refine zd6 fun g2 b U=>?_;have F:cQ g2 v16 (oh ls):=⟨R,U,j.mono fun _ _=>dZ.mono b⟩;refine lW (SO.call call70 I<|aU E g2 _ _ _ F oM (fun x S=>by have:=Z.2 x S;omega)) ?_;rintro _ g3 _ ⟨rfl,a,u,rfl,G⟩;obtain ⟨q,d,rfl⟩:=G.form;exact oZ (sK 0 ae I I I I I sB)<|SL.nil<|bN<|za9 (g3,_) sB I I ⟨f.trans<|b.trans a,G⟩
  ·refine rZ<|lU (fA mH I zT3 I)<|lK (qL (v:=vi k) iT3 I<|cO 2 I I)<|lW (SO.call lP I<|bB E g _ _ 8 dC) ?_;rintro _ _ _ ⟨rfl,rfl,rfl⟩;rw[hm];refine tZ<|bK<|sQ<|rZ<|yE I<|aT I<|za1 I<|rZ<|yE I<|aT I<|za1 I<|rG<|yE I<|aT I<|za2 I<|rG<|lU (fA mH I sizeOf22 I)<|lK (qL (v:=.slice p n c) isAgg22 I<|cO 2 I I)<|lW (SO.call call71 I<|l5 E g _ _ ls hv) ?_;rintro v16 g1 _ ⟨R,rfl,f,j⟩;refine zd6 fun g2 b U=>?_;have F:cQ g2 v16 (oh ls):=⟨R,U,j.mono fun _ _=>dZ.mono b⟩;refine lW (SO.call call70 I<|aU E g2 _ _ _ F oM (fun x S=>by have:=Z.2 x S;omega)) ?_;rintro _ g3 _ ⟨rfl,a,u,rfl,G⟩;obtain ⟨q,d,rfl⟩:=G.form;exact oZ (sK 0 ae I I I I I sB)<|SL.nil<|bN<|za9 (g3,_) sB I I ⟨f.trans<|b.trans a,G⟩
  ·refine rZ<|lU (fA mH I zT3 I)<|lK (qL (v:=vi k) iT3 I<|cO 2 I I)<|lW (SO.call lP I<|bB E g _ _ 8 dC) ?_;rintro _ _ _ ⟨rfl,rfl,rfl⟩;rw[hm];refine tZ<|bK<|sQ<|rZ<|yE I<|aT I<|za1 I<|rZ<|yE I<|aT I<|za1 I<|rG<|yE I<|aT I<|za1 I<|rZ<|yE I<|aT I<|za2 I<|rG<|lU (fA mH I zT3 I)<|lK (qL (v:=vi y) iT3 I<|cO 2 I I)<|lW (SO.call call72 I<|nn E g _ y) ?_;rintro v22 g1 _ ⟨rfl,f,F⟩;refine lW (SO.call call70 I<|aU E g1 _ _ _ F oM (fun x S=>by have:=b7.2.2 x S;omega)) ?_;rintro _ g3 _ ⟨rfl,a,u,rfl,G⟩;obtain ⟨q,d,rfl⟩:=G.form;exact oZ (sK 0 ae I I I I I sB)<|SL.nil<|bN<|za9 (g3,_) sB I I ⟨f.trans a,G⟩
  ·refine rZ<|lU (fA mH I zT3 I)<|lK (qL (v:=vi k) iT3 I<|cO 2 I I)<|lW (SO.call lP I<|bB E g _ _ 8 dC) ?_;rintro _ _ _ ⟨rfl,rfl,rfl⟩;rw[hm];refine tZ<|bK<|sQ<|rZ<|yE I<|aT I<|za1 I<|rZ<|yE I<|aT I<|za1 I<|rG<|yE I<|aT I<|za1 I<|rZ<|yE I<|aT I<|za1 I<|rZ<|yE I<|aT I<|za2 I<|rZ<|lU (fA mH I zT3 I)<|lK (qL (v:=vi y) iT3 I<|cO 2 I I)<|lW (SO.call lP I<|bB E g _ _ 3 dC) ?_;rintro _ _ _ ⟨rfl,rfl,rfl⟩;refine aT I<|rZ<|lW (bS sty32 I I I (ab sB) dC) ?_;rintro _ _ _ ⟨d6,rfl,rfl,rfl⟩;refine zb5 fun g1 f b9=>?_;refine lW (bS sty22 I I I (ab ⟨I,trivial⟩) dC) ?_;rintro _ _ _ ⟨a0,rfl,rfl,rfl⟩;refine zb5 fun g2 b c0=>?_;have O:cQ g2 (.slice (some ⟨a0,0,none⟩) 1 1) [[0,1]]:=⟨[jA<|.slice (some ⟨d6,0,none⟩) 2 2],SlA.lit c0 rfl rfl,⟨SlA.lit (b _ _ b9) rfl rfl,trivial⟩⟩;refine lW (bS sty32 I I I (ab sB) dC) ?_;rintro _ _ _ ⟨d7,rfl,rfl,rfl⟩;refine zb5 fun g3 a c1=>?_;refine lW (bS sty32 I I I (ab sB) dC) ?_;rintro _ _ _ ⟨d8,rfl,rfl,rfl⟩;refine zb5 fun g4 z c2=>?_;refine lW (bS sty22 I I I (ab sB) dC) ?_;rintro _ _ _ ⟨a1,rfl,rfl,rfl⟩;refine zb5 fun g5 H c3=>?_;have P:cQ g5 (.slice (some ⟨a1,0,none⟩) 2 2) [[0,1],[1,2]]:=⟨[jA<|.slice (some ⟨d7,0,none⟩) 2 2,jA<|.slice (some ⟨d8,0,none⟩) 2 2],SlA.lit c3 rfl rfl,⟨SlA.lit (H _ _<|z _ _ c1) rfl rfl,SlA.lit (H _ _ c2) rfl rfl,trivial⟩⟩;refine lW (bS sty32 I I I (ab sB) dC) ?_;rintro _ _ _ ⟨d9,rfl,rfl,rfl⟩;refine zb5 fun g6 J c5=>?_;refine lW (bS sty32 I I I (ab sB) dC) ?_;rintro _ _ _ ⟨e0,rfl,rfl,rfl⟩;refine zb5 fun g7 D c6=>?_;refine lW (bS sty32 I I I (ab sB) dC) ?_;rintro _ _ _ ⟨e1,rfl,rfl,rfl⟩;refine zb5 fun g8 A c7=>?_;refine lW (bS sty22 I I I (ab sB) dC) ?_;rintro _ _ _ ⟨a2,rfl,rfl,rfl⟩;refine zb5 fun g9 t c9=>?_;have Q:cQ g9 (.slice (some ⟨a2,0,none⟩) 3 3) [[0,1],[1,2],[0,2]]:=⟨[jA<|.slice (some ⟨d9,0,none⟩) 2 2,jA<|.slice (some ⟨e0,0,none⟩) 2 2,jA<|.slice (some ⟨e1,0,none⟩) 2 2],SlA.lit c9 rfl rfl,⟨SlA.lit (t _ _<|A _ _<|D _ _ c5) rfl rfl,SlA.lit (t _ _<|A _ _ c6) rfl rfl,SlA.lit (t _ _ c7) rfl rfl,trivial⟩⟩;refine lU (za3 I<|build113 _ _ _ _ _ _ _ _ _) (bW (aL zeroValue113) fun b5=>?_);refine oZ (sK 0 sizeOf113 I I I I I sB)<|tZ ?_;have e2:=o4 b4 (O.mono<|a.trans<|z.trans<|H.trans<|J.trans<|D.trans<|A.trans t) (P.mono<|J.trans<|D.trans<|A.trans t) Q;have e4:=o4 a4 (O.mono<|a.trans<|z.trans<|H.trans<|J.trans<|D.trans<|A.trans t) (P.mono<|J.trans<|D.trans<|A.trans t) Q;refine SC.to (fun w hw=>hw) (g':=g9) (s':=pt b5 (bY #[.slice (some ⟨a0,0,none⟩) 1 1,.slice (some ⟨a1,0,none⟩) 2 2,.slice (some ⟨a2,0,none⟩) 3 3] 113)::pt b3 (bY #[.slice none 0 0] 29)::pt b2 (bY #[.slice none 0 0] 29)::pt b1 (bY #[vi k,.slice p n c,vi y] 24)::s) ?_;refine dW [12] [(0,2),(1,2),(2,1),(4,2),(5,1),(6,2),(3,0),(7,0),(8,2),(9,1),(10,0),(11,0),(12,0)] ze5 kR<|yM I<|pU I (iB underlying113 sizeOf22 I I oM oM)<|pK I (qL (v:=DO (bV y 3) (.slice (some ⟨a0,0,none⟩) 1 1) (.slice (some ⟨a1,0,none⟩) 2 2)<|.slice (some ⟨a2,0,none⟩) 3 3) isAgg22 I<|cO 0 I<|xU b4 _ _ _)<|pU I (fA mH I zT3 I)<|pK I (qL (v:=vi y) iT3 I<|cO 3 I I)<|pU I (SU.quo I I dC)<|SP.o I (SO.call call70 I<|aU E g9 _ _ _ e2 (by have:=(jj<|bV y 3).1;omega) (fun x S=>by have:=(jj<|bV y 3).2 x S;omega)) dC (.inr iR) ?_;rintro _ ga _ ⟨rfl,K,ua,rfl,M⟩;obtain ⟨qa,da,rfl⟩:=M.form;refine SP.o I (SO.call lP I<|bB E ga _ _ 3 dC) dC (.inr iR) ?_;rintro _ _ _ ⟨rfl,rfl,rfl⟩;refine pU I (iB underlying113 sizeOf22 I I oM oM)<|pK I (qL (v:=DO (bV (IntKind.i64.wrap<|y.tdiv 3) 3) (.slice (some ⟨a0,0,none⟩) 1 1) (.slice (some ⟨a1,0,none⟩) 2 2)<|.slice (some ⟨a2,0,none⟩) 3 3) isAgg22 I<|cO 0 I<|xU a4 _ _ _)<|SP.o I (SO.call call70 I<|aU E ga _ _ _ (e4.mono K) (by have:=(jj<|bV (IntKind.i64.wrap<|y.tdiv 3) 3).1;omega) (fun x S=>by have:=(jj<|bV (IntKind.i64.wrap<|y.tdiv 3) 3).2 x S;omega)) dC (.inr (by rintro _ gb _ ⟨rfl,C,ub,rfl,T⟩;exact⟨by exact Le.trans io io,(by exact .refl _)⟩)) ?_;rintro _ gb _ ⟨rfl,C,ub,rfl,T⟩;obtain ⟨qb,db,rfl⟩:=T.form;have e9:=K.trans C;refine SP.o rfl (SO.call call73 rfl<|fo E gb _ _ _ _ _ (M.mono C) T (eH _).1 (eH _).1) dC (.inr (by rintro _ gc _ ⟨rfl,L,uc,rfl,N⟩;exact⟨by exact Le.trans io io,(by exact .refl _)⟩)) ?_;rintro _ gc _ ⟨rfl,L,uc,rfl,N⟩;obtain ⟨qc,dc,rfl⟩:=N.form;refine SP.on I (sK 1 ae I I I I I sB) (.inl dC) ?_;rintro _ _ _ ⟨rfl,rfl⟩;refine pN<|bN<|dR (s':=pt b3 (bY #[(Value.slice qc _ dc)] 29)::pt b2 (bY #[.slice none 0 0] 29)::pt b1 (bY #[vi k,.slice p n c,vi y] 24)::s) (.cons _<|.refl _) ?_;exact za9 (gc,_) sB I I ⟨(f.trans<|b.trans<|a.trans<|z.trans<|H.trans<|J.trans<|D.trans<|A.trans t).trans<|K.trans<|C.trans L,N⟩
  ·refine rZ<|lU (fA mH I zT3 I)<|lK (qL (v:=vi k) iT3 I<|cO 2 I I)<|lW (SO.call lP I<|bB E g _ _ 8 dC) ?_;rintro _ _ _ ⟨rfl,rfl,rfl⟩;rw[hm];refine tZ<|bK<|sQ<|rZ<|yE I<|aT I<|za1 I<|rZ<|yE I<|aT I<|za1 I<|rG<|yE I<|aT I<|za1 I<|rZ<|yE I<|aT I<|za1 I<|rZ<|yE I<|aT I<|za1 I<|rZ<|yE I<|aT I<|za2 I<|rG<|lU (fA mH I zT3 I)<|lK (qL (v:=vi y) iT3 I<|cO 2 I I)<|lW (SO.call lP I<|bB E g _ _ 5 dC) ?_;rintro _ _ _ ⟨rfl,rfl,rfl⟩;refine lU (SU.eq (v':=vi (((2+bV y 5).toNat:Nat):Int)) (aD I I oM)<|ze4 vi oM)<|lW (SO.call call74 I<|vD E g _ (2+bV y 5).toNat oM oM) ?_;rintro _ g3 _ ⟨rfl,a,u,rfl,G⟩;obtain ⟨q,d,rfl⟩:=G.form;exact oZ (sK 0 ae I I I I I sB)<|SL.nil<|bN<|za9 (g3,_) sB I I ⟨a,G⟩
  ·refine rZ<|lU (fA mH I zT3 I)<|lK (qL (v:=vi k) iT3 I<|cO 2 I I)<|lW (SO.call lP I<|bB E g _ _ 8 dC) ?_;rintro _ _ _ ⟨rfl,rfl,rfl⟩;rw[hm];refine tZ<|bK<|sQ<|rZ<|yE I<|aT I<|za1 I<|rZ<|yE I<|aT I<|za1 I<|rG<|yE I<|aT I<|za1 I<|rZ<|yE I<|aT I<|za1 I<|rZ<|yE I<|aT I<|za1 I<|rZ<|yE I<|aT I<|za1 I<|rZ<|yE I<|aT I<|za2 I<|rZ<|lW (bS sty32 I I I (ab sB) dC) ?_;rintro _ _ _ ⟨f7,rfl,rfl,rfl⟩;refine zb5 fun g1 f d0=>?_;refine lW (bS sty22 I I I (ab ⟨I,trivial⟩) dC) ?_;rintro _ _ _ ⟨f8,rfl,rfl,rfl⟩;refine zb5 fun g2 b d1=>?_;have a3:cQ g2 (.slice (some ⟨f8,0,none⟩) 1 1) [[0,1]]:=⟨[jA<|.slice (some ⟨f7,0,none⟩) 2 2],SlA.lit d1 rfl rfl,⟨SlA.lit (b _ _ d0) rfl rfl,trivial⟩⟩;refine lW (SO.call call70 I<|aU E g2 _ _ _ a3 dC dC) ?_;rintro _ ga _ ⟨rfl,K,ua,rfl,M⟩;obtain ⟨qa,da,rfl⟩:=M.form;refine bW (aL zl3) fun b6=>oZ (sK 0 ae I I I I I sB)<|tZ ?_;refine SC.to (fun w hw=>hw) (g':=ga) (s':=pt b6 (.cells #[.slice qa (dy [[0,1]]).length da] 29 (0,0))::pt b3 (bY #[.slice none 0 0] 29)::pt b2 (bY #[.slice none 0 0] 29)::pt b1 (bY #[vi k,.slice p n c,vi y] 24)::s) ?_;refine dW [5] [(0,1),(1,1),(3,1),(2,0),(4,0),(5,0)] ze5 kR<|pK I (qV 0 an ae I I I)<|pK I (qV 0 an ae I I I)<|pK I (qV 0 an ae I I I)<|SP.o I (SO.call call73 I<|fo E ga _ _ _ _ _ M M (eH _).1 (eH _).1) dC (.inr iR) ?_;rintro _ gb _ ⟨rfl,C,ub,rfl,T⟩;obtain ⟨qb,db,rfl⟩:=T.form;refine SP.o rfl (SO.call call73 rfl<|fo E gb _ _ _ _ _ T (M.mono C) (fk _ _).1 (eH _).1) dC (.inr (by rintro _ gc _ ⟨rfl,L,uc,rfl,N⟩;exact⟨by exact Le.trans io io,(by exact .refl _)⟩)) ?_;rintro _ gc _ ⟨rfl,L,uc,rfl,N⟩;obtain ⟨qc,dc,rfl⟩:=N.form;refine SP.on I (sK 1 ae I I I I I sB) (.inl dC) ?_;rintro _ _ _ ⟨rfl,rfl⟩;refine pN<|bN<|dR (s':=pt b3 (bY #[(Value.slice qc _ dc)] 29)::pt b2 (bY #[.slice none 0 0] 29)::pt b1 (bY #[vi k,.slice p n c,vi y] 24)::s) (.cons _<|.refl _) ?_;exact za9 (gc,_) sB I I ⟨(f.trans b).trans<|K.trans<|C.trans L,N⟩
  ·refine rZ<|lU (fA mH I zT3 I)<|lK (qL (v:=vi k) iT3 I<|cO 2 I I)<|lW (SO.call lP I<|bB E g _ _ 8 dC) ?_;rintro _ _ _ ⟨rfl,rfl,rfl⟩;rw[hm];refine tZ<|bK<|sQ<|rZ<|yE I<|aT I<|za1 I<|rZ<|yE I<|aT I<|za1 I<|rG<|yE I<|aT I<|za1 I<|rZ<|yE I<|aT I<|za1 I<|rZ<|yE I<|aT I<|za1 I<|rZ<|yE I<|aT I<|za1 I<|rZ<|yE I<|aT I<|za1 I<|rZ<|yE I<|aT I<|za2 I<|dW [13] [(0,2),(1,1),(3,2),(4,1),(6,2),(7,1),(2,0),(5,0),(8,0),(9,2),(10,2),(11,0),(12,0),(13,0)] ze5 kR<|pU I (fA mH I sizeOf22 I)<|pK I (qL (v:=.slice p n c) isAgg22 I<|cO 2 I I)<|pU I (fA mH I zT3 I)<|pK I (qL (v:=vi y) iT3 I<|cO 2 I I)<|pU I (fA mH I zT3 I)<|pK I (qL (v:=vi y) iT3 I<|cO 2 I I)<|SP.o I (SO.call call71 I<|l5 E g _ _ ls hv) dC (.inr iR) ?_;rintro v72 g1 _ ⟨R,rfl,f,j⟩;refine SP.o rfl (SO.call call72 rfl<|nn E g1 _ y) dC (.inr (by rintro v75 g2 _ ⟨rfl,b,d4⟩;exact⟨by exact Le.trans io io,(by exact .cons _<|.refl _)⟩)) ?_;rintro v75 g2 _ ⟨rfl,b,d4⟩;obtain ⟨h9,V,W⟩:=d4;have h3:=W.length;have h4:=j.length;obtain ⟨q2,d2,rfl⟩:=za4 V;have h0:=(SlA.cap V).2;have a5:=SlA.cut V (l:=0) (m:=(2+bV y 2).toNat) (zf8 _) oM;rw[List.drop_zero,Nat.sub_zero] at a5;refine SP.o rfl (SO.call lP rfl<|bB E g2 _ _ 2 dC) dC (.inr (by rintro _ _ _ ⟨rfl,rfl,rfl⟩;exact⟨by exact Le.trans io io,(by exact .cons _<|.refl _)⟩)) ?_;rintro _ _ _ ⟨rfl,rfl,rfl⟩;refine pU I (aD I I oM)<|pU I (SU.sliceH eS fW I I oM oM)<|SP.o I (aQ (e:=dQ) 0 sty22 I I I a5 (by rw[ze6];omega) (by rw[ze6];omega)) dC (.inr (by rintro v81 _ _ ⟨rfl,rfl⟩;exact⟨by exact Le.trans io io,(by exact .cons _<|.refl _)⟩)) ?_;rintro v81 _ _ ⟨rfl,rfl⟩;refine SP.freezeRow fun g3 a h1=>?_;have F:cQ g3 v81 (oh ls++(nh y).take (2+bV y 2).toNat):=⟨_,h1,(j.mono fun _ _=>dZ.mono<|b.trans a).append ((ax.take _ W).mono fun _ _=>dZ.mono a)⟩;have h2:=f.trans<|b.trans a;refine SP.o I (SO.call call70 I<|aU E g3 _ _ _ F (by rw[ze7,ze6];omega) (fun x S=>by rcases zf5.1 S with h | h;(have:=Z.2 x h;omega);(have:=b7.2.2 x<|List.mem_of_mem_take h;omega))) dC (.inr (by rintro _ g4 _ ⟨rfl,z,u,rfl,G⟩;exact⟨by exact Le.trans io io,(by exact .refl _)⟩)) ?_;rintro _ g4 _ ⟨rfl,z,u,rfl,G⟩;obtain ⟨q,d,rfl⟩:=G.form;refine SP.on I (sK 0 ae I I I I I sB) (.inl dC) ?_;rintro _ _ _ ⟨rfl,rfl⟩;refine pN<|bN ?_;exact za9 (g4,_) sB I I ⟨f.trans<|b.trans<|a.trans z,G⟩
 rintro ⟨g1,bv⟩ ⟨f,a9⟩;dsimp only at f a9 ⊢;generalize hB:om (bV k 8) ls y=B at *;obtain ⟨qb,db,rfl⟩:=a9.form;refine sQ<|rZ<|lU (fA dA I cq I)<|lK (qL (v:=.slice qb B.length db) eG I<|cO 0 I I)<|lU (eN aF I)<|lU (gR I I)<|tZ<|iP I (fun X=>?_) (fun X=>?_)
 ·refine rG<|lW (SO.call call75 I<|zq E g1 _) ?_;rintro _ g2 _ ⟨rfl,b,ut,rfl,d5⟩;obtain ⟨qt,dt,rfl⟩:=d5.form;refine oZ (sK 0 ae I I I I I sB)<|tZ<|sQ ?_;refine SC.to (fun w hw=>hw) (g':=g2) (s':=pt b3 (bY #[(Value.slice qt qr.length dt)] 29)::pt b2 (bY #[.slice none 0 0] 29)::pt b1 (bY #[vi k,.slice p n c,vi y] 24)::s) ?_;refine rG<|lK (qV 0 an ae I I I)<|lU (fA mH I zT3 I)<|lK (qL (v:=vi y) iT3 I<|cO 2 I I)<|lW (SO.call call76 I<|ko E g2 _ _ qr y d5 (fk _ _).1) ?_;rintro _ g3 _ ⟨rfl,a,x3,rfl,Y⟩;obtain ⟨q3,d3,rfl⟩:=Y.form;exact oZ (sK 1 ae I I I I I sB)<|tZ<|rE<|ST.retCD 1 s (.inl I) results22 I an ae I I uR ⟨I,f.trans<|b.trans a,_,I,by unfold qz;rw[zg3 X];exact Y⟩
 ·refine kP<|tN<|sQ ?_;refine SC.to (fun w hw=>hw) (g':=g1) (s':=pt b3 (bY #[(Value.slice qb B.length db)] 29)::pt b2 (bY #[.slice none 0 0] 29)::pt b1 (bY #[vi k,.slice p n c,vi y] 24)::s) ?_;refine rG<|lK (qV 0 an ae I I I)<|lU (fA mH I zT3 I)<|lK (qL (v:=vi y) iT3 I<|cO 2 I I)<|lW (SO.call call76 I<|ko E g1 _ _ B y a9 b8) ?_;rintro _ g3 _ ⟨rfl,a,x3,rfl,Y⟩;obtain ⟨q3,d3,rfl⟩:=Y.form;exact oZ (sK 1 ae I I I I I sB)<|tZ<|rE<|ST.retCD 1 s (.inl I) results22 I an ae I I uR ⟨I,f.trans a,_,I,by unfold qz;rw[zg2 X];exact Y⟩
theorem wX (a b:Int)(c:0<b)(d:b≤1099511627776):0≤bV a b∧bV a b<b:=by
 have e:a.tmod b<b:=Int.tmod_lt_of_pos a c;have f : -b<a.tmod b:=by
  have:=Int.lt_tmod_of_pos a c;omega
 unfold bV;rw[zl2 _ oM,Int.tmod_eq_emod_of_nonneg oM];exact⟨Int.emod_nonneg _ oM,Int.emod_lt_of_pos _ c⟩
theorem sO (a:Int)(n:Nat)(b:0<n)(c:n≤1099511627776):bV a n=(((bV a n).toNat:Nat):Int)∧(bV a n).toNat<n:=by
 have:=wX a n oM oM;omega
set_option maxHeartbeats 2000000
open Go.ChangeShapes Go.WideShapes Go.ChangeAt Go.RowKit
set_option maxRecDepth 100000
def tm (W:World):PH:=fun b=>W.heap[b]?
def E0 (W:World):World:={ W with drawn:=0 }
theorem D4 (W:World):At (E0 W) (tm W) [] W:=⟨rfl,⟨rfl,zf8 _⟩,rfl,fun _ _ h=>h,by simp,by simp,List.Pairwise.nil⟩
theorem D5 {W W':World}{g:PH}{s:Own}(h:At (E0 W) g s W')(hl:Le (tm W) g):Below W.heap.size W W':=by
 have hb:∀ k,k<W.heap.size→W'.heap[k]?=W.heap[k]?:=fun k b=>by
  have a:W.heap[k]?=some W.heap[k]:=Array.getElem?_eq_getElem b;rw[a];exact h.known k _<|hl k _ a
 refine⟨h.os,h.tape.1,h.output,?_,hb⟩;refine zh2 fun hc=>?_;have a:=hb W'.heap.size oM;rw[Array.getElem?_eq_none<|Nat.le_refl _,Array.getElem?_eq_getElem oM] at a;cases a
theorem Ei {W:World}{a:Addr}{len cap:Nat}{xs:List Value}(hl:len≤cap)(u:xs.length=len)(hc:∀ i x,xs[i]?=some x→W.cell? (a.add i)=some x):Sl (tm W) 1 (.slice (some a) len cap) len xs:=by
 refine⟨some a,cap,I,⟨oM,hl⟩,fun k=>?_⟩;obtain ⟨b,o,sp⟩:=a;have n:0<xs.length:=List.length_pos_iff.2 k;have l:=hc 0 xs[0] (List.getElem?_eq_getElem n);have m:sp=none:=by simpa [Addr.add] using World.cell?_spot l
 subst m;have d:∀ i,(⟨b,o,none⟩:Addr).add i=⟨b,o+i,none⟩:=fun i=>by unfold Addr.add;split <;> simp_all
 simp only[d] at hc;have c:∀ i x,xs[i]?=some x→∃ cs T e,W.heap[b]?=some (.cells cs T e)∧cs[o+i]?=some x:=fun i x p=>by
  have g:=hc i x p;unfold World.cell? at g;split at g
  ·rename_i cs T e q;exact⟨cs,T,e,q,by simpa using g⟩
  ·cases g
 obtain ⟨cs,T,e,hb,_⟩:=c 0 xs[0] (List.getElem?_eq_getElem n);refine⟨b,o,cs,T,e,I,hb,fun j x r=>?_⟩;obtain ⟨cs',T',s,f,t⟩:=c j x r;rw[hb] at f;cases f;exact t
section
variable {H:Type}{enc:TypeId×Value→H}{W:World}{base:Nat}{spare:Nat→Bool}{hd:Bool}
theorem Tryz.cells3:Tryz.prog.cellsOf 3=1:=by kernel_rfl
theorem Tryz.cells32:Tryz.prog.cellsOf 32=1:=by kernel_rfl
theorem Tryz.cells24:Tryz.prog.cellsOf 24=3:=by kernel_rfl
theorem Fk {fuel:Nat}{v:Value}{x:DataW H×List MemPlace}(h:DataW.trod enc Tryz.prog W base spare hd fuel 32 [v]=some x):∃ (l:List Int) (r:Sv),v = .slice r.p r.n r.c∧dp (tm W) v l:=by
 rcases open_ints az uT3 cells3 h with ⟨b,_⟩ | ⟨a,len,cap,zs,b,_,hl,_,hz,_,e,_⟩
 ·simp at b;subst b;exact⟨[],⟨none,0,0⟩,I,zc1 _ _⟩
 ·simp at b;subst b;have j:len≤zs.length:=by rw[hz];split <;> omega
  have d:(zs.take len).length=len:=by rw[ze6];omega
  have k:(zs.take len).flatMap encInt.enc=(zs.take len).map vi:=by
   rw[List.flatMap_def];induction zs.take len with
   | nil=>rfl
   | cons y t ih=>simp[encInt] at ih ⊢;exact ih
  refine⟨zs.take len,⟨some a,len,cap⟩,I,?_⟩;show Sl (tm W) 1 _ (zs.take len).length ((zs.take len).flatMap encInt.enc);rw[k,d];refine Ei hl (by rw[ze8,d]) fun i y f=>?_;rw[zi2] at f;cases hc:(zs.take len)[i]? with
  | none=>rw[hc] at f;cases f
  | some z =>
   rw[hc] at f;cases f;have m:i<(zs.take len).length:=(zf7.1 hc).1;have g:i<zs.length:=oM;rw[e i g];have:zs.getD i 0=z:=by
    rw[zi3] at hc;split at hc
    ·rw[zh3,hc];rfl
    ·cases hc
   rw[this]
theorem yZ {α β γ:Type}{R:α→β→Prop}{f:γ→α}{k:γ→β}:∀ {l:List γ},(∀ i∈l,R (f i)<|k i)→ax R (l.map f) (l.map k)
 | [],_=>trivial
 | x::l,h=>⟨h x dO,yZ fun i a=>h i (by simp[a])⟩
instance:Inhabited (List Int×Sv):=⟨([],⟨none,0,0⟩)⟩
theorem DH {fuel:Nat}{v:Value}{x:DataW H×List MemPlace}(h:DataW.trod enc Tryz.prog W base spare hd fuel 22 [v]=some x):∃ ls,cQ (tm W) v ls:=by
 rcases Go.Deep.open_slice1 eS cells32 h with ⟨d,_⟩ | ⟨a,len,cap,m,n,V,D,Pl,d,_,hl,_,g,_,k⟩
 ·simp at d;subst d;exact⟨[],[],zc1 _ _,trivial⟩
 ·simp at d;subst d;have s:len≤m:=by rw[g];split <;> omega
  obtain ⟨f,o⟩:=Go.Deep.choose_lt (α:=List Int×Sv) (n:=len) (p:=fun i y=>V i = .slice y.2.p y.2.n y.2.c∧dp (tm W) (V i) y.1) fun i b=>by
   obtain ⟨l,r,j,e⟩:=Fk (k i oM).2;exact⟨(l,r),j,e⟩
  refine⟨(List.range len).map fun i=>(f i).1,(List.range len).map fun i=>(f i).2,?_,yZ fun i b=>?_⟩
  ·show Sl (tm W) 1 _ ((List.range len).map fun i=>(f i).2).length (((List.range len).map fun i=>(f i).2).flatMap dQ.enc);have u:((List.range len).map fun i=>(f i).2).flatMap dQ.enc=(List.range len).map fun i=>V i:=by
    have:∀ l:List Nat,(∀ i∈l,i<len)→(l.map fun i=>(f i).2).flatMap dQ.enc=l.map fun i=>V i:=by
     intro l;induction l with
     | nil=>intro _;rfl
     | cons y t ih =>
      intro q;rw[zg6,zh7,ih fun i b=>q i (by simp[b]),zg6,(o y<|q y<|by simp).1];rfl
    exact this _ fun i b=>List.mem_range.1 b
   rw[u,ze8,zi6];refine Ei hl dO fun i y b=>?_;rw[zi2] at b;cases hc:(List.range len)[i]? with
   | none=>rw[hc] at b;cases b
   | some z =>
    rw[hc] at b;cases b;obtain ⟨j,e⟩:=zf7.1 hc;simp at j e;subst e;exact (k i oM).1
  ·have:=o i<|List.mem_range.1 b;unfold dZ;rw[← this.1];exact this.2
theorem Dh {r:Reach}{g:Nat}{v:Value}{d:DataW H}{p:List MemPlace}(i:Value.okWide Tryz.prog W r g 24 v)(h:DataW.Trod enc Tryz.prog W base spare hd 24 v d p):∃ (k y:Int) (u:Value) (ls:List (List Int)),v = .agg #[vi k,u,vi y]∧cQ (tm W) u ls:=by
 obtain ⟨o,c1,c2,q,s,t,n,rfl,_,_,j,l,m⟩:=Go.Joins.open_agg3 mH kR cells24 i h;obtain ⟨a,e,_,_⟩:=DataW.trod_int uT3 j;obtain ⟨c,f,_,_⟩:=DataW.trod_int uT3 m;obtain ⟨ls,b⟩:=DH l;simp at e f;subst e;subst f;exact⟨a,c,c1,ls,I,b⟩
end
end Go.Proofs.YtdepcjnaieflmaaGreatDoor
namespace Go.Sy
open Go
section
variable {P:Program}{N:Nat}{E:World}{f:Fr}{g:PH}{s s1:Own}{dst:Option Tmp}{ty:TypeId}{pos:String}{af:Array Edge}{gd:Option (Nat×Bool)}{α:Type}{k:Nat}{e:Enc α k}
end
end Go.Sy
namespace Go.Proofs.YtdepcjnaieflmaaGreatDoor
open _root_.Go.Proofs.Tryz _root_.Go.Proofs.YtdepcjnaieflmaaGreatDoor.Tryz
open Go Go.Sy Go.Pl Go.Proofs
def mJ (A:List Cl)(k:Int):Option (List Int):=(ag A k).map fun c=>c.sides.map aj.cell
theorem qT (A:List Cl):∀ (n:Nat) (id:Int) (vis:List Int),eo A n id vis=dfs (mJ A) n id vis
 | 0,_,_=>rfl
 | n+1,id,vis=>by
  rw[px,jU];unfold mJ;cases ag A id with
  | none=>rfl
  | some c =>
   simp only[Option.map_some,List.foldl_map];congr 2;funext v x;exact qT A n x.cell v
theorem CM {A:List Cl}{k:Int}{l:List Int}(h:mJ A k=some l):∃ c,ag A k=some c∧c.sides.map aj.cell=l:=by
 unfold mJ at h;cases a:ag A k with
 | none=>rw[a] at h;cases h
 | some c=>rw[a] at h;injection h with h;exact⟨c,I,h⟩
theorem xr (A:List Cl):∀ v k l,mJ A k=some l→l≠[]→v.contains k=false→qh A (v++[k])<qh A v:=by
 intro v k l hl _ a;obtain ⟨c,b,_⟩:=CM hl;obtain ⟨hm,rfl⟩:=aJ b;exact Bo hm a
def wj (A:List Cl)(v:List Int):Prop:=∀ x∈v,∀ l,mJ A x=some l→∀ y∈l,mJ A y≠none→y∈v
theorem uK (A:List Cl):∀ (ids v:List Int),wj A v→wj A (ids.foldl (fun v id=>eo A (A.length+1) id v) v)∧(∀ x∈v,x∈ids.foldl (fun v id=>eo A (A.length+1) id v) v) ∧
  (∀ id∈ids,mJ A id≠none→id∈ids.foldl (fun v id=>eo A (A.length+1) id v) v)∧∀ x∈ids.foldl (fun v id=>eo A (A.length+1) id v) v,x∈v∨∃ id∈ids,Rch (mJ A) id x
 | [],v,h=>⟨h,fun _ h=>h,by simp,fun _ h=>.inl h⟩
 | id::ids,v,h=>by
  have hc:=ke (mJ A) (qh A) (fun v v' h=>oN h) (xr A) (A.length+1) id v<|zl1<|Bp _ _;have b:=sb (mJ A) (A.length+1) id v;have hd:=oL (mJ A) (A.length+1) id v;rw[← qT] at hc b hd;have c:wj A (eo A (A.length+1) id v):=by
   intro x a l hl y f hn;by_cases g:x∈v
   ·exact b y<|h x g l hl y f hn
   ·exact hc.2 x a g l hl y f hn
  obtain ⟨j,i,k,m⟩:=uK A ids _ c;simp only[zj1];refine⟨j,fun x a=>i x<|b x a,fun q hq hn=>?_,fun x a=>?_⟩
  ·rcases zf3.1 hq with rfl | hq
   ·exact i _<|hc.1 hn
   ·exact k q hq hn
  ·rcases m x a with d | ⟨q,hq,d⟩
   ·rcases hd x d with e | e
    ·exact .inl e
    ·exact .inr ⟨id,by simp,e⟩
   ·exact .inr ⟨q,by simp[hq],d⟩
theorem B8 (A:List Cl)(ids:List Int)(x:Int):x∈qp A ids↔∃ id∈ids,Rch (mJ A) id x:=by
 obtain ⟨e,_,f,g⟩:=uK A ids [] (fun x i=>absurd i<|by simp);refine⟨fun h=>(g x h).resolve_left dO,fun ⟨id,d,hr⟩=>?_⟩;have key:∀ a b,Rch (mJ A) a b→a∈qp A ids→b∈qp A ids:=by
  intro a b hr;induction hr with
  | refl a _=>exact fun h=>h
  | step a b c l hl hb r ih=>exact fun h=>ih<|e a h l hl b hb r.node
 exact key id x hr<|f id d hr.node
def FL (A:List Cl)(m:List Int):Nat:=((A.filter fun c=>!m.contains c.id).map fun c=>c.sides.length).sum
structure Wide (A:List Cl)(ids left m:List Int):Prop where
 sound:∀ x∈m,∃ id∈ids,Rch (mJ A) id x
 todo:∀ x∈left,mJ A x≠none→∃ id∈ids,Rch (mJ A) id x
 start:∀ x∈ids,mJ A x≠none→x∈left∨x∈m
 sides:∀ x∈m,∀ l,mJ A x=some l→∀ y∈l,mJ A y≠none→y∈left∨y∈m
 few:left.length+FL A m≤ids.length+FL A []
def w4 (A B:List Cl)(id:Int):Bool:=match ag B id with
 | some y=>decide ((ag A id).getD aA=y)
 | none=>false
def vh (A B:List Cl)(c:Cl):Bool:=(qp A [c.id]).all (w4 A B)
def mA (A B:List Cl):List Cl:=A.filter (vh A B)
theorem Rch.last {c:Int→Option (List Int)}{a b:Int}(h:Rch c a b):c b≠none:=by
 induction h with
 | refl _ h=>exact h
 | step _ _ _ _ _ _ _ ih=>exact ih
theorem D2 {A:List Cl}{ids:List Int}{x:Int}(h:x∈qp A ids):∃ c,ag A x=some c:=by
 obtain ⟨id,_,hr⟩:=(B8 A ids x).1 h;have:=hr.last;unfold mJ at this;cases a:ag A x with
 | none=>rw[a] at this;simp at this
 | some c=>exact⟨c,rfl⟩
end Go.Proofs.YtdepcjnaieflmaaGreatDoor
