/- 8 -/
import Derived.Test.YtdepcjnaieflmaaGreatDoorMs07
import Derived.Test.YtdepcjnaieflmaaGreatDoorRows
import Derived.WalkKit
import Derived.ProofKit
import Derived.OpenShut
import Derived.ShutString
import Derived.ChangeOld
import Derived.Deep.Slices
import Derived.Lib.SmallJoins
import Derived.Laws.IdiomArrays
set_option linter.unusedSimpArgs false
set_option linter.unusedVariables false
namespace Go.Proofs.YtdepcjnaieflmaaGreatDoor
open _root_.Go.Proofs.Tryz _root_.Go.Proofs.YtdepcjnaieflmaaGreatDoor.Tryz
open Go Go.Sy Go.Pl Go.Proofs
set_option maxRecDepth 100000
set_option maxHeartbeats 2000000
theorem ei {l:List Cl}(h:(aG l).2=0):l.length≤4000∧(aa l).Pairwise (fun a b=>a.id<b.id)∧an l=aa l∧∀ x∈aa l,cQ (an l) x=0:=by
 unfold aG at h;split at h
 ·exact absurd h dC
 ·rename_i hl;cases hc:iH (an l) (aa l) 0 with
  | some p=>rw[hc] at h;exact absurd h<|ww hc
  | none =>
   have c:=(lr hc).2;exact⟨oM,c,bQ c,mq hc⟩
theorem yO:∀ {l:List Int} {k:Nat} (h:k<l.length),l.Pairwise (· < ·)→lbI l l[k]=k:=by
 intro l;induction l with
 | nil=>intro k h;simp at h
 | cons a r ih =>
  intro k h f;obtain ⟨d,g⟩:=zk6.1 f;cases k with
  | zero =>
   unfold lbI;rw[List.length_eq_zero_iff,List.filter_eq_nil_iff];intro y b
   rcases zf4.1 b with rfl | b
   ·simp
   ·have:=d y b;simp;omega
  | succ k =>
   have e:k<r.length:=by simpa using h
   have c:=d r[k] (gM e);have:=ih e g;unfold lbI at this ⊢;simp[c,this]
theorem zo {tl:List Cl}(d:(tl.map Cl.id).Pairwise (· ≤ ·)){id:Int}(h:(ab tl id).isSome=true):atC tl id=lbI (tl.map Cl.id) id:=by
 obtain ⟨c,hc⟩:=zi2.1 h;have hm:(tl.map Cl.id).contains id=true:=by
  obtain ⟨a,b⟩:=aH hc;simp;exact⟨c,a,b⟩
 unfold atC;rw[zg4 hm]
def cI (a b:List Cl):Bool:=!decide ((aG a).2=0) || !decide ((aG b).2=0)||decide (((an a).length:Int) * (an b).length>4000)
def cX (a b:List Cl):List Cl:=if cI a b then [] else if (aG<|dV a b).2=0 then aa (dV a b) else []
theorem nh {α β:Type}{l:List α}{i:Nat}(h:i<l.length)(f:α→List β):(l.take<|i+1).flatMap f=(l.take i).flatMap f++f l[i]:=by
 rw[tS h,List.flatMap_append];simp
theorem fw (E:World)(g:PH)(s:Own)(v u:Value)(a b:List Cl)(hv:ai g v a)(hu:ai g u b)(ha:aK a)(hb:aK b) :
  Ctr Tryz.prog E 73 #[.agg #[v],.agg #[u]] g s (fun r g' s'=>s=s'∧Le g g'∧∃ x,r = .agg #[x]∧ai g' x (cX a b)):=by
 obtain ⟨u3,u4,u5⟩:=hv.form;obtain ⟨u6,u7,u8⟩:=hu.form;have Z:¬ (aG a).2=0→cI a b=true:=fun h=>by simp[cI,h]
 have a0:(aG a).2=0→¬ (aG b).2=0→cI a b=true:=fun h Y=>by simp[cI,Y]
 have a1:(aG a).2=0→(aG b).2=0→cI a b=decide (((an a).length:Int) * (an b).length>4000):=fun h Y=>by simp[cI,h,Y]
 have n4:=ij a;have n5:=ij b;have h9:(aG a).2=0→(aG b).2=0→((an a).length:Int) * (an b).length≤16000000∧0≤((an a).length:Int) * (an b).length:=fun h Y=>xk (zl1 n4 (ei h).1)<|zl1 n5 (ei Y).1;refine zb2 (args:=[.agg #[v],.agg #[u]]) func73 I ntmps73 (bE I)<|rZ (bW (bO I) fun R=>?_);refine bW (bO I) fun S=>bW (aL zm2) fun T=>tZ<|rZ<|lK (qV 2 aj ag I I I)<|lW (SO.call call52 I<|dX E g _ _ a hv ha) ?_;rintro _ g1 _ ⟨rfl,rfl,D⟩;refine aT I<|rZ<|lK (qV 1 aj ag I I I)<|lW (SO.call call52 I<|dX E g1 _ _ b (hu.mono D) hb) ?_;rintro _ g2 _ ⟨rfl,rfl,H⟩;refine aT I<|rZ<|lK (qV 2 aj ag I I I)<|lW (SO.call call54 I<|dz E g2 _ _ a (hv.mono<|D.trans H) ha) ?_;rintro v24 g3 _ ⟨rfl,U,hA⟩;refine aT I<|rZ<|lK (qV 1 aj ag I I I)<|lW (SO.call call54 I<|dz E g3 _ _ b (hu.mono<|D.trans<|H.trans U) hb) ?_;rintro v26 g4 _ ⟨rfl,J,hB⟩;obtain ⟨N,K,b6⟩:=hA;have b7:=K.mono J;have O:=b6.mono fun _ _=>ak.mono J;obtain ⟨n,b8,P⟩:=hB;have eal:=O.length;have ebl:=P.length;obtain ⟨pa,ca,rfl⟩:=b7.form;obtain ⟨pb,cb,rfl⟩:=b8.form;refine aT I<|sQ<|SC.cutB 40 ((cI a b)) ?_ ?_
 ·refine rG<|lM I<|lU (SU.notP I)<|lM I<|sP ?_ ?_
  ·intro a2;exact yA I<|yA I<|yP I<|lM I<|yA I<|yA I<|yA I<|yA I<|yA I<|yA I<|yP I<|SL.nil<|zb1 (by (rw[Z a2];rfl)) mI
  ·intro a2;refine yC I<|lY I I I (SU.notP I)<|yF I<|lM I<|sP ?_ ?_
   ·intro b9;exact yA I<|yA I<|yA I<|yA I<|yA I<|yA I<|yP I<|SL.nil<|zb1 (by (rw[a0 (zh3 a2) b9];rfl)) mI
   ·intro b9;refine yC I<|lY I I I (eN aC I)<|yC I<|lY I I I (eN aC I)<|lY I I I (SU.mul I I (by have:=h9 (zh3 a2)<|zh3 b9;rw[eal,ebl] at this;omega)) ?_;refine lY I I I (gR I I)<|yF I<|SL.nil ?_;exact zb1 (by (rw[a1 (zh3 a2)<|zh3 b9,eal,ebl];rfl)) mI
 refine iQ I (fun p=>?_) (fun p=>?_)
 ·exact rZ<|lU (za3 I<|buildE29)<|oZ (sK 0 ag I I I I I sB)<|tZ<|rE<|tR<|ST.retCD 0 s (.inl I) results73 I aj ag I I uR ⟨I,D.trans<|H.trans<|U.trans J,_,I,by unfold cX;rw[zg4 p];exact⟨[],zc1 _ _,trivial⟩⟩
 ·have K:(aG a).2=0:=zh3 fun h=>by rw[Z h] at p;cases p
  have c5:(aG b).2=0:=zh3 fun h=>by rw[a0 K h] at p;cases p
  have a3:((an a).length:Int) * (an b).length≤4000:=by rw[a1 K c5] at p;simp at p;omega
  obtain ⟨u9,a4,i0,e1⟩:=ei K;obtain ⟨v0,a5,i1,e2⟩:=ei c5;rw[← i0] at a4 e1;rw[← i1] at a5 e2;have c6:=fJ a;have c7:=fJ b;have n6:((an a).map Cl.id).Pairwise (· < ·):=zk7.2 a4;have n7:((an b).map Cl.id).Pairwise (· < ·):=zk7.2 a5;have e4:an a=aa a→an b=aa b→dV a b=(an a).flatMap fun x=>(an b).map (eh (an a) (an b) x):=fun h Y=>by unfold dV;rw[← h,← Y]
  have Q:=e4 i0 i1;have n8:ai g4 (.slice pa N.length ca) (an a):=⟨N,b7,O⟩;have o1:ai g4 (.slice pb n.length cb) (an b):=⟨n,b8,P⟩;refine kP (tN<|sW I<|lU (eN aC I)<|aT I<|rZ<|bW (aL zm2) fun B=>?_);refine tZ<|sQ<|rZ<|aT I<|bK<|zb6 37 3<|oP (ι:=PH×Value×List Rc×Nat) (fun i=>[(2,pp R 0),(3,pp S 0),(4,pp T 0),(7,.slice pa N.length ca),(8,.slice pb n.length cb),(9,vi n.length),(10,pp B 0),(11,vi i.2.2.2)]) (fun i=>i.1) (fun i=>rowA encCell 37 i.2.1 i.2.2.1::pt B (bY #[i.2.1] 29)::pt T (bY #[.slice none 0 0] 29)::pt S (bY #[u] 29)::pt R (bY #[v] 29)::s)
   (fun i=>Le g4 i.1∧i.2.2.2≤N.length∧ax (ak i.1) (((an a).take i.2.2.2).flatMap fun x=>(an b).map<|eh (an a) (an b) x) i.2.2.1) (fun i=>N.length - i.2.2.2)
   (g4,.slice none 0 0,[],0) sB rfl rfl ⟨zb9 g4,zf9 _,trivial⟩ ?_
  rintro ⟨g5,ov,i2,i⟩ ⟨t,hi,V⟩;dsimp only at t hi V ⊢;refine sQ<|sW I<|lM I<|lU (eN aC I)<|yL I<|tZ<|iP I (fun o2=>?_) (fun o2=>?_)
  ·have c0:i<(an a).length:=oM;have i3:i<N.length:=oM;have L:=b7.based oM;have p0:=O.get (List.getElem?_eq_getElem c0)<|List.getElem?_eq_getElem i3;have c9:N[((i:Nat):Int).toNat]?=some N[i]:=List.getElem?_eq_getElem i3;have p1:=gM c0;have j0:lbI ((an a).map Cl.id) (an a)[i].id=i:=by
    have:=yO (l:=(an a).map Cl.id) (k:=i) (by simpa using c0) n6;simpa using this
   have e9:=nh c0 fun x=>(an b).map<|eh (an a) (an b) x;generalize v1:(an a)[i]=x at *;obtain ⟨xp,d0,p2,p3⟩:=ee p0;rw[p2] at c9;have c1:=c9;have f7:=e1 x p1;have p4:=yU f7;have v2:=je f7;have j1:=m6 f7;refine kP<|tN<|sQ<|bK<|rZ<|aT I<|bK<|oP (ι:=PH×Value×List Rc×Nat) (fun k=>[(2,pp R 0),(3,pp S 0),(4,pp T 0),(7,.slice pa N.length ca),(8,.slice pb n.length cb),(9,vi n.length),(10,pp B 0),(11,vi i),(12,vi k.2.2.2)]) (fun k=>k.1) (fun k=>rowA encCell 37 k.2.1 k.2.2.1::pt B (bY #[k.2.1] 29)::pt T (bY #[.slice none 0 0] 29)::pt S (bY #[u] 29)::pt R (bY #[v] 29)::s)
    (fun k=>Le g5 k.1∧k.2.2.2≤n.length∧ax (ak k.1) ((((an a).take i).flatMap fun x=>(an b).map<|eh (an a) (an b) x)++((an b).take k.2.2.2).map (eh (an a) (an b) x)) k.2.2.1) (fun k=>n.length - k.2.2.2)
    (g5,ov,i2,0) sB rfl rfl ⟨zb9 g5,zf9 _,by simpa using V⟩ ?_
   rintro ⟨g6,A,d,k⟩ ⟨f,hk,C⟩;dsimp only at f hk C ⊢;refine sQ<|sW I<|lM I<|yL I<|tZ<|iP I (fun j2=>?_) (fun j2=>?_)
   ·have c2:k<(an b).length:=oM;have l0:k<n.length:=oM;have X:=b8.based oM;have p5:=P.get (List.getElem?_eq_getElem c2)<|List.getElem?_eq_getElem l0;have d1:n[((k:Nat):Int).toNat]?=some n[k]:=List.getElem?_eq_getElem l0;have p6:=gM c2;have l1:lbI ((an b).map Cl.id) (an b)[k].id=k:=by
     have:=yO (l:=(an b).map Cl.id) (k:=k) (by simpa using c2) n7;simpa using this
    have p7:((an b).take<|k+1).map (eh (an a) (an b) x)=((an b).take k).map (eh (an a) (an b) x)++[eh (an a) (an b) x (an b)[k]]:=by rw[tS c2,zg8];rfl
    generalize v3:(an b)[k]=y at *;obtain ⟨yp,d2,p9,q0⟩:=ee p5;rw[p9] at d1;have f8:=d1;have g9:=e2 y p6;have v4:=yU g9;have q1:=je g9;have l2:=m6 g9;have h0:=C.length;have t3:(i:Int) * n.length≤4000:=by
     have h1:(i:Int) * n.length≤(N.length:Int) * n.length:=Int.mul_le_mul_of_nonneg_right oM oM;rw[eal,ebl] at a3;omega
    have q2:0≤(i:Int) * n.length:=Int.mul_nonneg oM oM;have t4:d.length≤4000:=by
     have h1:d.length=i * n.length+k:=by
      rw[← h0,ze8,ze9,ze7,jq,ze7,← ebl];rw[Nat.min_eq_left oM,Nat.min_eq_left oM]
     have Y:i * n.length+k≤N.length * n.length:=by
      have h3:(i+1) * n.length≤N.length * n.length:=Nat.mul_le_mul_right _ oM;rw[Nat.succ_mul] at h3;omega
     have h4:((N.length * n.length:Nat):Int)≤4000:=by rw[eal,ebl] at a3;rw[Int.natCast_mul];exact a3
     omega
    have q3:aY (an a) (an b) x.id y.id=(i:Int) * n.length+k+1:=by unfold aY;rw[j0,l1,ebl]
    have W:=b7.mono<|t.trans f;have a9:=b8.mono<|t.trans f;have d3:=p3.mono<|t.trans f;have d4:=q0.mono<|t.trans f;refine kP<|tN<|sQ<|bK<|sQ<|dW [] [(0,2),(1,2),(2,2),(3,2),(4,2),(5,2),(6,2),(7,2),(8,2),(9,2),(10,1),(11,2),(12,2),(13,2),(14,2),(15,1),(16,2),(17,2),(18,0),(19,0)] ze6 kR<|yM I<|yM I<|pU I (SU.mul I I oM)<|yM I<|pU I (aD I I oM)<|pU I (aD I I oM)<|yM I<|yM I<|pU I (iA aC ar I I L oM sL)<|pU I (fC ao I zT3 I L)<|pK I (aZ (e:=encCell) (o:=1) (u:=vi x.dim) iT3 I W.rd c1 I)<|yM I<|yM I<|pU I (iA aC ar I I X oM sL)<|pU I (fC ao I zT3 I X)<|pK I (aZ (e:=encCell) (o:=1) (u:=vi y.dim) iT3 I a9.rd f8 I)<|pU I (aD I I oM)<|pU I (za3 I<|buildC37 _ _)<|SP.o I (aL zl8) dC (.inr iR) ?_;rintro _ _ _ ⟨G,rfl,rfl,rfl⟩;refine SP.on I (sK 0 ar I I I I I sB) (.inr iR) ?_;rintro _ _ _ ⟨rfl,rfl⟩;refine pN<|tN<|sQ<|rZ<|aT I<|bK ?_;refine SC.to (fun w hw=>?_) (g':=g6) (s':=pt G (bY #[vi<|aY (an a) (an b) x.id y.id,vi<|x.dim+y.dim,.slice none 0 0] 37)::rowA encCell 37 A d::pt B (bY #[A] 29)::pt T (bY #[.slice none 0 0] 29)::pt S (bY #[u] 29)::pt R (bY #[v] 29)::s) ?_
    ·rw[q3];exact hw
    refine zb6 80 2<|oP (ι:=Value×Nat) (fun j=>[(2,pp R 0),(3,pp S 0),(4,pp T 0),(7,.slice pa N.length ca),(8,.slice pb n.length cb),(9,vi n.length),(10,pp B 0),(11,vi i),(12,vi k),(13,pp G 0),(14,vi j.2)]) (fun _=>g6)
     (fun j=>rowA encSide 80 j.1 ((x.sides.take j.2).map fun q=>(⟨aY (an a) (an b) q.cell y.id,q.sign⟩:am))::pt G (bY #[vi<|aY (an a) (an b) x.id y.id,vi<|x.dim+y.dim,j.1] 37)::rowA encCell 37 A d::pt B (bY #[A] 29)::pt T (bY #[.slice none 0 0] 29)::pt S (bY #[u] 29)::pt R (bY #[v] 29)::s)
     (fun j=>j.2≤x.sides.length) (fun j=>x.sides.length - j.2) (.slice none 0 0,0) sB rfl rfl (zf9 _) ?_
    rintro ⟨sv,j⟩ hj;dsimp only at hj ⊢;refine sQ<|sW I<|lM I<|lM I<|lU (iA aC ar I I L oM sL)<|lU (fC ao I aI I L)<|lK (aZ (e:=encCell) (o:=2) (u:=.slice xp x.sides.length d0) bi I W.rd c1 I)<|lU (eN a7 I)<|yL I<|tZ<|iP I (fun l3=>?_) (fun l3=>?_)
    ·have h5:j<x.sides.length:=oM;have h6:=d3.based oM;have q4:x.sides[((j:Nat):Int).toNat]?=some x.sides[j]:=List.getElem?_eq_getElem h5;have q5:(x.sides.take<|j+1).map (fun q=>(⟨aY (an a) (an b) q.cell y.id,q.sign⟩:am))=(x.sides.take j).map (fun q=>(⟨aY (an a) (an b) q.cell y.id,q.sign⟩:am))++[⟨aY (an a) (an b) x.sides[j].cell y.id,x.sides[j].sign⟩]:=by rw[tS h5,zg8];rfl
     have h7:=j1 _<|gM h5;generalize x.sides[j]=z at *;have b0:=zo c6 h7;have b1:=EO ((an a).map Cl.id) z.cell;rw[ze9] at b1;have b5:aY (an a) (an b) z.cell y.id=((lbI ((an a).map Cl.id) z.cell:Nat):Int) * n.length+k+1:=by unfold aY;rw[l1,ebl]
     have v5:((lbI ((an a).map Cl.id) z.cell:Nat):Int) * n.length≤4000:=by
      have h1:((lbI ((an a).map Cl.id) z.cell:Nat):Int) * n.length≤(N.length:Int) * n.length:=Int.mul_le_mul_of_nonneg_right oM oM;rw[eal,ebl] at a3;omega
     have t5:0≤((lbI ((an a).map Cl.id) z.cell:Nat):Int) * n.length:=Int.mul_nonneg oM oM;refine kP (tN<|sQ<|bK<|sW I<|lM I<|lU (iA aC ar I I L oM sL)<|lU (fC ao I aI I L)<|lK (aZ (e:=encCell) (o:=2) (u:=.slice xp x.sides.length d0) bi I W.rd c1 I)<|lM I<|lU (iA a7 aR I I h6 oM sL)<|lK (SQ.elemA iY aR I d3.rd q4)<|bW (aL zm3) fun r0=>?_);refine oZ (sK 0 aR I I I I I sB)<|tZ ?_;refine SC.to (fun w hw=>hw) (g':=g6) (s':=pt r0 (bY #[vi z.cell,vi z.sign] 80)::rowA encSide 80 sv ((x.sides.take j).map fun q=>(⟨aY (an a) (an b) q.cell y.id,q.sign⟩:am))::pt G (bY #[vi<|aY (an a) (an b) x.id y.id,vi<|x.dim+y.dim,sv] 37)::rowA encCell 37 A d::pt B (bY #[A] 29)::pt T (bY #[.slice none 0 0] 29)::pt S (bY #[u] 29)::pt R (bY #[v] 29)::s) ?_;refine dW [15,16,17] [(0,2),(1,1),(2,2),(3,2),(4,1),(6,2),(8,2),(11,2),(12,1),(5,0),(7,2),(9,2),(10,2),(13,2),(14,0),(15,0),(16,0),(17,0)] ze6 kR<|pU I (fA ao I aI I)<|pK I (qL (v:=sv) bi I<|cO 2 I I)<|yM I<|pU I (fA df I zT3 I)<|pK I (qL (v:=vi z.cell) iT3 I<|cO 0 I I)<|yM I<|yM I<|pU I (fA df I zT3 I)<|pK I (qL (v:=vi z.sign) iT3 I<|cO 0 I I)<|SP.o I (SO.call call107 I<|ix E g6 _ _ (an a) z.cell (n8.mono<|t.trans f) oM c6) dC (.inr iR) ?_;rintro _ _ _ ⟨rfl,rfl,rfl⟩;rw[b0];refine pU I (SU.mul I I oM)<|pU I (aD I I oM)<|pU I (SU.eq (v':=vi<|aY (an a) (an b) z.cell y.id) (aD I I oM)<|ze5 vi b5.symm)<|pU I (za3 I<|buildS80 _ _)<|SP.o I (bS sty35 I I I (ae sB) dC) dC (.inr iR) ?_;rintro _ _ _ ⟨t9,rfl,rfl,rfl⟩;refine SP.o I (aP (e:=encSide) 1 ⟨aY (an a) (an b) z.cell y.id,z.sign⟩ sty35 I I I I I (by simp;omega) (by simp;omega)) dC (.inl dC) ?_;rintro sv' _ _ ⟨rfl,rfl⟩;rw[← q5];refine zd3 fun ⟨w0,M⟩=>?_;obtain ⟨q6,d6,rfl⟩:=ah (i:=1) M rfl;clear M w0;refine oU rfl (fA ao rfl aI rfl) dC (.inl dC)<|SP.on rfl (SO.store1 2 aI rfl rfl rfl rfl (bE rfl)<|by rfl) (.inl dC) ?_;rintro _ _ _ ⟨rfl,rfl⟩;refine pN<|bN<|tN<|rG<|lM I<|yD I<|lA I<|SL.nil<|dR (s':=rowA encSide 80 (.slice q6 ((x.sides.take<|j+1).map fun q=>(⟨aY (an a) (an b) q.cell y.id,q.sign⟩:am)).length d6) ((x.sides.take<|j+1).map fun q=>(⟨aY (an a) (an b) q.cell y.id,q.sign⟩:am))::pt G (bY #[vi<|aY (an a) (an b) x.id y.id,vi<|x.dim+y.dim,.slice q6 ((x.sides.take<|j+1).map fun q=>(⟨aY (an a) (an b) q.cell y.id,q.sign⟩:am)).length d6] 37)::rowA encCell 37 A d::pt B (bY #[A] 29)::pt T (bY #[.slice none 0 0] 29)::pt S (bY #[u] 29)::pt R (bY #[v] 29)::s) (.cons _<|.refl _) ?_;exact ST.again (_,j+1) sB I I lN lN
    ·have r1:x.sides.take j=x.sides:=tL oM;rw[r1];generalize d5:x.sides.map (fun q=>(⟨aY (an a) (an b) q.cell y.id,q.sign⟩:am))=fl1 at *;have r2:fl1.length=x.sides.length:=by rw[← d5,ze9]
     refine xI<|tX<|tX<|bX<|tN<|sQ<|rZ<|aT I<|bK<|oP (ι:=Value×Nat) (fun m=>[(2,pp R 0),(3,pp S 0),(4,pp T 0),(7,.slice pa N.length ca),(8,.slice pb n.length cb),(9,vi n.length),(10,pp B 0),(11,vi i),(12,vi k),(13,pp G 0),(16,vi m.2)]) (fun _=>g6)
      (fun m=>rowA encSide 80 m.1 (fl1++(y.sides.take m.2).map fun q=>(⟨aY (an a) (an b) x.id q.cell,dD x.dim * q.sign⟩:am))::pt G (bY #[vi<|aY (an a) (an b) x.id y.id,vi<|x.dim+y.dim,m.1] 37)::rowA encCell 37 A d::pt B (bY #[A] 29)::pt T (bY #[.slice none 0 0] 29)::pt S (bY #[u] 29)::pt R (bY #[v] 29)::s)
      (fun m=>m.2≤y.sides.length) (fun m=>y.sides.length - m.2) (sv,0) sB rfl dO (zf9 _) ?_
     rintro ⟨c3,m⟩ hm;dsimp only at hm ⊢;refine sQ<|sW I<|lM I<|lM I<|lU (iA aC ar I I X oM sL)<|lU (fC ao I aI I X)<|lK (aZ (e:=encCell) (o:=2) (u:=.slice yp y.sides.length d2) bi I a9.rd f8 I)<|lU (eN a7 I)<|yL I<|tZ<|iP I (fun l4=>?_) (fun l4=>?_)
     ·have c4:m<y.sides.length:=oM;have h6:=d4.based oM;have r3:y.sides[((m:Nat):Int).toNat]?=some y.sides[m]:=List.getElem?_eq_getElem c4;have r4:fl1++(y.sides.take<|m+1).map (fun q=>(⟨aY (an a) (an b) x.id q.cell,dD x.dim * q.sign⟩:am))=fl1++(y.sides.take m).map (fun q=>(⟨aY (an a) (an b) x.id q.cell,dD x.dim * q.sign⟩:am))++[⟨aY (an a) (an b) x.id y.sides[m].cell,dD x.dim * y.sides[m].sign⟩]:=by rw[tS c4,zg8];simp
      have h7:=l2 _<|gM c4;have r5:=q1.2 _<|gM c4;generalize y.sides[m]=z at *;have b0:=zo c7 h7;have b1:=EO ((an b).map Cl.id) z.cell;rw[ze9] at b1;have b5:aY (an a) (an b) x.id z.cell=(i:Int) * n.length+((lbI ((an b).map Cl.id) z.cell:Nat):Int)+1:=by unfold aY;rw[j0,ebl]
      have m1:z.sign * dD x.dim=dD x.dim * z.sign:=Int.mul_comm _ _;have m2:=wU x.dim;have h8:x.dim.tmod 2=x.dim % 2:=Int.tmod_eq_emod_of_nonneg p4.1;have r6 : -1≤z.sign * dD x.dim∧z.sign * dD x.dim≤1:=by rcases r5 with h | h <;> rcases m2 with Y | Y <;> rw[h,Y] <;> decide
      refine kP (tN<|sQ<|bK<|sW I<|lM I<|lU (iA aC ar I I X oM sL)<|lU (fC ao I aI I X)<|lK (aZ (e:=encCell) (o:=2) (u:=.slice yp y.sides.length d2) bi I a9.rd f8 I)<|lM I<|lU (iA a7 aR I I h6 oM sL)<|lK (SQ.elemA iY aR I d4.rd r3)<|bW (aL zm3) fun r7=>?_);refine oZ (sK 0 aR I I I I I sB)<|tZ ?_;refine SC.to (fun w hw=>hw) (g':=g6) (s':=pt r7 (bY #[vi z.cell,vi z.sign] 80)::rowA encSide 80 c3 (fl1++(y.sides.take m).map fun q=>(⟨aY (an a) (an b) x.id q.cell,dD x.dim * q.sign⟩:am))::pt G (bY #[vi<|aY (an a) (an b) x.id y.id,vi<|x.dim+y.dim,c3] 37)::rowA encCell 37 A d::pt B (bY #[A] 29)::pt T (bY #[.slice none 0 0] 29)::pt S (bY #[u] 29)::pt R (bY #[v] 29)::s) ?_;refine dW [24,25,26] [(0,2),(1,1),(2,2),(3,2),(4,2),(5,2),(6,2),(7,1),(11,2),(12,1),(13,2),(14,2),(15,2),(16,2),(17,1),(18,2),(19,2),(20,2),(21,2),(8,0),(9,2),(10,2),(22,2),(23,0),(24,0),(25,0),(26,0)] ze6 kR<|pU I (fA ao I aI I)<|pK I (qL (v:=c3) bi I<|cO 2 I I)<|yM I<|yM I<|pU I (SU.mul I I oM)<|yM I<|pU I (fA df I zT3 I)<|pK I (qL (v:=vi z.cell) iT3 I<|cO 0 I I)<|pU I (fA df I zT3 I)<|pK I (qL (v:=vi z.sign) iT3 I<|cO 0 I I)<|yM I<|yM I<|pU I (iA aC ar I I L oM sL)<|pU I (fC ao I zT3 I L)<|pK I (aZ (e:=encCell) (o:=1) (u:=vi x.dim) iT3 I W.rd c1 I)<|pU I (SU.eq (v':=vi<|x.dim % 2) (ze1 I I dC)<|ze5 vi h8)<|pU I (SU.mul I I oM)<|pU I (SU.eq (v':=vi<|dD x.dim) (sU I I oM) I)<|pU I (SU.eq (v':=vi<|dD x.dim * z.sign) (SU.mul I I oM)<|ze5 vi m1)<|SP.o I (SO.call call107 I<|ix E g6 _ _ (an b) z.cell (o1.mono<|t.trans f) oM c7) dC (.inr iR) ?_;rintro _ _ _ ⟨rfl,rfl,rfl⟩;rw[b0];refine pU I (aD I I oM)<|pU I (SU.eq (v':=vi<|aY (an a) (an b) x.id z.cell) (aD I I oM)<|ze5 vi b5.symm)<|pU I (za3 I<|buildS80 _ _)<|SP.o I (bS sty35 I I I (ae sB) dC) dC (.inr iR) ?_;rintro _ _ _ ⟨u0,rfl,rfl,rfl⟩;refine SP.o I (aP (e:=encSide) 1 ⟨aY (an a) (an b) x.id z.cell,dD x.dim * z.sign⟩ sty35 I I I I I (by simp;omega) (by simp;omega)) dC (.inl dC) ?_;rintro sv3 _ _ ⟨rfl,rfl⟩;rw[← r4];refine zd3 fun ⟨w0,M⟩=>?_;obtain ⟨q7,d7,rfl⟩:=ah (i:=1) M rfl;clear M w0;refine oU rfl (fA ao rfl aI rfl) dC (.inl dC)<|SP.on rfl (SO.store1 2 aI rfl rfl rfl rfl (bE rfl)<|by rfl) (.inl dC) ?_;rintro _ _ _ ⟨rfl,rfl⟩;refine pN<|bN<|tN<|rG<|lM I<|yD I<|lA I<|SL.nil<|dR (s':=rowA encSide 80 (.slice q7 (fl1++(y.sides.take<|m+1).map fun q=>(⟨aY (an a) (an b) x.id q.cell,dD x.dim * q.sign⟩:am)).length d7) (fl1++(y.sides.take<|m+1).map fun q=>(⟨aY (an a) (an b) x.id q.cell,dD x.dim * q.sign⟩:am))::pt G (bY #[vi<|aY (an a) (an b) x.id y.id,vi<|x.dim+y.dim,.slice q7 (fl1++(y.sides.take<|m+1).map fun q=>(⟨aY (an a) (an b) x.id q.cell,dD x.dim * q.sign⟩:am)).length d7] 37)::rowA encCell 37 A d::pt B (bY #[A] 29)::pt T (bY #[.slice none 0 0] 29)::pt S (bY #[u] 29)::pt R (bY #[v] 29)::s) (.cons _<|.refl _) ?_;exact ST.again (_,m+1) sB I I lN lN
     ·have r8:y.sides.take m=y.sides:=tL oM;rw[r8];have r9:eh (an a) (an b) x y=⟨aY (an a) (an b) x.id y.id,x.dim+y.dim,fl1++y.sides.map fun q=>(⟨aY (an a) (an b) x.id q.cell,dD x.dim * q.sign⟩:am)⟩:=by unfold eh;rw[d5]
      generalize u1:(fl1++y.sides.map fun q=>(⟨aY (an a) (an b) x.id q.cell,dD x.dim * q.sign⟩:am))=m3 at *;refine xI (tX<|tX<|bX<|tN<|rG<|zd7 fun g7 F s2=>?_);have m4:SlA encSide g7 c3 m3:=s2;obtain ⟨q8,d8,rfl⟩:=za4 m4;obtain ⟨nc,n0⟩:∃ nc:Rc,nc=⟨aY (an a) (an b) x.id y.id,x.dim+y.dim,⟨q8,m3.length,d8⟩⟩:=⟨_,rfl⟩;refine lU (fA dj I cj I)<|lK (qL ef I<|cO 2 I I)<|lK (qV 0 dn ar I I I)<|lW (bS sty27 I I I (ae sB) dC) ?_;rintro _ _ _ ⟨u2,rfl,rfl,rfl⟩;refine lW (aP (e:=encCell) 1 nc sty27 I I I I (by rw[n0];rfl) oM oM) ?_;rintro v156 _ _ ⟨rfl,rfl⟩;refine zd4 fun ⟨w0,M⟩=>?_;obtain ⟨q9,d9,rfl⟩:=ah (i:=1) M rfl;clear M w0;refine lU (fA dj I cj I)<|oZ (sK 2 cj I I I I I sB)<|SL.nil<|bN<|tN<|rG<|lM I<|yD I<|lA I<|SL.nil<|dR (s':=rowA encCell 37 (.slice q9 (d++[nc]).length d9) (d++[nc])::pt B (.cells #[(.slice q9 (d++[nc]).length d9)] 29 (0,0))::pt T (bY #[.slice none 0 0] 29)::pt S (bY #[u] 29)::pt R (bY #[v] 29)::s) (.cons _<|.refl _)<|ST.again (g7,_,d++[nc],k+1) sB I I ⟨f.trans F,lN,?_⟩ lN;dsimp only;rw[p7,← zh2];exact (C.mono fun _ _=>ak.mono F).append ⟨(by rw[r9,n0];exact⟨I,I,m4⟩),trivial⟩
   ·have t0:(an b).take k=an b:=tL oM;rw[t0] at C;exact xI<|tX<|tX<|bX<|bN<|tN<|rG<|lM I<|yD I<|lA I<|SL.nil<|ST.again (g6,A,d,i+1) sB I I ⟨t.trans f,lN,by dsimp only;rw[e9];exact C⟩ lN
  ·have t1:(an a).take i=an a:=tL oM;rw[t1,← Q] at V;have v6:(dV a b).length≤4000:=by
    rw[Q,jq];have h4:(((an a).length * (an b).length:Nat):Int)≤4000:=by rw[Int.natCast_mul];exact a3
    omega
   have e0:aK (dV a b):=by
    refine⟨oM,fun c hc=>?_⟩;rw[Q] at hc;obtain ⟨x,hx,hc⟩:=List.mem_flatMap.1 hc;obtain ⟨y,hy,rfl⟩:=zf5.1 hc;have h1:=(je<|e1 x hx).1;have Y:=(je<|e2 y hy).1;simp[eh];omega
   refine xI (tX<|tX<|bX<|tN<|sQ<|zd6 fun g6 f t2=>?_);have n1:ai g6 ov (dV a b):=⟨i2,t2,V.mono fun _ _=>ak.mono f⟩;refine rG<|lK (qV 0 aj ag I I I)<|lW (SO.call call52 I<|dX E g6 _ _ (dV a b) n1 e0) ?_;rintro _ g7 _ ⟨rfl,rfl,F⟩;refine aT I<|sQ<|sW I<|lU (SU.notP I)<|tZ<|iP I (fun hr=>?_) (fun hr=>?_)
   ·exact rZ<|lU (za3 I<|buildE29)<|oZ (sK 1 ag I I I I I sB)<|tZ<|rE<|tR<|ST.retCD 1 s (.inl I) results73 I aj ag I I uR ⟨I,D.trans<|H.trans<|U.trans<|J.trans<|t.trans<|f.trans F,_,I,by unfold cX;rw[zg3 (by rw[p];simp),zg3 hr];exact⟨[],zc1 _ _,trivial⟩⟩
   ·refine kP<|tN<|rZ<|lK (qV 0 aj ag I I I)<|lW (SO.call call77 I<|cd E g7 _ _ (dV a b) (n1.mono F) e0) ?_;rintro _ g8 _ ⟨rfl,n2,x8,rfl,n3⟩;obtain ⟨q8,d8,rfl⟩:=n3.form;exact oZ (sK 1 ag I I I I I sB)<|tZ<|rE<|ST.retCD 1 s (.inl I) results73 I aj ag I I uR ⟨I,D.trans<|H.trans<|U.trans<|J.trans<|t.trans<|f.trans<|F.trans n2,_,I,by unfold cX;rw[zg3 (by rw[p];simp),zg4<|zh3 hr];exact n3⟩
end Go.Proofs.YtdepcjnaieflmaaGreatDoor
namespace Go.Sy
open Go
section
variable {P:Program}{N:Nat}{E:World}{ops:Array Oper}{Q:Exit→Act→World→Prop}{g0:PH}{s0:Own}{tail:List Nat}{f:Fr}{g g':PH}{s s':Own}{L:Array Bool}{n:Nat}
theorem SX.to (h:∀ w,At E g s w→At E g' s' w)(hc:SX P N E ops Q g0 s0 tail L n f g' s'):SX P N E ops Q g0 s0 tail L n f g s:=fun a w c b d e hb=>hc a w c b d (h w e) hb
theorem SX.facts (h:(∃ w,At E g s w)→SX P N E ops Q g0 s0 tail L n f g s):SX P N E ops Q g0 s0 tail L n f g s:=fun a w d b e c hb=>h ⟨w,c⟩ a w d b e c hb
theorem SX.freezeRow {T:TypeId}{k m:Nat}{v:Value}{xs:List Value}(h:∀ g',Le g g'→Sl g' k v m xs→SX P N E ops Q g0 s0 tail L n f g' s):SX P N E ops Q g0 s0 tail L n f g (row T k v m xs::s):=fun a w c b d e hb=>by
 obtain ⟨g',i,j,l⟩:=e.freezeRow;exact h g' i l a w c b d j hb
end
end Go.Sy
namespace Go.Proofs.YtdepcjnaieflmaaGreatDoor
open _root_.Go.Proofs.Tryz _root_.Go.Proofs.YtdepcjnaieflmaaGreatDoor.Tryz
open Go Go.Sy Go.Pl Go.Proofs
set_option maxRecDepth 100000
def oB (ls:List (List Int)):List (List Int):=(ls.take 5).map fun l=>(l.take 4).map fun x=>bV x 7
theorem gW {α β:Type}{l:List α}{i:Nat}(h:i<l.length)(f:α→β):(l.take<|i+1).map f=(l.take i).map f++[f l[i]]:=by
 rw[tS h,zg8];rfl
theorem l9 (E:World)(g:PH)(s:Own)(v:Value)(ls:List (List Int))(X:cU g v ls) :
  Ctr Tryz.prog E 71 #[v] g s (fun r g' s'=>∃ rs,s'=rowA dS 32 r rs::s∧Le g g'∧ax (ec g') (oB ls) rs):=by
 obtain ⟨a,b,f⟩:=X;have K:=f.length;obtain ⟨p,c,rfl⟩:=za4 b;refine zb2 (args:=[.slice p a.length c]) func71 I ntmps71 (bE I)<|rZ<|aT I<|rZ<|aT I<|sQ<|rZ<|aT I<|bK<|zb6 32 1<|oP (ι:=PH×Value×List Sv×Nat) (fun i=>[(0,.slice p a.length c),(2,.slice none 0 0),(3,i.2.1),(4,vi i.2.2.2)]) (fun i=>i.1)
  (fun i=>rowA dS 32 i.2.1 i.2.2.1::s)
  (fun i=>Le g i.1∧i.2.2.2≤a.length∧i.2.2.2≤5∧ax (ec i.1) ((ls.take i.2.2.2).map fun l=>(l.take 4).map fun x=>bV x 7) i.2.2.1) (fun i=>a.length - i.2.2.2)
  (g,.slice none 0 0,[],0) sB rfl rfl ⟨zb9 g,zf9 _,zf9 _,trivial⟩ ?_
 rintro ⟨g1,L,rs,i⟩ ⟨d,Y,M,j⟩;dsimp only at d Y M j ⊢;have N:=j.length;rw[ze9,ze7] at N;have f1:(i:Int)<(a.length:Int)→(decide ((i:Int)<(a.length:Int))&&decide ((i:Int)<5))=decide ((i:Int)<5):=fun h=>by simp[h]
 have f2:¬ (i:Int)<(a.length:Int)→(decide ((i:Int)<(a.length:Int))&&decide ((i:Int)<5))=false:=fun h=>by simp only[h,decide_false,Bool.false_and]
 refine sQ<|SC.cutB 14 ((decide ((i:Int)<(a.length:Int))&&decide ((i:Int)<5))) ?_ ?_
 ·refine rG<|lM I<|lM I<|lU (eN eV I)<|yL I<|lM I<|sP ?_ ?_
  ·intro n;exact yC I<|lY I I I (lS I I)<|yP I<|SL.nil<|zb1 (by (rw[f1 n];rfl)) mI
  ·intro n;exact yA I<|yA I<|yF I<|SL.nil<|zb1 (by (rw[f2 n];rfl)) mI
 refine iQ I (fun hc=>?_) (fun hc=>?_)
 ·rw[zj6,zj9,zj9] at hc;have z:i<ls.length:=oM;have A:i<a.length:=oM;have B:=b.based oM;have V:=(f.get (List.getElem?_eq_getElem z)<|List.getElem?_eq_getElem A).mono d;have C:=V.len;have o:=gW z fun l=>(l.take 4).map fun x=>bV x 7;generalize hx:ls[i]=x at *;generalize hr:a[i]=r at *;obtain ⟨J,rn,rc⟩:=r;dsimp only at C;subst C;have D:dw g1 (.slice J x.length rc) x:=V;have F:a[((i:Nat):Int).toNat]?=some ⟨J,x.length,rc⟩:=by rw[← hr];exact List.getElem?_eq_getElem A
  refine kP<|tN<|sQ<|bK<|rZ<|aT I<|sQ<|rZ<|aT I<|bK<|zb6 3 1<|oP (ι:=Value×Nat) (fun k=>[(0,.slice p a.length c),(2,.slice none 0 0),(3,L),(4,vi i),(5,k.1),(6,vi k.2)]) (fun _=>g1)
   (fun k=>rowA encInt 3 k.1 ((x.take k.2).map fun x=>bV x 7)::rowA dS 32 L rs::s)
   (fun k=>k.2≤x.length∧k.2≤4) (fun k=>x.length - k.2) (.slice none 0 0,0) sB rfl rfl ⟨zf9 _,zf9 _⟩ ?_
  rintro ⟨Z,k⟩ ⟨hk,O⟩;dsimp only at hk O ⊢;have f3:(k:Int)<(x.length:Int)→(decide ((k:Int)<(x.length:Int))&&decide ((k:Int)<4))=decide ((k:Int)<4):=fun h=>by simp[h]
  have f4:¬ (k:Int)<(x.length:Int)→(decide ((k:Int)<(x.length:Int))&&decide ((k:Int)<4))=false:=fun h=>by simp only[h,decide_false,Bool.false_and]
  refine sQ<|SC.cutB 27 ((decide ((k:Int)<(x.length:Int))&&decide ((k:Int)<4))) ?_ ?_
  ·refine rG<|lM I<|lM I<|lM I<|lU (iA eV gh I I B oM sL)<|lK (eB (u:=.slice J x.length rc) ik I (b.mono d).rd F I)<|lU (eN az I)<|yL I<|lM I<|sP ?_ ?_
   ·intro q;exact yC I<|lY I I I (lS I I)<|yP I<|SL.nil<|zb1 (by (rw[f3 q];rfl)) mI
   ·intro q;exact yA I<|yA I<|yF I<|SL.nil<|zb1 (by (rw[f4 q];rfl)) mI
  refine iQ I (fun t=>?_) (fun t=>?_)
  ·rw[zj6,zj9,zj9] at t;have G:k<x.length:=oM;have P:=za6 D oM;have Q:=gW G fun x=>bV x 7;have R:x[((k:Nat):Int).toNat]?=some x[k]:=List.getElem?_eq_getElem G;generalize x[k]=y at *;refine kP<|tN<|sQ<|bK<|rG<|lM I<|lM I<|lM I<|lU (iA eV gh I I B oM sL)<|lK (eB (u:=.slice J x.length rc) ik I (b.mono d).rd F I)<|lM I<|lU (iA az zT3 I I P oM sL)<|lK (eB iT3 I (za7 D) R I)<|lW (SO.call lX I<|bB E g1 _ y 7 dC) ?_;rintro _ _ _ ⟨rfl,rfl,rfl⟩;refine lW (bS sty32 I I I (ae sB) dC) ?_;rintro _ _ _ ⟨a0,rfl,rfl,rfl⟩;refine lW (aP (e:=encInt) 0 (bV y 7) sty32 I I I I I (by rw[ze9,ze7];omega) (by rw[ze9,ze7];omega)) ?_;rintro iv' _ _ ⟨rfl,rfl⟩;refine lA I<|SL.nil<|bN<|tN<|rG<|lM I<|yD I<|lA I<|SL.nil ?_;refine ST.to (fun w hw=>?_) (g':=g1) (s':=rowA encInt 3 iv' ((x.take<|k+1).map fun x=>bV x 7)::rowA dS 32 L rs::s) ?_
   ·rw[Q];exact hw
   exact ST.again (iv',k+1) sB I I ⟨lN,lN⟩ lN
  ·have S:x.take k=x.take 4:=by
    rw[Bool.and_eq_false_iff,decide_eq_false_iff_not,decide_eq_false_iff_not] at t;by_cases h4:k=4
    ·rw[h4]
    ·rw[tL oM,tL oM]
   rw[S];refine xI (tX<|tX<|bX<|tN<|zd6 fun g2 m T=>?_);have H:dw g2 Z ((x.take 4).map fun x=>bV x 7):=T;obtain ⟨W,d2,rfl⟩:=za4 H;obtain ⟨nl,a1⟩:∃ nl,nl=((x.take 4).map fun x=>bV x 7).length:=⟨_,rfl⟩;refine rG<|lM I<|lM I<|lW (bS sty22 I I I (ae sB) dC) ?_;rintro _ _ _ ⟨a2,rfl,rfl,rfl⟩;refine lW (aP (e:=dS) 0 ⟨W,((x.take 4).map fun x=>bV x 7).length,d2⟩ sty22 I I I I I oM oM) ?_;rintro ov' _ _ ⟨rfl,rfl⟩;refine lA I<|SL.nil<|bN<|tN<|rG<|lM I<|yD I<|lA I<|SL.nil<|ST.again (g2,ov',rs++[⟨W,((x.take 4).map fun x=>bV x 7).length,d2⟩],i+1) sB I I ⟨d.trans m,lN,lN,?_⟩ lN;dsimp only;rw[o];exact (j.mono fun _ _=>ec.mono m).append ⟨H,trivial⟩
 ·have U:ls.take i=ls.take 5:=by
   rw[Bool.and_eq_false_iff,decide_eq_false_iff_not,decide_eq_false_iff_not] at hc;by_cases h5:i=5
   ·rw[h5]
   ·rw[tL oM,tL oM]
  rw[U] at j;exact xI<|tX<|tX<|bX<|tN<|sW I<|aT I<|rE<|za8 (.inl I) results71 I ⟨rs,I,d,j⟩
def eU (id k:Int):Int:=if k=1 then id else IntKind.i64.wrap ((IntKind.i64.wrap<|id * k).tmod 211+1)
theorem kE (E:World)(g:PH)(s:Own)(a k:Int):Ctr Tryz.prog E 118 #[vi a,vi k] g s
  (fun r g' s'=>r=vi (eU a k)∧g=g'∧s=s'):=by
 refine zb2 (args:=[vi a,vi k]) func118 I ntmps118 (bE I)<|rZ<|aT I<|sQ<|sW I<|yE I<|tZ<|iP I (fun b=>?_) (fun b=>?_)
 ·exact sW I<|aT I<|rE<|tR<|za8 (.inl I) results118 I ⟨by simp[eU,b],I,I⟩
 ·exact kP<|tN<|sW I<|lM I<|lU (SU.mulW I I)<|lU (ze1 I I dC)<|lU (ze3 I I)<|aT I<|rE<|za8 (.inl I) results118 I ⟨by simp[eU,b],I,I⟩
theorem pd (E:World)(g:PH)(s:Own)(a k:Int)(b:k≠0):Ctr Tryz.prog E 119 #[vi a,vi k] g s
  (fun r g' s'=>r=vb (decide (a.tmod k=1))∧g=g'∧s=s'):=by
 exact zb2 (args:=[vi a,vi k]) func119 I ntmps119 (bE I)<|rZ<|aT I<|sW I<|lM I<|lU (ze1 I I oM)<|yE I<|aT I<|rE<|za8 (.inl I) results119 I ⟨I,I,I⟩
theorem jx:∀ (all ls:List (List Int)),all.length≤4000→(∀ x∈all,x.length≤9)→∀ r,aX all ls=some r→r.length≤4000∧∀ x∈r,x.length≤9
 | all,[],d,c,r,h=>by cases h;exact⟨d,c⟩
 | all,t::ls,d,c,r,h=>by
  unfold aX at h;split at h
  ·exact jx all ls d c r h
  ·rename_i hb;split at h
   ·cases h
   ·rename_i hl;refine jx _ ls oM (fun x b=>?_) r h
    rcases lx b with b | b
    ·exact c x b
    ·refine iL ?_ x b;cases e:dE t with
     | nil=>simp
     | cons a r =>
      rw[e] at hb;simp only[jC,zj7,zj9,not_or] at hb;omega
theorem eJ (ls:List (List Int)):aK (dB ls)∧(dB ls).length≤4000:=by
 unfold dB;cases h:aX [] ls with
 | none=>exact⟨⟨by simp,by simp⟩,by simp⟩
 | some all =>
  obtain ⟨a,b⟩:=jx [] ls dO dO all h;have c:(aa<|be all).length≤4000:=by rw[aw,bJ];exact a
  exact⟨aB<|kO a b,c⟩
theorem ft (a b:List Cl):aK (cX a b)∧(cX a b).length≤4000:=by
 unfold cX;split
 ·exact⟨⟨by simp,by simp⟩,by simp⟩
 ·rename_i d;split
  ·have n:(aG a).2=0:=zh3 fun h=>d (by simp[cI,h]);have hb:(aG b).2=0:=zh3 fun h=>d (by simp[cI,h]);have l:((an a).length:Int) * (an b).length≤4000:=by
    refine zh3 fun h=>d ?_;have:((an a).length:Int) * (an b).length>4000:=oM;simp[cI,this]
   obtain ⟨_,_,f,g⟩:=ei n;obtain ⟨_,_,i,j⟩:=ei hb;rw[← f] at g;rw[← i] at j;have e:dV a b=(an a).flatMap fun x=>(an b).map (eh (an a) (an b) x):=by unfold dV;rw[← f,← i]
   have m:(dV a b).length≤4000:=by
    rw[e,jq];have q:(((an a).length * (an b).length:Nat):Int)≤4000:=by rw[Int.natCast_mul];exact l
    omega
   have k:aK (dV a b):=by
    refine⟨oM,fun c hc=>?_⟩;rw[e] at hc;obtain ⟨x,o,hc⟩:=List.mem_flatMap.1 hc;obtain ⟨y,p,rfl⟩:=zf5.1 hc;have r:=(je<|g x o).1;have s:=(je<|j y p).1;simp[eh];omega
   exact⟨aB k,by rw[aw];exact m⟩
  ·exact⟨⟨by simp,by simp⟩,by simp⟩
def qB:List Cl:=cX (dB [[0,1],[1,2],[0,2]]) (dB [[0,1],[1,2],[0,2]])
theorem zL (E:World)(g:PH)(s:Own):Ctr Tryz.prog E 75 #[] g s (fun r g' s'=>s=s'∧Le g g'∧∃ u,r = .agg #[u]∧ai g' u qB):=by
 have p:=(eJ [[0,1],[1,2],[0,2]]).1;refine zb2 (args:=[]) func75 I ntmps75 (bE I)<|rZ (bW (aL zm2) fun A=>?_);refine tZ<|rZ<|lW (bS sty32 I I I (ae sB) dC) ?_;rintro _ _ _ ⟨v,rfl,rfl,rfl⟩;refine zb5 fun g1 e k=>?_;refine lW (bS sty32 I I I (ae sB) dC) ?_;rintro _ _ _ ⟨w,rfl,rfl,rfl⟩;refine zb5 fun g2 c l=>?_;refine lW (bS sty32 I I I (ae sB) dC) ?_;rintro _ _ _ ⟨y,rfl,rfl,rfl⟩;refine zb5 fun g3 b m=>?_;refine lW (bS sty22 I I I (ae sB) dC) ?_;rintro _ _ _ ⟨z,rfl,rfl,rfl⟩;refine zb5 fun g4 a n=>?_;have f:cU g4 (.slice (some ⟨z,0,none⟩) 3 3) [[0,1],[1,2],[0,2]]:=⟨[jD<|.slice (some ⟨v,0,none⟩) 2 2,jD<|.slice (some ⟨w,0,none⟩) 2 2,jD<|.slice (some ⟨y,0,none⟩) 2 2],SlA.lit n rfl rfl,⟨SlA.lit (a _ _<|b _ _<|c _ _ k) rfl rfl,SlA.lit (a _ _<|b _ _ l) rfl rfl,SlA.lit (a _ _ m) rfl rfl,trivial⟩⟩;refine lW (SO.call call70 I<|aU E g4 _ _ _ f dC dC) ?_;rintro _ g5 _ ⟨rfl,i,u,rfl,o⟩;obtain ⟨q,d,rfl⟩:=o.form;refine bW (aL zm2) fun B=>oZ (sK 0 ag I I I I I sB)<|tZ<|rZ<|lK (qV 0 aj ag I I I)<|lK (qV 0 aj ag I I I)<|lW (SO.call call73 I<|fw E g5 _ _ _ _ _ o o p p) ?_;rintro _ g6 _ ⟨rfl,j,x,rfl,t⟩;obtain ⟨C,d6,rfl⟩:=t.form;exact oZ (sK 1 ag I I I I I sB)<|tZ<|rE<|ST.retCD 1 s (.inl I) results75 I aj ag I I uR ⟨I,e.trans<|c.trans<|b.trans<|a.trans<|i.trans j,_,I,t⟩
theorem zU (ls:List (List Int)):(oB ls).length≤5∧∀ x∈oB ls,x.length≤4:=by
 refine⟨by simp[oB];omega,fun x a=>?_⟩;obtain ⟨l,_,rfl⟩:=zf5.1 a;simp;omega
def F0:List (List Int):=[[0,1,2],[0,1,3],[0,2,3],[1,2,3]]
def FZ:List (List Int):=[[0,1,2],[0,2,3],[0,3,4],[0,4,5],[0,1,5],[1,2,4],[2,3,5],[1,3,4],[2,4,5],[1,3,5]]
def vy (k:Nat):List (List Int):=(List.range k).flatMap fun (i:Nat)=>[[(i:Int),((i:Int)+1).tmod 7,((i:Int)+3).tmod 7],[(i:Int),((i:Int)+2).tmod 7,((i:Int)+3).tmod 7]]
def nj (n:Int):List (List Int):=if bV n 3=0 then F0 else if bV n 3=1 then FZ else vy 7
theorem re (k:Nat):vy (k+1)=vy k++[[(k:Int),((k:Int)+1).tmod 7,((k:Int)+3).tmod 7],[(k:Int),((k:Int)+2).tmod 7,((k:Int)+3).tmod 7]]:=by
 simp[vy,List.range_succ,List.flatMap_append]
theorem j8 (k:Nat):(vy k).length=2 * k:=by
 induction k with
 | zero=>rfl
 | succ k ih=>rw[re,ze8,ih];simp;omega
theorem nr (E:World)(g:PH)(s:Own)(n:Int):Ctr Tryz.prog E 72 #[vi n] g s (fun r g' s'=>s=s'∧Le g g'∧cU g' r (nj n)):=by
 refine zb2 (args:=[vi n]) func72 I ntmps72 (bE I)<|rZ<|aT I<|sQ<|sW I<|lW (SO.call lX I<|bB E g _ n 3 dC) ?_;rintro _ _ _ ⟨rfl,rfl,rfl⟩;refine tZ<|bK<|rZ<|yE I<|aT I<|iP I (fun S=>?_) (fun S=>?_)
 ·refine rZ<|lW (bS sty32 I I I (ae sB) dC) ?_;rintro _ _ _ ⟨b9,rfl,rfl,rfl⟩;refine zb5 fun g1 q T=>?_;refine lW (bS sty32 I I I (ae sB) dC) ?_;rintro _ _ _ ⟨U,rfl,rfl,rfl⟩;refine zb5 fun g2 d v=>?_;refine lW (bS sty32 I I I (ae sB) dC) ?_;rintro _ _ _ ⟨V,rfl,rfl,rfl⟩;refine zb5 fun g3 f w=>?_;refine lW (bS sty32 I I I (ae sB) dC) ?_;rintro _ _ _ ⟨W,rfl,rfl,rfl⟩;refine zb5 fun g4 b x=>?_;refine lW (bS sty22 I I I (ae sB) dC) ?_;rintro _ _ _ ⟨X,rfl,rfl,rfl⟩;refine zb5 fun g5 j y=>?_;have p:cU g5 (.slice (some ⟨X,0,none⟩) 4 4) F0:=⟨[jD<|.slice (some ⟨b9,0,none⟩) 3 3,jD<|.slice (some ⟨U,0,none⟩) 3 3,jD<|.slice (some ⟨V,0,none⟩) 3 3,jD<|.slice (some ⟨W,0,none⟩) 3 3],SlA.lit y rfl rfl,⟨SlA.lit (j _ _<|b _ _<|f _ _<|d _ _ T) rfl rfl,SlA.lit (j _ _<|b _ _<|f _ _ v) rfl rfl,SlA.lit (j _ _<|b _ _ w) rfl rfl,SlA.lit (j _ _ x) rfl rfl,trivial⟩⟩;exact aT I<|rE<|bR<|tR<|za8 (.inl I) results72 I ⟨I,(q.trans<|d.trans<|f.trans<|b.trans j),by unfold nj;rw[zg4 S];exact p⟩
 ·refine rZ<|yE I<|aT I<|iP I (fun Y=>?_) (fun Y=>?_)
  ·refine rZ<|lW (bS sty32 I I I (ae sB) dC) ?_;rintro _ _ _ ⟨Z,rfl,rfl,rfl⟩;refine zb5 fun g1 q z=>?_;refine lW (bS sty32 I I I (ae sB) dC) ?_;rintro _ _ _ ⟨a0,rfl,rfl,rfl⟩;refine zb5 fun g2 d A=>?_;refine lW (bS sty32 I I I (ae sB) dC) ?_;rintro _ _ _ ⟨a1,rfl,rfl,rfl⟩;refine zb5 fun g3 f B=>?_;refine lW (bS sty32 I I I (ae sB) dC) ?_;rintro _ _ _ ⟨a2,rfl,rfl,rfl⟩;refine zb5 fun g4 b C=>?_;refine lW (bS sty32 I I I (ae sB) dC) ?_;rintro _ _ _ ⟨a3,rfl,rfl,rfl⟩;refine zb5 fun g5 j D=>?_;refine lW (bS sty32 I I I (ae sB) dC) ?_;rintro _ _ _ ⟨a4,rfl,rfl,rfl⟩;refine zb5 fun g6 o F=>?_;refine lW (bS sty32 I I I (ae sB) dC) ?_;rintro _ _ _ ⟨a5,rfl,rfl,rfl⟩;refine zb5 fun g7 m G=>?_;refine lW (bS sty32 I I I (ae sB) dC) ?_;rintro _ _ _ ⟨a9,rfl,rfl,rfl⟩;refine zb5 fun g8 l H=>?_;refine lW (bS sty32 I I I (ae sB) dC) ?_;rintro _ _ _ ⟨b0,rfl,rfl,rfl⟩;refine zb5 fun g9 k J=>?_;refine lW (bS sty32 I I I (ae sB) dC) ?_;rintro _ _ _ ⟨b1,rfl,rfl,rfl⟩;refine zb5 fun g10 c K=>?_;refine lW (bS sty22 I I I (ae sB) dC) ?_;rintro _ _ _ ⟨b2,rfl,rfl,rfl⟩;refine zb5 fun g11 a L=>?_;have p:cU g11 (.slice (some ⟨b2,0,none⟩) 10 10) FZ:=⟨[jD<|.slice (some ⟨Z,0,none⟩) 3 3,jD<|.slice (some ⟨a0,0,none⟩) 3 3,jD<|.slice (some ⟨a1,0,none⟩) 3 3,jD<|.slice (some ⟨a2,0,none⟩) 3 3,jD<|.slice (some ⟨a3,0,none⟩) 3 3,jD<|.slice (some ⟨a4,0,none⟩) 3 3,jD<|.slice (some ⟨a5,0,none⟩) 3 3,jD<|.slice (some ⟨a9,0,none⟩) 3 3,jD<|.slice (some ⟨b0,0,none⟩) 3 3,jD<|.slice (some ⟨b1,0,none⟩) 3 3],SlA.lit L rfl rfl,⟨SlA.lit (a _ _<|c _ _<|k _ _<|l _ _<|m _ _<|o _ _<|j _ _<|b _ _<|f _ _<|d _ _ z) rfl rfl,SlA.lit (a _ _<|c _ _<|k _ _<|l _ _<|m _ _<|o _ _<|j _ _<|b _ _<|f _ _ A) rfl rfl,SlA.lit (a _ _<|c _ _<|k _ _<|l _ _<|m _ _<|o _ _<|j _ _<|b _ _ B) rfl rfl,SlA.lit (a _ _<|c _ _<|k _ _<|l _ _<|m _ _<|o _ _<|j _ _ C) rfl rfl,SlA.lit (a _ _<|c _ _<|k _ _<|l _ _<|m _ _<|o _ _ D) rfl rfl,SlA.lit (a _ _<|c _ _<|k _ _<|l _ _<|m _ _ F) rfl rfl,SlA.lit (a _ _<|c _ _<|k _ _<|l _ _ G) rfl rfl,SlA.lit (a _ _<|c _ _<|k _ _ H) rfl rfl,SlA.lit (a _ _<|c _ _ J) rfl rfl,SlA.lit (a _ _ K) rfl rfl,trivial⟩⟩;exact aT I<|rE<|bR<|tR<|za8 (.inl I) results72 I ⟨I,(q.trans<|d.trans<|f.trans<|b.trans<|j.trans<|o.trans<|m.trans<|l.trans<|k.trans<|c.trans a),by unfold nj;rw[zg3 S,zg4 Y];exact p⟩
  ·refine kP<|bN<|tN<|rZ<|aT I<|sQ<|rZ<|aT I<|bK<|zb6 32 1<|oP (ι:=PH×Value×List Sv×Nat) (fun i=>[(3,i.2.1),(4,vi i.2.2.2)]) (fun i=>i.1)
    (fun i=>rowA dS 32 i.2.1 i.2.2.1::s)
    (fun i=>Le g i.1∧i.2.2.2≤7∧ax (ec i.1) (vy i.2.2.2) i.2.2.1) (fun i=>7 - i.2.2.2)
    (g,.slice none 0 0,[],0) sB rfl rfl ⟨zb9 g,zf9 _,trivial⟩ ?_
   rintro ⟨g1,ov,rs,i⟩ ⟨u,hi,t⟩;dsimp only at u hi t ⊢;have b3:=t.length;rw[j8] at b3;refine sQ<|sW I<|yL I<|tZ<|iP I (fun b4=>?_) (fun b4=>?_)
   ·have M:i<7:=oM;refine kP<|tN<|sQ<|bK<|rG<|lM I<|lM I<|lM I<|yD I<|lU (ze1 I I dC)<|lM I<|yD I<|lU (ze1 I I dC)<|lW (bS sty32 I I I (ae sB) dC) ?_;rintro _ _ _ ⟨N,rfl,rfl,rfl⟩;refine zb5 fun g2 d O=>?_;refine lM I<|lM I<|yD I<|lU (ze1 I I dC)<|lM I<|yD I<|lU (ze1 I I dC)<|lW (bS sty32 I I I (ae sB) dC) ?_;rintro _ _ _ ⟨P,rfl,rfl,rfl⟩;refine zb5 fun g3 f Q=>?_;refine lW (bS sty22 I I I (ae sB) dC) ?_;rintro _ _ _ ⟨b5,rfl,rfl,rfl⟩;refine zb5 fun g4 b R=>?_;have p:SlA dS g4 (.slice (some ⟨b5,0,none⟩) 2 2) [⟨some ⟨N,0,none⟩,3,3⟩,⟨some ⟨P,0,none⟩,3,3⟩]:=SlA.lit R rfl rfl;refine lW (aQ (e:=dS) 0 sty22 I I I p lN lN) ?_;rintro ov' _ _ ⟨rfl,rfl⟩;refine lA I<|SL.nil<|bN<|tN<|rG<|lM I<|yD I<|lA I<|SL.nil<|ST.again (g4,ov',rs++[⟨some ⟨N,0,none⟩,3,3⟩,⟨some ⟨P,0,none⟩,3,3⟩],i+1) sB I I ⟨u.trans<|d.trans<|f.trans b,lN,?_⟩ lN;dsimp only;rw[re];exact (t.mono fun _ _=>ec.mono<|d.trans<|f.trans b).append ⟨SlA.lit (b _ _<|f _ _ O) I I,SlA.lit (b _ _ Q) I I,trivial⟩
   ·have M:i=7:=oM;subst M;refine xI (tX<|tX<|bX<|tN<|sQ<|zd6 fun g2 d b6=>?_);have b7:cU g2 ov (vy 7):=⟨rs,b6,t.mono fun _ _=>ec.mono d⟩;exact rG<|lM I<|aT I<|rE<|za8 (.inl I) results72 I ⟨I,u.trans d,by unfold nj;rw[zg3 S,zg3 Y];exact b7⟩
set_option maxHeartbeats 1000000
def mD (k:Nat):List Cl:=(List.range k).map fun (i:Nat)=>⟨(i:Int)+1,0,[]⟩
def nm (n k:Nat):List Cl:=(List.range k).map fun (i:Nat)=>⟨(n:Int)+i+1,1,[⟨(i:Int)+1,-1⟩,⟨((i:Int)+1).tmod n+1,1⟩]⟩
def gS (n k:Nat):List am:=(List.range k).map fun (i:Nat)=>⟨(n:Int)+i+1,1⟩
def fc (n:Nat):List Cl:=mD n++nm n n++[⟨2 * (n:Int)+1,2,gS n n⟩]++(if (n:Int).tmod 2=0 then [⟨2 * (n:Int)+2,2,gS n n⟩] else [])
def xe (n:Nat):List Cl:=aa (fc n)
theorem Ad (k:Nat):mD (k+1)=mD k++[⟨(k:Int)+1,0,[]⟩]:=by simp[mD,List.range_succ]
theorem Af (n k:Nat):nm n (k+1)=nm n k++[⟨(n:Int)+k+1,1,[⟨(k:Int)+1,-1⟩,⟨((k:Int)+1).tmod n+1,1⟩]⟩]:=by simp[nm,List.range_succ]
theorem Ae (n k:Nat):gS n (k+1)=gS n k++[⟨(n:Int)+k+1,1⟩]:=by simp[gS,List.range_succ]
theorem kh (n k:Nat):(gS n k).length=k:=by simp[gS]
theorem nu {n:Nat}(h:n≤6):aK (fc n)∧(fc n).length≤14:=by
 have hl:(fc n).length≤14:=by
  unfold fc;split <;> simp[mD,nm] <;> omega
 refine⟨⟨oM,fun c hc=>?_⟩,hl⟩;unfold fc at hc
 rcases zf6.1 hc with hc | hc
 ·rcases zf6.1 hc with hc | hc
  ·rcases zf6.1 hc with hc | hc
   ·obtain ⟨i,_,rfl⟩:=zf5.1 hc;simp
   ·obtain ⟨i,_,rfl⟩:=zf5.1 hc;simp
  ·simp at hc;subst hc;simp[kh];omega
 ·split at hc
  ·simp at hc;subst hc;simp[kh];omega
  ·simp at hc
theorem Tryz.buildD37 (x:Int)(w:World):(Instr.build 37 #[(0,vi x)]).run Tryz.prog w = .ok (.agg #[vi x,vi 0,.slice none 0 0]) w:=by
 have hz:(Value.agg #[vi 0,vi 0,Value.slice none 0 0]).cells = #[vi 0,vi 0,.slice none 0 0]:=rfl;have a:∀ z:Int,(vi z).cells = #[vi z]:=fun _=>rfl;simp[Instr.build,Instr.fill,hz,a]
theorem vO (E:World)(g:PH)(s:Own)(n:Nat)(h2:2≤n)(h6:n≤6) :
  Ctr Tryz.prog E 74 #[vi n] g s (fun r g' s'=>s=s'∧Le g g'∧∃ x,r = .agg #[x]∧ai g' x (xe n)):=by
 have R:((n:Nat):Int)≠0:=oM;refine zb2 (args:=[vi n]) func74 I ntmps74 (bE I)<|rZ (bW (aL zm2) fun O=>?_);refine tZ (rZ<|bW (aL zm2) fun P=>?_);refine tZ<|sQ<|rZ<|aT I<|bK<|zb6 37 3<|oP (ι:=Value×List Rc×Nat) (fun i=>[(0,vi n),(2,pp O 0),(3,pp P 0),(4,vi i.2.2)]) (fun _=>g)
  (fun i=>rowA encCell 37 i.1 i.2.1::pt P (bY #[i.1] 29)::pt O (bY #[.slice none 0 0] 29)::s)
  (fun i=>i.2.2≤n∧ax (ak g) (mD i.2.2) i.2.1) (fun i=>n - i.2.2)
  (.slice none 0 0,[],0) sB rfl rfl ⟨zf9 _,trivial⟩ ?_
 rintro ⟨ov,S,i⟩ ⟨hi,t⟩;dsimp only at hi t ⊢;have Y:=t.length;simp only[mD,ze9,zi7] at Y;refine sQ<|sW I<|lM I<|yL I<|tZ<|iP I (fun Z=>?_) (fun Z=>?_)
 ·refine kP<|tN<|sQ<|bK<|rG<|lU (fA dj I cj I)<|lK (qL (v:=ov) ef I<|cO 1 I I)<|lM I<|yD I<|lU (za3 I<|buildD37 _)<|lW (bS sty27 I I I (ae sB) dC) ?_;rintro _ _ _ ⟨b4,rfl,rfl,rfl⟩;refine lW (aP (e:=encCell) 0 ⟨(i:Int)+1,0,⟨none,0,0⟩⟩ sty27 I I I I I oM oM) ?_;rintro v20 _ _ ⟨rfl,rfl⟩;refine zd4 fun ⟨K,c⟩=>?_;obtain ⟨Q,d9,rfl⟩:=ah (i:=0) c rfl;clear c K;refine lU (fA dj I cj I)<|oZ (sK 1 cj I I I I I sB)<|SL.nil<|bN<|tN<|rG<|lM I<|yD I<|lA I<|SL.nil<|ST.again (_,S++[⟨(i:Int)+1,0,⟨none,0,0⟩⟩],i+1) sB I I ⟨lN,?_⟩ lN;dsimp only;rw[Ad];exact t.append ⟨⟨I,I,zc1 _ _⟩,trivial⟩
 ·have a0:i=n:=oM;subst a0;refine xI<|tX<|tX<|bX<|tN<|rZ<|aT I<|sQ<|rZ<|aT I<|bK<|zb6 80 2<|oP (ι:=PH×Value×List Rc×Value×Nat) (fun k=>[(0,vi i),(2,pp O 0),(3,pp P 0),(5,k.2.2.2.1),(6,vi k.2.2.2.2)]) (fun k=>k.1)
   (fun k=>rowA encSide 80 k.2.2.2.1 (gS i k.2.2.2.2)::rowA encCell 37 k.2.1 k.2.2.1::pt P (bY #[k.2.1] 29)::pt O (bY #[.slice none 0 0] 29)::s)
   (fun k=>Le g k.1∧k.2.2.2.2≤i∧ax (ak k.1) (mD i++nm i k.2.2.2.2) k.2.2.1) (fun k=>i - k.2.2.2.2)
   (g,ov,S,.slice none 0 0,0) sB rfl rfl ⟨zb9 g,zf9 _,by simpa [nm] using t⟩ ?_
  rintro ⟨g1,G,b,sv,k⟩ ⟨u,hk,f⟩;dsimp only at u hk f ⊢;have T:=f.length;simp only[mD,nm,ze8,ze9,zi7] at T;have b5:=kh i k;refine sQ<|sW I<|lM I<|yL I<|tZ<|iP I (fun U=>?_) (fun U=>?_)
  ·have b6:0≤((k:Int)+1).tmod i∧((k:Int)+1).tmod i<i:=by
    rw[Int.tmod_eq_emod_of_nonneg oM];exact⟨Int.emod_nonneg _ R,Int.emod_lt_of_pos _ oM⟩
   refine kP (tN<|sQ<|bK<|sW I<|yD I<|lU (za3 I<|buildS80 _ _)<|bW (aL zm3) fun b7=>?_);refine oZ (sK 0 aR I I I I I sB)<|tZ (sW I<|yD I<|lM I<|lU (ze1 I I R)<|yD I<|lU (za3 I<|buildS80 _ _)<|bW (aL zm3) fun b8=>?_);refine oZ (sK 0 aR I I I I I sB)<|tZ<|sQ ?_;refine SC.to (fun w hw=>hw) (g':=g1) (s':=pt b8 (bY #[vi<|((k:Int)+1).tmod i+1,vi 1] 80)::pt b7 (bY #[vi<|(k:Int)+1,vi<|-1] 80)::rowA encSide 80 sv (gS i k)::rowA encCell 37 G b::pt P (bY #[G] 29)::pt O (bY #[.slice none 0 0] 29)::s) ?_;refine rG<|lU (fA dj I cj I)<|lK (qL (v:=G) ef I<|cO 4 I I)<|lM I<|lM I<|yD I<|yD I<|lK (qV 1 iY aR I I I)<|lK (qV 0 iY aR I I I)<|lW (bS sty35 I I I (ae sB) dC) ?_;rintro _ _ _ ⟨y,rfl,rfl,rfl⟩;refine zb5 fun g2 d V=>?_;have z:SlA encSide g2 (.slice (some ⟨y,0,none⟩) 2 2) [⟨(k:Int)+1,-1⟩,⟨((k:Int)+1).tmod i+1,1⟩]:=SlA.lit V rfl rfl;refine lU (za3 I<|buildF37 _ _ _ I)<|lW (bS sty27 I I I (ae sB) dC) ?_;rintro _ _ _ ⟨b9,rfl,rfl,rfl⟩;refine lW (aP (e:=encCell) 3 ⟨(i:Int)+k+1,1,⟨some ⟨y,0,none⟩,2,2⟩⟩ sty27 I I I I I oM oM) ?_;rintro v47 _ _ ⟨rfl,rfl⟩;refine zd4 fun ⟨K,c⟩=>?_;obtain ⟨Q,d9,rfl⟩:=ah (i:=3) c rfl;clear c K;refine lU (fA dj I cj I)<|oZ (sK 4 cj I I I I I sB)<|tZ<|rG<|lM I<|lM I<|lM I<|yD I<|yD I<|lU (za3 I<|buildS80 _ _)<|lW (bS sty35 I I I (ae sB) dC) ?_;rintro _ _ _ ⟨c0,rfl,rfl,rfl⟩;refine lW (aP (e:=encSide) 2 ⟨(i:Int)+k+1,1⟩ sty35 I I I I I oM oM) ?_;rintro v56 _ _ ⟨rfl,rfl⟩;refine lA I<|SL.nil<|bN<|tN<|rG<|lM I<|yD I<|lA I<|SL.nil<|dR (s':=rowA encSide 80 v56 (gS i k++[⟨(i:Int)+k+1,1⟩])::rowA encCell 37 (.slice Q (b++[(⟨(i:Int)+k+1,1,⟨some ⟨y,0,none⟩,2,2⟩⟩:Rc)]).length d9) (b++[⟨(i:Int)+k+1,1,⟨some ⟨y,0,none⟩,2,2⟩⟩])::pt P (.cells #[.slice Q (b++[(⟨(i:Int)+k+1,1,⟨some ⟨y,0,none⟩,2,2⟩⟩:Rc)]).length d9] 29 (0,0))::pt O (bY #[.slice none 0 0] 29)::s) (.cons _<|.cons _<|.refl _) ?_;rw[← Ae];refine ST.again (g2,_,b++[⟨(i:Int)+k+1,1,⟨some ⟨y,0,none⟩,2,2⟩⟩],v56,k+1) sB I I ⟨u.trans d,lN,?_⟩ lN;dsimp only;rw[Af,← zh2];exact (f.mono fun _ _=>ak.mono d).append ⟨⟨I,I,z⟩,trivial⟩
  ·have a1:k=i:=oM;subst a1;refine xI (tX<|tX<|bX<|tN<|sQ<|zd6 fun g2 d a2=>?_);have z:SlA encSide g2 sv (gS k k):=a2;obtain ⟨qs,ds,rfl⟩:=za4 z;have L:=f.mono fun _ _=>ak.mono d;refine rG<|lU (fA dj I cj I)<|lK (qL (v:=G) ef I<|cO 1 I I)<|lM I<|lU (SU.mul I I oM)<|yD I<|lM I<|lU (za3 I<|buildF37 _ _ _ I)<|lW (bS sty27 I I I (ae sB) dC) ?_;rintro _ _ _ ⟨c1,rfl,rfl,rfl⟩;refine lW (aP (e:=encCell) 0 ⟨2 * (k:Int)+1,2,⟨qs,(gS k k).length,ds⟩⟩ sty27 I I I I I oM oM) ?_;rintro v65 _ _ ⟨rfl,rfl⟩;refine zd4 fun ⟨K,c⟩=>?_;obtain ⟨Q,d9,rfl⟩:=ah (i:=0) c rfl;clear c K;refine lU (fA dj I cj I)<|oZ (sK 1 cj I I I I I sB)<|tZ<|sQ<|sW I<|lU (ze1 I I dC)<|yE I<|tZ ?_;have m:ax (ak g2) (mD k++nm k k++[⟨2 * (k:Int)+1,2,gS k k⟩]) (b++[⟨2 * (k:Int)+1,2,⟨qs,(gS k k).length,ds⟩⟩]):=L.append ⟨⟨rfl,rfl,z⟩,trivial⟩;obtain ⟨p,H⟩:∃ p,p=b++[(⟨2 * (k:Int)+1,2,⟨qs,(gS k k).length,ds⟩⟩:Rc)]:=⟨_,rfl⟩;have a3:p.length=b.length+1:=by rw[H];simp
   rw[← H] at m ⊢;have J:=(nu h6).1;refine iP I (fun M=>?_) (fun M=>?_)
   ·have A:fc k=mD k++nm k k++[⟨2 * (k:Int)+1,2,gS k k⟩]++[⟨2 * (k:Int)+2,2,gS k k⟩]:=by unfold fc;rw[zg4 M]
    refine dW [10,11,12] [(0,2),(1,1),(2,2),(3,2),(4,2),(6,2),(5,0),(7,0),(8,2),(9,0),(10,0),(11,0),(12,0)] ze6 kR<|pU I (fA dj I cj I)<|pK I (qL (v:=.slice Q p.length d9) ef I<|cO 1 I I)<|yM I<|pU I (SU.mul I I oM)<|pU I (aD I I oM)<|yM I<|SP.o I (bS sty35 I I I (ae trivial) dC) dC (.inr iR) ?_;rintro _ _ _ ⟨a4,rfl,rfl,rfl⟩;refine SP.to (fun w hw=>(hw.sublist<|List.Sublist.cons _<|.refl _).emptyRow 80 2<|some ⟨a4,0,none⟩) ?_;refine SP.o I (aQ (e:=encSide) (l:=[]) 0 sty35 I I I z lN lN) dC (.inr iR) ?_;rintro v77 _ _ ⟨rfl,rfl⟩;refine SP.freezeRow fun a5 B W=>?_;have C:SlA encSide a5 v77 ([]++gS k k):=W;rw[List.nil_append] at C;obtain ⟨X,d77,rfl⟩:=za4 C;refine pU I (za3 I<|buildF37 _ _ _ I)<|SP.o I (bS sty27 I I I (ae sB) dC) dC (.inr iR) ?_;rintro _ _ _ ⟨c2,rfl,rfl,rfl⟩;refine SP.o I (aP (e:=encCell) (l:=p) 0 ⟨2 * (k:Int)+2,2,⟨X,(gS k k).length,d77⟩⟩ sty27 I I I I I oM oM) dC (.inl dC) ?_;rintro v80 _ _ ⟨rfl,rfl⟩;refine zd3 fun ⟨K,c⟩=>?_;obtain ⟨a9,d10,rfl⟩:=ah (i:=0) c rfl;clear c K;refine oU I (fA dj I cj I) dC (.inl dC)<|SP.on I (sK 1 cj I I I I I sB) (.inl dC) ?_;rintro _ _ _ ⟨rfl,rfl⟩;refine pN (tN<|sQ<|zd6 fun D a F=>?_);have N:ai D (.slice a9 (p++[(⟨2 * (k:Int)+2,2,⟨X,(gS k k).length,d77⟩⟩:Rc)]).length d10) (fc k):=(by rw[A];exact⟨_,F,(m.mono fun _ _=>ak.mono<|B.trans a).append ⟨⟨I,I,C.mono a⟩,trivial⟩⟩);refine rG<|lK (qV 0 aj ag I I I)<|lW (SO.call call77 I<|cd E D _ _ (fc k) N J) ?_;rintro _ g79 _ ⟨rfl,q,b0,rfl,j⟩;obtain ⟨b1,d79,rfl⟩:=j.form;refine oZ (sK 1 ag I I I I I sB) ?_;refine tZ<|rE ?_;exact ST.retCD 1 s (.inl I) results74 I aj ag I I uR ⟨I,u.trans<|d.trans<|B.trans<|a.trans q,_,I,j⟩
   ·have A:fc k=mD k++nm k k++[⟨2 * (k:Int)+1,2,gS k k⟩]:=by unfold fc;rw[zg3 M,zc7]
    refine kP (tN<|sQ<|zd6 fun D a F=>?_);have N:ai D (.slice Q p.length d9) (fc k):=(by rw[A];exact⟨_,F,m.mono fun _ _=>ak.mono a⟩);refine rG<|lK (qV 0 aj ag I I I)<|lW (SO.call call77 I<|cd E D _ _ (fc k) N J) ?_;rintro _ g79 _ ⟨rfl,q,b0,rfl,j⟩;obtain ⟨b1,d79,rfl⟩:=j.form;exact oZ (sK 1 ag I I I I I sB)<|tZ<|rE<|ST.retCD 1 s (.inl I) results74 I aj ag I I uR ⟨I,u.trans<|d.trans<|a.trans q,_,I,j⟩
theorem dH (a b:Int)(c:0<b)(d:b≤1000):0≤bV a b∧bV a b<b:=by
 have e:a.tmod b<b:=Int.tmod_lt_of_pos a c;have f : -b<a.tmod b:=by
  have:=Int.lt_tmod_of_pos a c;omega
 unfold bV;rw[zl3 _ oM,Int.tmod_eq_emod_of_nonneg oM];exact⟨Int.emod_nonneg _ oM,Int.emod_lt_of_pos _ c⟩
def AW (y:Int):Int:=1+2 * bV (IntKind.i64.wrap<|y.tdiv 7) 3
def DO (y:Int):Int:=bV (IntKind.i64.wrap<|y.tdiv 5) 4
def jz (t:Int)(x:Cl):Bool:=decide (t>1)&&decide (x.id.tmod t=1)
def jm (t:Int)(x:Cl)(q:Int):Bool:=(decide (t>1)&&decide (x.dim>1))&&decide (q.tmod t=1)
def vz (b:Bool)(a:Int):Int:=if b then IntKind.i64.wrap (0 - a) else a
def bl (k t:Int)(x:Cl)(q:am):am:=⟨eU q.cell k,vz (jm t x q.cell)<|vz (jz t x) q.sign⟩
def aM (k t:Int)(x:Cl):Cl:=⟨eU x.id k,x.dim,x.sides.map<|bl k t x⟩
def Gj (l:List Cl)(y:Int):List Cl:=aa (l.map<|aM (AW y)<|DO y)
theorem yq {l:List Cl}(h:aK l)(k t:Int):aK (l.map<|aM k t):=by
 refine⟨by simpa using h.1,fun c hc=>?_⟩;obtain ⟨x,a,rfl⟩:=zf5.1 hc;simpa [aM] using h.2 x a
theorem ky (E:World)(g:PH)(s:Own)(v:Value)(l:List Cl)(y:Int)(hv:ai g v l)(hf:aK l) :
  Ctr Tryz.prog E 76 #[.agg #[v],vi y] g s (fun r g' s'=>s=s'∧Le g g'∧∃ x,r = .agg #[x]∧ai g' x (Gj l y)):=by
 obtain ⟨rs,P,O⟩:=hv;have el:=O.length;obtain ⟨p,c,rfl⟩:=P.form;have c9:=hf.1;have d0:=dH (IntKind.i64.wrap<|y.tdiv 7) 3 dC dC;have b3:=dH (IntKind.i64.wrap<|y.tdiv 5) 4 dC dC;refine zb2 (args:=[.agg #[.slice p rs.length c],vi y]) func76 I ntmps76 (bE I)<|rZ (bW (bO I) fun B=>?_);refine bW (aL zm2) fun C=>tZ<|sW I<|lU (SU.quo I I dC)<|lW (SO.call lX I<|bB E g _ _ 3 dC) ?_;rintro _ _ _ ⟨rfl,rfl,rfl⟩;refine lU (SU.mul I I oM)<|yD I<|aT I<|sW I<|lU (SU.quo I I dC)<|lW (SO.call lX I<|bB E g _ _ 4 dC) ?_;rintro _ _ _ ⟨rfl,rfl,rfl⟩;refine aT I (rZ<|bW (aL zm2) fun D=>?_);refine tZ<|sQ<|rZ<|aT I<|bK<|zb6 37 3 ?_;have b5:1+2 * bV (IntKind.i64.wrap<|y.tdiv 7) 3=AW y:=rfl;have Y:bV (IntKind.i64.wrap<|y.tdiv 5) 4=DO y:=rfl;rw[Y] at b3;unfold Gj;simp only[b5,Y];generalize AW y=k at *;generalize DO y=t at *;refine oP (ι:=PH×Value×List Rc×Nat) (fun i=>[(2,pp B 0),(4,pp C 0),(5,vi k),(6,vi t),(7,pp D 0),(8,vi i.2.2.2)]) (fun i=>i.1) (fun i=>rowA encCell 37 i.2.1 i.2.2.1::pt D (bY #[i.2.1] 29)::pt C (bY #[.slice none 0 0] 29)::pt B (bY #[.slice p rs.length c] 29)::s)
  (fun i=>Le g i.1∧i.2.2.2≤rs.length∧ax (ak i.1) ((l.take i.2.2.2).map<|aM k t) i.2.2.1) (fun i=>rs.length - i.2.2.2)
  (g,.slice none 0 0,[],0) sB rfl rfl ⟨zb9 g,zf9 _,trivial⟩ ?_
 rintro ⟨g1,A,d,i⟩ ⟨H,hi,m⟩;dsimp only at H hi m ⊢;have b6:=m.length;rw[ze9,ze7] at b6;refine sQ<|sW I<|lU (fA dj I cj I)<|lK (qL (v:=.slice p rs.length c) ef I<|cO 3 I I)<|lU (eN aC I)<|yL I<|tZ<|iP I (fun b8=>?_) (fun b8=>?_)
 ·have Q:i<l.length:=oM;have Z:i<rs.length:=oM;have c0:=P.based oM;have c1:=(O.get (List.getElem?_eq_getElem Q)<|List.getElem?_eq_getElem Z).mono H;have a0:rs[((i:Nat):Int).toNat]?=some rs[i]:=List.getElem?_eq_getElem Z;have R:=gW Q<|aM k t;have d1:=hf.2 _<|gM Q;generalize d2:l[i]=x at *;obtain ⟨J,a,c2,M⟩:=ee c1;rw[c2] at a0;refine kP (tN<|sQ<|bK<|rZ<|lU (fA dj I cj I)<|lK (qL (v:=.slice p rs.length c) ef I<|cO 3 I I)<|lM I<|lU (iA aC ar I I c0 oM sL)<|lK (SQ.elemA dn ar I (P.mono H).rd a0)<|bW (aL zl8) fun G=>?_);refine oZ (sK 0 ar I I I I I sB)<|tZ ?_;refine SC.to (fun w hw=>hw) (g':=g1) (s':=pt G (bY #[vi x.id,vi x.dim,.slice J x.sides.length a] 37)::rowA encCell 37 A d::pt D (bY #[A] 29)::pt C (bY #[.slice none 0 0] 29)::pt B (bY #[.slice p rs.length c] 29)::s) ?_;refine SC.cut (ι:=Nat) (fun b=>[(2,pp B 0),(4,pp C 0),(5,vi k),(6,vi t),(7,pp D 0),(8,vi i),(9,pp G 0),(10,pp b 0)]) (fun _=>g1) (fun b=>pt b (bY #[vi<|eU x.id k,vi x.dim,.slice none 0 0] 37)::pt G (bY #[vi x.id,vi x.dim,.slice J x.sides.length a] 37)::rowA encCell 37 A d::pt D (bY #[A] 29)::pt C (bY #[.slice none 0 0] 29)::pt B (bY #[.slice p rs.length c] 29)::s) (fun _=>True) ?_ ?_
  ·refine SC.drawX [] ze6 kR ?_;refine SX.u (i:=0) I kR (fA ao I zT3 I) dC<|SX.q (i:=1) I kR (qL (v:=vi x.id) iT3 I<|cO 0 I I) dC<|SX.u (i:=2) I kR (mV I) dC<|SX.u (i:=4) I kR (fA ao I zT3 I) dC<|SX.q (i:=5) I kR (qL (v:=vi x.dim) iT3 I<|cO 0 I I) dC ?_
   repeat' (first
    | (refine SB.o (i:=3) I (SO.call call118 I<|kE E g1 _ x.id k) dC (.inr iR) ?_;rintro _ _ _ ⟨rfl,rfl,rfl⟩;refine SX.u (i:=6) I kD (za3 I<|buildC37 _ _) dC ?_)
    | (refine SB.o (i:=3) I (SO.call call118 I<|kE E g1 _ x.id k) dC (.inr iR) ?_;rintro _ _ _ ⟨rfl,rfl,rfl⟩;refine SX.u (i:=6) I kD (za3 I<|buildC37 _ _) dC ?_)
    | (refine SB.o (i:=7) I (aL zl8) dC (.inr iR) ?_;rintro _ _ _ ⟨b,rfl,rfl,rfl⟩)
    | (refine SB.on (i:=8) I (sK 0 ar I I I I I sB) (.inr iR) ?_;rintro _ _ _ ⟨rfl,rfl⟩)
    | refine zd9 3 7 kD ?_ ?_
    | refine zd8 7 kD ?_
    | refine zd8 8 kD ?_
    | refine zd8 3 kD ?_
    | (refine SX.nil kD ?_;exact za9 b sB I I trivial))
  rintro b -;try dsimp only
  refine zb6 80 2<|sQ<|rZ<|aT I<|bK<|oP (ι:=Value×Nat) (fun j=>[(2,pp B 0),(4,pp C 0),(5,vi k),(6,vi t),(7,pp D 0),(8,vi i),(9,pp G 0),(10,pp b 0),(11,vi j.2)]) (fun _=>g1) (fun j=>rowA encSide 80 j.1 ((x.sides.take j.2).map<|bl k t x)::pt b (bY #[vi<|eU x.id k,vi x.dim,j.1] 37)::pt G (bY #[vi x.id,vi x.dim,.slice J x.sides.length a] 37)::rowA encCell 37 A d::pt D (bY #[A] 29)::pt C (bY #[.slice none 0 0] 29)::pt B (bY #[.slice p rs.length c] 29)::s)
   (fun j=>j.2≤x.sides.length) (fun j=>x.sides.length - j.2) (.slice none 0 0,0) sB rfl rfl (zf9 _) ?_
  rintro ⟨sv,j⟩ hj;dsimp only at hj ⊢;refine sQ<|sW I<|lU (fA ao I aI I)<|lK (qL (v:=.slice J x.sides.length a) bi I<|cO 2 I I)<|lU (eN a7 I)<|yL I<|tZ<|iP I (fun a1=>?_) (fun a1=>?_)
  ·have a2:j<x.sides.length:=oM;have F:=M.based oM;have S:x.sides[((j:Nat):Int).toNat]?=some x.sides[j]:=List.getElem?_eq_getElem a2;have a3:=gW a2<|bl k t x;generalize x.sides[j]=z at *;refine kP<|tN<|sQ<|bK<|SC.cut (ι:=Nat) (fun f=>[(2,pp B 0),(4,pp C 0),(5,vi k),(6,vi t),(7,pp D 0),(8,vi i),(9,pp G 0),(10,pp b 0),(11,vi j),(12,pp f 0)]) (fun _=>g1) (fun f=>pt f (bY #[vi<|eU z.cell k,vi z.sign] 80)::rowA encSide 80 sv ((x.sides.take j).map<|bl k t x)::pt b (bY #[vi<|eU x.id k,vi x.dim,sv] 37)::pt G (bY #[vi x.id,vi x.dim,.slice J x.sides.length a] 37)::rowA encCell 37 A d::pt D (bY #[A] 29)::pt C (bY #[.slice none 0 0] 29)::pt B (bY #[.slice p rs.length c] 29)::s) (fun _=>True) ?_ ?_
   ·refine SC.drawX [] ze6 kR ?_;refine SX.u (i:=0) I kR (fA ao I aI I) dC<|SX.q (i:=1) I kR (qL (v:=.slice J x.sides.length a) bi I<|cO 2 I I) dC<|SX.u (i:=2) I kR (mV I) dC<|SX.u (i:=3) I kR (iA a7 aR I I F oM sL) dC<|SX.u (i:=4) I kR (fC df I zT3 I F) dC<|SX.q (i:=5) I kR (aZ (e:=encSide) (o:=0) (u:=vi z.cell) iT3 I M.rd S I) dC<|SX.u (i:=6) I kR (mV I) dC<|SX.u (i:=8) I kR (fA ao I aI I) dC<|SX.q (i:=9) I kR (qL (v:=.slice J x.sides.length a) bi I<|cO 2 I I) dC<|SX.u (i:=10) I kR (mV I) dC<|SX.u (i:=11) I kR (iA a7 aR I I F oM sL) dC<|SX.u (i:=12) I kR (fC df I zT3 I F) dC<|SX.q (i:=13) I kR (aZ (e:=encSide) (o:=1) (u:=vi z.sign) iT3 I M.rd S I) dC ?_
    repeat' (first
     | (refine SB.o (i:=7) I (SO.call call118 I<|kE E g1 _ z.cell k) dC (.inr iR) ?_;rintro _ _ _ ⟨rfl,rfl,rfl⟩;refine SX.u (i:=14) I kD (za3 I<|buildS80 _ _) dC ?_)
     | (refine SB.o (i:=7) I (SO.call call118 I<|kE E g1 _ z.cell k) dC (.inr iR) ?_;rintro _ _ _ ⟨rfl,rfl,rfl⟩;refine SX.u (i:=14) I kD (za3 I<|buildS80 _ _) dC ?_)
     | (refine SB.o (i:=15) I (aL zm3) dC (.inr iR) ?_;rintro _ _ _ ⟨f,rfl,rfl,rfl⟩)
     | (refine SB.on (i:=16) I (sK 0 aR I I I I I sB) (.inr iR) ?_;rintro _ _ _ ⟨rfl,rfl⟩)
     | refine zd9 7 15 kD ?_ ?_
     | refine zd8 15 kD ?_
     | refine zd8 16 kD ?_
     | refine zd8 7 kD ?_
     | (refine SX.nil kD ?_;exact za9 f sB I I trivial))
   rintro f -;try dsimp only
   have e1:t>1→jz t x=decide (x.id.tmod t=1):=fun h=>by simp[jz,h]
   have e2:¬ t>1→jz t x=false:=fun h=>by simp only[jz,h,decide_false,Bool.false_and]
   have e3:t>1→x.dim>1→jm t x z.cell=decide (z.cell.tmod t=1):=fun h h'=>by simp[jm,h,h']
   have e4:t>1→¬ x.dim>1→jm t x z.cell=false:=fun h h'=>by simp only[jm,h',decide_false,Bool.and_false,Bool.false_and]
   have e5:¬ t>1→jm t x z.cell=false:=fun h=>by simp only[jm,h,decide_false,Bool.false_and]
   refine SC.cut (ι:=Int) (fun _=>[(2,pp B 0),(4,pp C 0),(5,vi k),(6,vi t),(7,pp D 0),(8,vi i),(9,pp G 0),(10,pp b 0),(11,vi j),(12,pp f 0)]) (fun _=>g1) (fun sg=>pt f (bY #[vi<|eU z.cell k,vi sg] 80)::rowA encSide 80 sv ((x.sides.take j).map<|bl k t x)::pt b (bY #[vi<|eU x.id k,vi x.dim,sv] 37)::pt G (bY #[vi x.id,vi x.dim,.slice J x.sides.length a] 37)::rowA encCell 37 A d::pt D (bY #[A] 29)::pt C (bY #[.slice none 0 0] 29)::pt B (bY #[.slice p rs.length c] 29)::s) (fun sg=>sg=vz (jz t x) z.sign) ?_ ?_
   ·refine SC.cutB 69 ((jz t x)) ?_ ?_
    ·refine rG<|lM I<|lU (gR I I)<|lM I<|sP ?_ ?_
     ·intro T;refine lY I I I (fA ao I zT3 I)<|SL.gq (gT I I I dC) (qL (v:=vi x.id) iT3 I<|cO 3 I I) dC<|yC I<|ze4 (gT I I I dC) (SO.call call119 I<|pd E g1 _ x.id t oM) dC ?_;rintro _ _ _ ⟨rfl,rfl,rfl⟩;exact yP I<|SL.nil<|zb1 (by (rw[e1 T];rfl)) mI
     ·intro T;exact yA I<|yA I<|yA I<|yA I<|yF I<|SL.nil<|zb1 (by (rw[e2 T];rfl)) mI
    refine iQ I (fun U=>?_) (fun U=>?_)
    ·refine rG<|lU (fA df rfl zT3 rfl)<|lK (qL (v:=vi z.sign) iT3 rfl<|cO 0 rfl rfl)<|lU (SU.neg rfl)<|lU (fA df rfl zT3 rfl)<|oZ (SO.store1 0 zT3 rfl rfl rfl rfl (bE rfl)<|by rfl) ?_;refine SL.nil ?_;exact za9 (IntKind.i64.wrap<|0 - z.sign) sB I I (by rw[U];rfl)
    ·exact kP<|za9 z.sign sB I I (by rw[U];rfl)
   rintro s1 c3;try dsimp only
   refine SC.cut (ι:=Int) (fun _=>[(2,pp B 0),(4,pp C 0),(5,vi k),(6,vi t),(7,pp D 0),(8,vi i),(9,pp G 0),(10,pp b 0),(11,vi j),(12,pp f 0)]) (fun _=>g1) (fun sg=>pt f (bY #[vi<|eU z.cell k,vi sg] 80)::rowA encSide 80 sv ((x.sides.take j).map<|bl k t x)::pt b (bY #[vi<|eU x.id k,vi x.dim,sv] 37)::pt G (bY #[vi x.id,vi x.dim,.slice J x.sides.length a] 37)::rowA encCell 37 A d::pt D (bY #[A] 29)::pt C (bY #[.slice none 0 0] 29)::pt B (bY #[.slice p rs.length c] 29)::s) (fun sg=>sg=vz (jm t x z.cell) s1) ?_ ?_
   ·refine SC.cutB 90 ((jm t x z.cell)) ?_ ?_
    ·refine rG<|lM I<|lU (gR I I)<|lM I<|sP ?_ ?_
     ·intro N;refine lY I I I (fA ao I zT3 I)<|SL.gq (gT I I I dC) (qL (v:=vi x.dim) iT3 I<|cO 3 I I) dC<|lY I I I (gR I I)<|yP I<|lM I<|sP ?_ ?_
      ·intro V;refine lY I I I (fA ao I aI I)<|SL.gq (gT I I I dC) (qL (v:=.slice J x.sides.length a) bi I<|cO 3 I I) dC<|yC I<|lY I I I (iA a7 aR I I F oM sL)<|lY I I I (fC df I zT3 I F)<|SL.gq (gT I I I dC) (aZ (e:=encSide) (o:=0) (u:=vi z.cell) iT3 I M.rd S I) dC<|yC I<|ze4 (gT I I I dC) (SO.call call119 I<|pd E g1 _ z.cell t oM) dC ?_;rintro _ _ _ ⟨rfl,rfl,rfl⟩;exact yP I<|SL.nil<|zb1 (by (rw[e3 N V];rfl)) mI
      ·intro V;exact yA I<|yA I<|yA I<|yA I<|yA I<|yA I<|yA I<|yA I<|yF I<|SL.nil<|zb1 (by (rw[e4 N V];rfl)) mI
     ·intro N;exact yA I<|yA I<|yA I<|yF I<|lM I<|yA I<|yA I<|yA I<|yA I<|yA I<|yA I<|yA I<|yA I<|yF I<|SL.nil<|zb1 (by (rw[e5 N];rfl)) mI
    refine iQ I (fun W=>?_) (fun W=>?_)
    ·refine rG<|lU (fA df rfl zT3 rfl)<|lK (qL (v:=vi s1) iT3 rfl<|cO 0 rfl rfl)<|lU (SU.neg rfl)<|lU (fA df rfl zT3 rfl)<|oZ (SO.store1 0 zT3 rfl rfl rfl rfl (bE rfl)<|by rfl) ?_;refine SL.nil ?_;exact za9 (IntKind.i64.wrap<|0 - s1) sB I I (by rw[W];rfl)
    ·exact kP<|za9 s1 sB I I (by rw[W];rfl)
   rintro s2 K;try dsimp only
   have c4:bl k t x z=⟨eU z.cell k,s2⟩:=by unfold bl;rw[K,c3]
   rw[c4] at a3;have d4:((x.sides.take j).map<|bl k t x).length=j:=by rw[ze9,ze7];omega
   refine rG<|lU (fA ao I aI I)<|lK (qL (v:=sv) bi I<|cO 2 I I)<|lK (qV 0 iY aR I I I)<|lW (bS sty35 I I I (ae sB) dC) ?_;rintro _ _ _ ⟨d5,rfl,rfl,rfl⟩;refine lW (aP (e:=encSide) 1 ⟨eU z.cell k,s2⟩ sty35 I I I I I oM oM) ?_;rintro sv' _ _ ⟨rfl,rfl⟩;rw[← a3];refine zd4 fun ⟨w0,L⟩=>?_;obtain ⟨q6,d6,rfl⟩:=ah (i:=1) L rfl;clear L w0;refine lU (fA ao rfl aI rfl)<|oZ (SO.store1 2 aI rfl rfl rfl rfl (bE rfl)<|by rfl) ?_;refine SL.nil<|bN<|tN<|rG<|lM I<|yD I<|lA I<|SL.nil<|dR (s':=rowA encSide 80 (.slice q6 ((x.sides.take<|j+1).map<|bl k t x).length d6) ((x.sides.take<|j+1).map<|bl k t x)::pt b (bY #[vi<|eU x.id k,vi x.dim,(.slice q6 ((x.sides.take<|j+1).map<|bl k t x).length d6)] 37)::pt G (bY #[vi x.id,vi x.dim,.slice J x.sides.length a] 37)::rowA encCell 37 A d::pt D (bY #[A] 29)::pt C (bY #[.slice none 0 0] 29)::pt B (bY #[.slice p rs.length c] 29)::s) (.cons _<|.refl _) ?_;exact ST.again (_,j+1) sB I I lN lN
  ·have c5:x.sides.take j=x.sides:=tL oM;rw[c5];refine xI (tX<|tX<|bX<|tN<|zd6 fun g2 n K=>?_);have a4:SlA encSide g2 sv (x.sides.map<|bl k t x):=K;obtain ⟨q8,d8,rfl⟩:=za4 a4;obtain ⟨X,a5⟩:∃ X:Rc,X=⟨eU x.id k,x.dim,⟨q8,(x.sides.map<|bl k t x).length,d8⟩⟩:=⟨_,rfl⟩;refine rG<|lU (fA dj I cj I)<|lK (qL (v:=A) ef I<|cO 3 I I)<|lK (qV 0 dn ar I I I)<|lW (bS sty27 I I I (ae sB) dC) ?_;rintro _ _ _ ⟨c7,rfl,rfl,rfl⟩;refine lW (aP (e:=encCell) 2 X sty27 I I I I (by rw[a5];rfl) oM oM) ?_;rintro v105 _ _ ⟨rfl,rfl⟩;refine zd4 fun ⟨w0,L⟩=>?_;obtain ⟨q9,d9,rfl⟩:=ah (i:=2) L rfl;clear L w0;refine lU (fA dj I cj I)<|oZ (sK 3 cj I I I I I sB)<|SL.nil<|bN<|tN<|rG<|lM I<|yD I<|lA I<|SL.nil<|dR (s':=rowA encCell 37 (.slice q9 (d++[X]).length d9) (d++[X])::pt D (.cells #[(.slice q9 (d++[X]).length d9)] 29 (0,0))::pt C (bY #[.slice none 0 0] 29)::pt B (bY #[.slice p rs.length c] 29)::s) (.cons _<|.cons _<|.refl _)<|ST.again (g2,_,d++[X],i+1) sB I I ⟨H.trans n,lN,?_⟩ lN;dsimp only;rw[R];exact (m.mono fun _ _=>ak.mono n).append ⟨(by rw[a5];exact⟨I,I,a4⟩),trivial⟩
 ·have c6:l.take i=l:=tL oM;rw[c6] at m;refine xI (tX<|tX<|bX<|tN<|sQ<|zd6 fun g2 n K=>?_);have a9:ai g2 A (l.map<|aM k t):=⟨d,K,m.mono fun _ _=>ak.mono n⟩;obtain ⟨qo,d7,rfl⟩:=a9.form;refine rG<|lK (qV 0 aj ag I I I)<|lW (SO.call call77 I<|cd E g2 _ _ _ a9<|yq hf k t) ?_;rintro _ g3 _ ⟨rfl,b0,x3,rfl,b1⟩;obtain ⟨q3,d3,rfl⟩:=b1.form;exact oZ (sK 1 ag I I I I I sB)<|tZ<|rE<|ST.retCD 1 s (.inl I) results76 I aj ag I I uR ⟨I,H.trans<|n.trans b0,_,I,b1⟩
def wN (j:Int):List (List Int):=if j=0 then [[0,1]] else if j=1 then [[0,1],[1,2]] else [[0,1],[1,2],[0,2]]
def Gi (j:Int)(a b c:Value):Value:=if j=0 then a else if j=1 then b else c
theorem ym {j:Int}(h:0≤j∧j<3)(a b c:Value) : #[a,b,c][0+j.toNat * 1]?=some (Gi j a b c):=by
 rcases (by omega:j=0∨j=1∨j=2) with rfl | rfl | rfl <;> rfl
theorem pg {g:PH}{j:Int}(h:0≤j∧j<3){a b c:Value}(d:cU g a [[0,1]])(hb:cU g b [[0,1],[1,2]])(hc:cU g c [[0,1],[1,2],[0,2]]):cU g (Gi j a b c) (wN j):=by
 rcases (by omega:j=0∨j=1∨j=2) with rfl | rfl | rfl
 ·exact d
 ·exact hb
 ·exact hc
theorem jp (j:Int):(wN j).length≤3∧∀ x∈wN j,x.length≤2:=by
 unfold wN;split
 ·exact⟨by decide,by decide⟩
 ·split
  ·exact⟨by decide,by decide⟩
  ·exact⟨by decide,by decide⟩
theorem zN (y:Int):4≤(nj y).length∧(nj y).length≤14∧∀ x∈nj y,x.length≤3:=by
 unfold nj;split
 ·exact⟨by decide,by decide,by decide⟩
 ·split
  ·exact⟨by decide,by decide,by decide⟩
  ·refine⟨by rw[j8];decide,by rw[j8];decide,fun x a=>?_⟩;obtain ⟨i,_,a⟩:=List.mem_flatMap.1 a;simp at a
   rcases a with rfl | rfl <;> simp
def oD (m:Int)(ls:List (List Int))(y:Int):List Cl :=
 if m=3 then dB (nj y) else if m=4 then cX (dB<|wN<|bV y 3) (dB<|wN<|bV (IntKind.i64.wrap<|y.tdiv 3) 3)
 else if m=5 then xe (2+bV y 5).toNat else if m=6 then cX (cX (dB [[0,1]])<|dB [[0,1]]) (dB [[0,1]])
 else if m=7 then dB (oB ls++(nj y).take (2+bV y 2).toNat) else dB (oB ls)
theorem sh (m:Int)(ls:List (List Int))(y:Int):aK (oD m ls y):=by
 unfold oD;have a:=dH y 5 dC dC
 repeat' split
 ·exact (eJ _).1
 ·exact (ft _ _).1
 ·exact aB (nu oM).1
 ·exact (ft _ _).1
 ·exact (eJ _).1
 ·exact (eJ _).1
def qJ (b:List Cl):List Cl:=if (b.length:Int)>45 then qB else b
def jS (kd:Int)(ls:List (List Int))(y:Int):List Cl:=Gj (qJ<|oD (bV kd 8) ls y) y
theorem C0 {b:List Cl}(h:aK b):aK (qJ b):=by
 unfold qJ;split
 ·exact (ft _ _).1
 ·exact h
theorem rD (a:Int)(ls:List (List Int))(y:Int):aK (jS a ls y):=aB (yq (C0<|sh _ _ _) _ _)
theorem Tryz.build113 (a:Option Addr)(b c1:Nat)(c:Option Addr)(d c2:Nat)(e:Option Addr)(f g:Nat)(w:World):(Instr.build 113 #[(0,.slice a b c1),(1,.slice c d c2),(2,.slice e f g)]).run Tryz.prog w = .ok (.agg #[.slice a b c1,.slice c d c2,.slice e f g]) w:=by
 have hz:(Value.agg #[Value.slice none 0 0,Value.slice none 0 0,Value.slice none 0 0]).cells = #[.slice none 0 0,.slice none 0 0,.slice none 0 0]:=rfl;have i:(Value.slice a b c1).cells = #[.slice a b c1]:=rfl;have j:(Value.slice c d c2).cells = #[.slice c d c2]:=rfl;have k:(Value.slice e f g).cells = #[.slice e f g]:=rfl;simp[Instr.build,Instr.fill,hz,i,j,k]
theorem Cy (E:World)(g:PH)(s:Own)(v:Value)(k y:Int)(ls:List (List Int))(hv:cU g v ls) :
  Ctr Tryz.prog E 22 #[.agg #[vi k,v,vi y]] g s (fun r g' s'=>s=s'∧Le g g'∧∃ x,r = .agg #[x]∧ai g' x (jS k ls y)):=by
 obtain ⟨p,n,c,rfl⟩:∃ p n c,v = .slice p n c:=by
  obtain ⟨h4,b0,_⟩:=hv;obtain ⟨p,c,rfl⟩:=za4 b0;exact⟨_,_,_,I⟩
 have h5:=dH k 8 dC dC;have b4:=dH y 3 dC dC;have a4:=dH (IntKind.i64.wrap<|y.tdiv 3) 3 dC dC;have h6:=dH y 5 dC dC;have h7:=dH y 2 dC dC;have Z:=zU ls;have b7:=zN y;unfold jS;have b8:=sh (bV k 8) ls y;refine zb2 (args:=[.agg #[vi k,.slice p n c,vi y]]) func22 I ntmps22 (bE I)<|rZ (bW (bO I) fun b1=>?_);refine bW (aL zm2) fun b2=>tZ (rZ<|bW (aL zm2) fun b3=>?_);refine tZ ?_;refine SC.to (fun w hw=>hw) (g':=g) (s':=pt b3 (bY #[.slice none 0 0] 29)::pt b2 (bY #[.slice none 0 0] 29)::pt b1 (bY #[vi k,.slice p n c,vi y] 24)::s) ?_;refine SC.cut (ι:=PH×Value) (fun _=>[(1,pp b1 0),(2,pp b2 0),(3,pp b3 0)]) (fun i=>i.1) (fun i=>pt b3 (bY #[i.2] 29)::pt b2 (bY #[.slice none 0 0] 29)::pt b1 (bY #[vi k,.slice p n c,vi y] 24)::s) (fun i=>Le g i.1∧ai i.1 i.2 (oD (bV k 8) ls y)) ?_ ?_
 ·rcases (by omega:(bV k 8=0∨bV k 8=1∨bV k 8=2)∨bV k 8=3∨bV k 8=4∨bV k 8=5∨bV k 8=6∨bV k 8=7) with (hm | hm | hm) | hm | hm | hm | hm | hm
  ·refine rZ<|lU (fA mN I zT3 I)<|lK (qL (v:=vi k) iT3 I<|cO 2 I I)<|lW (SO.call lX I<|bB E g _ _ 8 dC) ?_;rintro _ _ _ ⟨rfl,rfl,rfl⟩;rw[hm];refine tZ<|bK<|sQ<|rZ<|yE I<|aT I<|za2 I<|kP<|tN<|za2 I<|rG<|lU (fA mN I sizeOf22 I)<|lK (qL (v:=.slice p n c) isAgg22 I<|cO 2 I I)<|lW (SO.call call71 I<|l9 E g _ _ ls hv) ?_;rintro v16 g1 _ ⟨R,rfl,f,j⟩;refine zd7 fun g2 b U=>?_;have F:cU g2 v16 (oB ls):=⟨R,U,j.mono fun _ _=>ec.mono b⟩;refine lW (SO.call call70 I<|aU E g2 _ _ _ F oM (fun x S=>by have:=Z.2 x S;omega)) ?_;rintro _ g3 _ ⟨rfl,a,u,rfl,G⟩;obtain ⟨q,d,rfl⟩:=G.form;exact oZ (sK 0 ag I I I I I sB)<|SL.nil<|bN<|za9 (g3,_) sB I I ⟨f.trans<|b.trans a,G⟩
  ·refine rZ<|lU (fA mN I zT3 I)<|lK (qL (v:=vi k) iT3 I<|cO 2 I I)<|lW (SO.call lX I<|bB E g _ _ 8 dC) ?_;rintro _ _ _ ⟨rfl,rfl,rfl⟩;rw[hm];refine tZ<|bK<|sQ<|rZ<|yE I<|aT I<|za1 I<|rZ<|yE I<|aT I<|za2 I<|kP<|tN<|za2 I<|rG<|lU (fA mN I sizeOf22 I)<|lK (qL (v:=.slice p n c) isAgg22 I<|cO 2 I I)<|lW (SO.call call71 I<|l9 E g _ _ ls hv) ?_;rintro v16 g1 _ ⟨R,rfl,f,j⟩;refine zd7 fun g2 b U=>?_;have F:cU g2 v16 (oB ls):=⟨R,U,j.mono fun _ _=>ec.mono b⟩;refine lW (SO.call call70 I<|aU E g2 _ _ _ F oM (fun x S=>by have:=Z.2 x S;omega)) ?_;rintro _ g3 _ ⟨rfl,a,u,rfl,G⟩;obtain ⟨q,d,rfl⟩:=G.form;exact oZ (sK 0 ag I I I I I sB)<|SL.nil<|bN<|za9 (g3,_) sB I I ⟨f.trans<|b.trans a,G⟩
  ·refine rZ<|lU (fA mN I zT3 I)<|lK (qL (v:=vi k) iT3 I<|cO 2 I I)<|lW (SO.call lX I<|bB E g _ _ 8 dC) ?_;rintro _ _ _ ⟨rfl,rfl,rfl⟩;rw[hm];refine tZ<|bK<|sQ<|rZ<|yE I<|aT I<|za1 I<|rZ<|yE I<|aT I<|za1 I<|rG<|yE I<|aT I<|za2 I<|rG<|lU (fA mN I sizeOf22 I)<|lK (qL (v:=.slice p n c) isAgg22 I<|cO 2 I I)<|lW (SO.call call71 I<|l9 E g _ _ ls hv) ?_;rintro v16 g1 _ ⟨R,rfl,f,j⟩;refine zd7 fun g2 b U=>?_;have F:cU g2 v16 (oB ls):=⟨R,U,j.mono fun _ _=>ec.mono b⟩;refine lW (SO.call call70 I<|aU E g2 _ _ _ F oM (fun x S=>by have:=Z.2 x S;omega)) ?_;rintro _ g3 _ ⟨rfl,a,u,rfl,G⟩;obtain ⟨q,d,rfl⟩:=G.form;exact oZ (sK 0 ag I I I I I sB)<|SL.nil<|bN<|za9 (g3,_) sB I I ⟨f.trans<|b.trans a,G⟩
  ·refine rZ<|lU (fA mN I zT3 I)<|lK (qL (v:=vi k) iT3 I<|cO 2 I I)<|lW (SO.call lX I<|bB E g _ _ 8 dC) ?_;rintro _ _ _ ⟨rfl,rfl,rfl⟩;rw[hm];refine tZ<|bK<|sQ<|rZ<|yE I<|aT I<|za1 I<|rZ<|yE I<|aT I<|za1 I<|rG<|yE I<|aT I<|za1 I<|rZ<|yE I<|aT I<|za2 I<|rG<|lU (fA mN I zT3 I)<|lK (qL (v:=vi y) iT3 I<|cO 2 I I)<|lW (SO.call call72 I<|nr E g _ y) ?_;rintro v22 g1 _ ⟨rfl,f,F⟩;refine lW (SO.call call70 I<|aU E g1 _ _ _ F oM (fun x S=>by have:=b7.2.2 x S;omega)) ?_;rintro _ g3 _ ⟨rfl,a,u,rfl,G⟩;obtain ⟨q,d,rfl⟩:=G.form;exact oZ (sK 0 ag I I I I I sB)<|SL.nil<|bN<|za9 (g3,_) sB I I ⟨f.trans a,G⟩
  ·refine rZ<|lU (fA mN I zT3 I)<|lK (qL (v:=vi k) iT3 I<|cO 2 I I)<|lW (SO.call lX I<|bB E g _ _ 8 dC) ?_;rintro _ _ _ ⟨rfl,rfl,rfl⟩;rw[hm];refine tZ<|bK<|sQ<|rZ<|yE I<|aT I<|za1 I<|rZ<|yE I<|aT I<|za1 I<|rG<|yE I<|aT I<|za1 I<|rZ<|yE I<|aT I<|za1 I<|rZ<|yE I<|aT I<|za2 I<|rZ<|lU (fA mN I zT3 I)<|lK (qL (v:=vi y) iT3 I<|cO 2 I I)<|lW (SO.call lX I<|bB E g _ _ 3 dC) ?_;rintro _ _ _ ⟨rfl,rfl,rfl⟩;refine aT I<|rZ<|lW (bS sty32 I I I (ae sB) dC) ?_;rintro _ _ _ ⟨d5,rfl,rfl,rfl⟩;refine zb5 fun g1 f b9=>?_;refine lW (bS sty22 I I I (ae ⟨I,trivial⟩) dC) ?_;rintro _ _ _ ⟨a0,rfl,rfl,rfl⟩;refine zb5 fun g2 b c0=>?_;have O:cU g2 (.slice (some ⟨a0,0,none⟩) 1 1) [[0,1]]:=⟨[jD<|.slice (some ⟨d5,0,none⟩) 2 2],SlA.lit c0 rfl rfl,⟨SlA.lit (b _ _ b9) rfl rfl,trivial⟩⟩;refine lW (bS sty32 I I I (ae sB) dC) ?_;rintro _ _ _ ⟨d6,rfl,rfl,rfl⟩;refine zb5 fun g3 a c1=>?_;refine lW (bS sty32 I I I (ae sB) dC) ?_;rintro _ _ _ ⟨d7,rfl,rfl,rfl⟩;refine zb5 fun g4 z c2=>?_;refine lW (bS sty22 I I I (ae sB) dC) ?_;rintro _ _ _ ⟨a1,rfl,rfl,rfl⟩;refine zb5 fun g5 H c3=>?_;have P:cU g5 (.slice (some ⟨a1,0,none⟩) 2 2) [[0,1],[1,2]]:=⟨[jD<|.slice (some ⟨d6,0,none⟩) 2 2,jD<|.slice (some ⟨d7,0,none⟩) 2 2],SlA.lit c3 rfl rfl,⟨SlA.lit (H _ _<|z _ _ c1) rfl rfl,SlA.lit (H _ _ c2) rfl rfl,trivial⟩⟩;refine lW (bS sty32 I I I (ae sB) dC) ?_;rintro _ _ _ ⟨d8,rfl,rfl,rfl⟩;refine zb5 fun g6 J c4=>?_;refine lW (bS sty32 I I I (ae sB) dC) ?_;rintro _ _ _ ⟨d9,rfl,rfl,rfl⟩;refine zb5 fun g7 D c5=>?_;refine lW (bS sty32 I I I (ae sB) dC) ?_;rintro _ _ _ ⟨e0,rfl,rfl,rfl⟩;refine zb5 fun g8 A c6=>?_;refine lW (bS sty22 I I I (ae sB) dC) ?_;rintro _ _ _ ⟨a2,rfl,rfl,rfl⟩;refine zb5 fun g9 t c7=>?_;have Q:cU g9 (.slice (some ⟨a2,0,none⟩) 3 3) [[0,1],[1,2],[0,2]]:=⟨[jD<|.slice (some ⟨d8,0,none⟩) 2 2,jD<|.slice (some ⟨d9,0,none⟩) 2 2,jD<|.slice (some ⟨e0,0,none⟩) 2 2],SlA.lit c7 rfl rfl,⟨SlA.lit (t _ _<|A _ _<|D _ _ c4) rfl rfl,SlA.lit (t _ _<|A _ _ c5) rfl rfl,SlA.lit (t _ _ c6) rfl rfl,trivial⟩⟩;refine lU (za3 I<|build113 _ _ _ _ _ _ _ _ _) (bW (aL zeroValue113) fun b5=>?_);refine oZ (sK 0 sizeOf113 I I I I I sB)<|tZ ?_;have e1:=pg b4 (O.mono<|a.trans<|z.trans<|H.trans<|J.trans<|D.trans<|A.trans t) (P.mono<|J.trans<|D.trans<|A.trans t) Q;have e2:=pg a4 (O.mono<|a.trans<|z.trans<|H.trans<|J.trans<|D.trans<|A.trans t) (P.mono<|J.trans<|D.trans<|A.trans t) Q;refine SC.to (fun w hw=>hw) (g':=g9) (s':=pt b5 (bY #[.slice (some ⟨a0,0,none⟩) 1 1,.slice (some ⟨a1,0,none⟩) 2 2,.slice (some ⟨a2,0,none⟩) 3 3] 113)::pt b3 (bY #[.slice none 0 0] 29)::pt b2 (bY #[.slice none 0 0] 29)::pt b1 (bY #[vi k,.slice p n c,vi y] 24)::s) ?_;refine dW [12] [(0,2),(1,2),(2,1),(4,2),(5,1),(6,2),(3,0),(7,0),(8,2),(9,1),(10,0),(11,0),(12,0)] ze6 kR<|yM I<|pU I (iB underlying113 sizeOf22 I I oM oM)<|pK I (qL (v:=Gi (bV y 3) (.slice (some ⟨a0,0,none⟩) 1 1) (.slice (some ⟨a1,0,none⟩) 2 2)<|.slice (some ⟨a2,0,none⟩) 3 3) isAgg22 I<|cO 0 I<|ym b4 _ _ _)<|pU I (fA mN I zT3 I)<|pK I (qL (v:=vi y) iT3 I<|cO 3 I I)<|pU I (SU.quo I I dC)<|SP.o I (SO.call call70 I<|aU E g9 _ _ _ e1 (by have:=(jp<|bV y 3).1;omega) (fun x S=>by have:=(jp<|bV y 3).2 x S;omega)) dC (.inr iR) ?_;rintro _ ga _ ⟨rfl,K,ua,rfl,M⟩;obtain ⟨qa,da,rfl⟩:=M.form;refine SP.o I (SO.call lX I<|bB E ga _ _ 3 dC) dC (.inr iR) ?_;rintro _ _ _ ⟨rfl,rfl,rfl⟩;refine pU I (iB underlying113 sizeOf22 I I oM oM)<|pK I (qL (v:=Gi (bV (IntKind.i64.wrap<|y.tdiv 3) 3) (.slice (some ⟨a0,0,none⟩) 1 1) (.slice (some ⟨a1,0,none⟩) 2 2)<|.slice (some ⟨a2,0,none⟩) 3 3) isAgg22 I<|cO 0 I<|ym a4 _ _ _)<|SP.o I (SO.call call70 I<|aU E ga _ _ _ (e2.mono K) (by have:=(jp<|bV (IntKind.i64.wrap<|y.tdiv 3) 3).1;omega) (fun x S=>by have:=(jp<|bV (IntKind.i64.wrap<|y.tdiv 3) 3).2 x S;omega)) dC (.inr (by rintro _ gb _ ⟨rfl,C,ub,rfl,T⟩;exact⟨by exact Le.trans io io,(by exact .refl _)⟩)) ?_;rintro _ gb _ ⟨rfl,C,ub,rfl,T⟩;obtain ⟨qb,db,rfl⟩:=T.form;have e4:=K.trans C;refine SP.o rfl (SO.call call73 rfl<|fw E gb _ _ _ _ _ (M.mono C) T (eJ _).1 (eJ _).1) dC (.inr (by rintro _ gc _ ⟨rfl,L,uc,rfl,N⟩;exact⟨by exact Le.trans io io,(by exact .refl _)⟩)) ?_;rintro _ gc _ ⟨rfl,L,uc,rfl,N⟩;obtain ⟨qc,dc,rfl⟩:=N.form;refine SP.on I (sK 1 ag I I I I I sB) (.inl dC) ?_;rintro _ _ _ ⟨rfl,rfl⟩;refine pN<|bN<|dR (s':=pt b3 (bY #[(Value.slice qc _ dc)] 29)::pt b2 (bY #[.slice none 0 0] 29)::pt b1 (bY #[vi k,.slice p n c,vi y] 24)::s) (.cons _<|.refl _) ?_;exact za9 (gc,_) sB I I ⟨(f.trans<|b.trans<|a.trans<|z.trans<|H.trans<|J.trans<|D.trans<|A.trans t).trans<|K.trans<|C.trans L,N⟩
  ·refine rZ<|lU (fA mN I zT3 I)<|lK (qL (v:=vi k) iT3 I<|cO 2 I I)<|lW (SO.call lX I<|bB E g _ _ 8 dC) ?_;rintro _ _ _ ⟨rfl,rfl,rfl⟩;rw[hm];refine tZ<|bK<|sQ<|rZ<|yE I<|aT I<|za1 I<|rZ<|yE I<|aT I<|za1 I<|rG<|yE I<|aT I<|za1 I<|rZ<|yE I<|aT I<|za1 I<|rZ<|yE I<|aT I<|za1 I<|rZ<|yE I<|aT I<|za2 I<|rG<|lU (fA mN I zT3 I)<|lK (qL (v:=vi y) iT3 I<|cO 2 I I)<|lW (SO.call lX I<|bB E g _ _ 5 dC) ?_;rintro _ _ _ ⟨rfl,rfl,rfl⟩;refine lU (SU.eq (v':=vi (((2+bV y 5).toNat:Nat):Int)) (aD I I oM)<|ze5 vi oM)<|lW (SO.call call74 I<|vO E g _ (2+bV y 5).toNat oM oM) ?_;rintro _ g3 _ ⟨rfl,a,u,rfl,G⟩;obtain ⟨q,d,rfl⟩:=G.form;exact oZ (sK 0 ag I I I I I sB)<|SL.nil<|bN<|za9 (g3,_) sB I I ⟨a,G⟩
  ·refine rZ<|lU (fA mN I zT3 I)<|lK (qL (v:=vi k) iT3 I<|cO 2 I I)<|lW (SO.call lX I<|bB E g _ _ 8 dC) ?_;rintro _ _ _ ⟨rfl,rfl,rfl⟩;rw[hm];refine tZ<|bK<|sQ<|rZ<|yE I<|aT I<|za1 I<|rZ<|yE I<|aT I<|za1 I<|rG<|yE I<|aT I<|za1 I<|rZ<|yE I<|aT I<|za1 I<|rZ<|yE I<|aT I<|za1 I<|rZ<|yE I<|aT I<|za1 I<|rZ<|yE I<|aT I<|za2 I<|rZ<|lW (bS sty32 I I I (ae sB) dC) ?_;rintro _ _ _ ⟨e9,rfl,rfl,rfl⟩;refine zb5 fun g1 f c9=>?_;refine lW (bS sty22 I I I (ae ⟨I,trivial⟩) dC) ?_;rintro _ _ _ ⟨f7,rfl,rfl,rfl⟩;refine zb5 fun g2 b d0=>?_;have a3:cU g2 (.slice (some ⟨f7,0,none⟩) 1 1) [[0,1]]:=⟨[jD<|.slice (some ⟨e9,0,none⟩) 2 2],SlA.lit d0 rfl rfl,⟨SlA.lit (b _ _ c9) rfl rfl,trivial⟩⟩;refine lW (SO.call call70 I<|aU E g2 _ _ _ a3 dC dC) ?_;rintro _ ga _ ⟨rfl,K,ua,rfl,M⟩;obtain ⟨qa,da,rfl⟩:=M.form;refine bW (aL zm2) fun b6=>oZ (sK 0 ag I I I I I sB)<|tZ ?_;refine SC.to (fun w hw=>hw) (g':=ga) (s':=pt b6 (.cells #[.slice qa (dB [[0,1]]).length da] 29 (0,0))::pt b3 (bY #[.slice none 0 0] 29)::pt b2 (bY #[.slice none 0 0] 29)::pt b1 (bY #[vi k,.slice p n c,vi y] 24)::s) ?_;refine dW [5] [(0,1),(1,1),(3,1),(2,0),(4,0),(5,0)] ze6 kR<|pK I (qV 0 aj ag I I I)<|pK I (qV 0 aj ag I I I)<|pK I (qV 0 aj ag I I I)<|SP.o I (SO.call call73 I<|fw E ga _ _ _ _ _ M M (eJ _).1 (eJ _).1) dC (.inr iR) ?_;rintro _ gb _ ⟨rfl,C,ub,rfl,T⟩;obtain ⟨qb,db,rfl⟩:=T.form;refine SP.o rfl (SO.call call73 rfl<|fw E gb _ _ _ _ _ T (M.mono C) (ft _ _).1 (eJ _).1) dC (.inr (by rintro _ gc _ ⟨rfl,L,uc,rfl,N⟩;exact⟨by exact Le.trans io io,(by exact .refl _)⟩)) ?_;rintro _ gc _ ⟨rfl,L,uc,rfl,N⟩;obtain ⟨qc,dc,rfl⟩:=N.form;refine SP.on I (sK 1 ag I I I I I sB) (.inl dC) ?_;rintro _ _ _ ⟨rfl,rfl⟩;refine pN<|bN<|dR (s':=pt b3 (bY #[(Value.slice qc _ dc)] 29)::pt b2 (bY #[.slice none 0 0] 29)::pt b1 (bY #[vi k,.slice p n c,vi y] 24)::s) (.cons _<|.refl _) ?_;exact za9 (gc,_) sB I I ⟨(f.trans b).trans<|K.trans<|C.trans L,N⟩
  ·refine rZ<|lU (fA mN I zT3 I)<|lK (qL (v:=vi k) iT3 I<|cO 2 I I)<|lW (SO.call lX I<|bB E g _ _ 8 dC) ?_;rintro _ _ _ ⟨rfl,rfl,rfl⟩;rw[hm];refine tZ<|bK<|sQ<|rZ<|yE I<|aT I<|za1 I<|rZ<|yE I<|aT I<|za1 I<|rG<|yE I<|aT I<|za1 I<|rZ<|yE I<|aT I<|za1 I<|rZ<|yE I<|aT I<|za1 I<|rZ<|yE I<|aT I<|za1 I<|rZ<|yE I<|aT I<|za1 I<|rZ<|yE I<|aT I<|za2 I<|dW [13] [(0,2),(1,1),(3,2),(4,1),(6,2),(7,1),(2,0),(5,0),(8,0),(9,2),(10,2),(11,0),(12,0),(13,0)] ze6 kR<|pU I (fA mN I sizeOf22 I)<|pK I (qL (v:=.slice p n c) isAgg22 I<|cO 2 I I)<|pU I (fA mN I zT3 I)<|pK I (qL (v:=vi y) iT3 I<|cO 2 I I)<|pU I (fA mN I zT3 I)<|pK I (qL (v:=vi y) iT3 I<|cO 2 I I)<|SP.o I (SO.call call71 I<|l9 E g _ _ ls hv) dC (.inr iR) ?_;rintro v72 g1 _ ⟨R,rfl,f,j⟩;refine SP.o rfl (SO.call call72 rfl<|nr E g1 _ y) dC (.inr (by rintro v75 g2 _ ⟨rfl,b,d1⟩;exact⟨by exact Le.trans io io,(by exact .cons _<|.refl _)⟩)) ?_;rintro v75 g2 _ ⟨rfl,b,d1⟩;obtain ⟨h8,V,W⟩:=d1;have h2:=W.length;have h3:=j.length;obtain ⟨q2,d2,rfl⟩:=za4 V;have f8:=(SlA.cap V).2;have a5:=SlA.cut V (l:=0) (m:=(2+bV y 2).toNat) (zf9 _) oM;rw[List.drop_zero,Nat.sub_zero] at a5;refine SP.o rfl (SO.call lX rfl<|bB E g2 _ _ 2 dC) dC (.inr (by rintro _ _ _ ⟨rfl,rfl,rfl⟩;exact⟨by exact Le.trans io io,(by exact .cons _<|.refl _)⟩)) ?_;rintro _ _ _ ⟨rfl,rfl,rfl⟩;refine pU I (aD I I oM)<|pU I (SU.sliceH eV gh I I oM oM)<|SP.o I (aQ (e:=dS) 0 sty22 I I I a5 (by rw[ze7];omega) (by rw[ze7];omega)) dC (.inr (by rintro v81 _ _ ⟨rfl,rfl⟩;exact⟨by exact Le.trans io io,(by exact .cons _<|.refl _)⟩)) ?_;rintro v81 _ _ ⟨rfl,rfl⟩;refine SP.freezeRow fun g3 a h0=>?_;have F:cU g3 v81 (oB ls++(nj y).take (2+bV y 2).toNat):=⟨_,h0,(j.mono fun _ _=>ec.mono<|b.trans a).append ((ax.take _ W).mono fun _ _=>ec.mono a)⟩;have h1:=f.trans<|b.trans a;refine SP.o I (SO.call call70 I<|aU E g3 _ _ _ F (by rw[ze8,ze7];omega) (fun x S=>by rcases zf6.1 S with h | h;(have:=Z.2 x h;omega);(have:=b7.2.2 x<|List.mem_of_mem_take h;omega))) dC (.inr (by rintro _ g4 _ ⟨rfl,z,u,rfl,G⟩;exact⟨by exact Le.trans io io,(by exact .refl _)⟩)) ?_;rintro _ g4 _ ⟨rfl,z,u,rfl,G⟩;obtain ⟨q,d,rfl⟩:=G.form;refine SP.on I (sK 0 ag I I I I I sB) (.inl dC) ?_;rintro _ _ _ ⟨rfl,rfl⟩;refine pN<|bN ?_;exact za9 (g4,_) sB I I ⟨f.trans<|b.trans<|a.trans z,G⟩
 rintro ⟨g1,bv⟩ ⟨f,a9⟩;dsimp only at f a9 ⊢;generalize hB:oD (bV k 8) ls y=B at *;obtain ⟨qb,db,rfl⟩:=a9.form;refine sQ<|rZ<|lU (fA dj I cj I)<|lK (qL (v:=.slice qb B.length db) ef I<|cO 0 I I)<|lU (eN aC I)<|lU (gR I I)<|tZ<|iP I (fun X=>?_) (fun X=>?_)
 ·refine rG<|lW (SO.call call75 I<|zL E g1 _) ?_;rintro _ g2 _ ⟨rfl,b,ut,rfl,d4⟩;obtain ⟨qt,dt,rfl⟩:=d4.form;refine oZ (sK 0 ag I I I I I sB)<|tZ<|sQ ?_;refine SC.to (fun w hw=>hw) (g':=g2) (s':=pt b3 (bY #[(Value.slice qt qB.length dt)] 29)::pt b2 (bY #[.slice none 0 0] 29)::pt b1 (bY #[vi k,.slice p n c,vi y] 24)::s) ?_;refine rG<|lK (qV 0 aj ag I I I)<|lU (fA mN I zT3 I)<|lK (qL (v:=vi y) iT3 I<|cO 2 I I)<|lW (SO.call call76 I<|ky E g2 _ _ qB y d4 (ft _ _).1) ?_;rintro _ g3 _ ⟨rfl,a,x3,rfl,Y⟩;obtain ⟨q3,d3,rfl⟩:=Y.form;exact oZ (sK 1 ag I I I I I sB)<|tZ<|rE<|ST.retCD 1 s (.inl I) results22 I aj ag I I uR ⟨I,f.trans<|b.trans a,_,I,by unfold qJ;rw[zg4 X];exact Y⟩
 ·refine kP<|tN<|sQ ?_;refine SC.to (fun w hw=>hw) (g':=g1) (s':=pt b3 (bY #[(Value.slice qb B.length db)] 29)::pt b2 (bY #[.slice none 0 0] 29)::pt b1 (bY #[vi k,.slice p n c,vi y] 24)::s) ?_;refine rG<|lK (qV 0 aj ag I I I)<|lU (fA mN I zT3 I)<|lK (qL (v:=vi y) iT3 I<|cO 2 I I)<|lW (SO.call call76 I<|ky E g1 _ _ B y a9 b8) ?_;rintro _ g3 _ ⟨rfl,a,x3,rfl,Y⟩;obtain ⟨q3,d3,rfl⟩:=Y.form;exact oZ (sK 1 ag I I I I I sB)<|tZ<|rE<|ST.retCD 1 s (.inl I) results22 I aj ag I I uR ⟨I,f.trans a,_,I,by unfold qJ;rw[zg3 X];exact Y⟩
theorem xl (a b:Int)(c:0<b)(d:b≤1099511627776):0≤bV a b∧bV a b<b:=by
 have e:a.tmod b<b:=Int.tmod_lt_of_pos a c;have f : -b<a.tmod b:=by
  have:=Int.lt_tmod_of_pos a c;omega
 unfold bV;rw[zl3 _ oM,Int.tmod_eq_emod_of_nonneg oM];exact⟨Int.emod_nonneg _ oM,Int.emod_lt_of_pos _ c⟩
theorem s9 (a:Int)(n:Nat)(b:0<n)(c:n≤1099511627776):bV a n=(((bV a n).toNat:Nat):Int)∧(bV a n).toNat<n:=by
 have:=xl a n oM oM;omega
set_option maxHeartbeats 2000000
open Go.ChangeShapes Go.WideShapes Go.ChangeAt Go.RowKit
set_option maxRecDepth 100000
def tE (W:World):PH:=fun b=>W.heap[b]?
def E0 (W:World):World:={ W with drawn:=0 }
theorem Es (W:World):At (E0 W) (tE W) [] W:=⟨rfl,⟨rfl,zf9 _⟩,rfl,fun _ _ h=>h,by simp,by simp,List.Pairwise.nil⟩
theorem Et {W W':World}{g:PH}{s:Own}(h:At (E0 W) g s W')(hl:Le (tE W) g):Below W.heap.size W W':=by
 have hb:∀ k,k<W.heap.size→W'.heap[k]?=W.heap[k]?:=fun k b=>by
  have a:W.heap[k]?=some W.heap[k]:=Array.getElem?_eq_getElem b;rw[a];exact h.known k _<|hl k _ a
 refine⟨h.os,h.tape.1,h.output,?_,hb⟩;refine zh3 fun hc=>?_;have a:=hb W'.heap.size oM;rw[Array.getElem?_eq_none<|Nat.le_refl _,Array.getElem?_eq_getElem oM] at a;cases a
theorem EG {W:World}{a:Addr}{len cap:Nat}{xs:List Value}(hl:len≤cap)(u:xs.length=len)(hc:∀ i x,xs[i]?=some x→W.cell? (a.add i)=some x):Sl (tE W) 1 (.slice (some a) len cap) len xs:=by
 refine⟨some a,cap,I,⟨oM,hl⟩,fun k=>?_⟩;obtain ⟨b,o,sp⟩:=a;have n:0<xs.length:=List.length_pos_iff.2 k;have l:=hc 0 xs[0] (List.getElem?_eq_getElem n);have m:sp=none:=by simpa [Addr.add] using World.cell?_spot l
 subst m;have d:∀ i,(⟨b,o,none⟩:Addr).add i=⟨b,o+i,none⟩:=fun i=>by unfold Addr.add;split <;> simp_all
 simp only[d] at hc;have c:∀ i x,xs[i]?=some x→∃ cs T e,W.heap[b]?=some (.cells cs T e)∧cs[o+i]?=some x:=fun i x p=>by
  have g:=hc i x p;unfold World.cell? at g;split at g
  ·rename_i cs T e q;exact⟨cs,T,e,q,by simpa using g⟩
  ·cases g
 obtain ⟨cs,T,e,hb,_⟩:=c 0 xs[0] (List.getElem?_eq_getElem n);refine⟨b,o,cs,T,e,I,hb,fun j x r=>?_⟩;obtain ⟨cs',T',s,f,t⟩:=c j x r;rw[hb] at f;cases f;exact t
section
variable {H:Type}{enc:TypeId×Value→H}{W:World}{base:Nat}{spare:Nat→Bool}{hd:Bool}
theorem Tryz.cells3:Tryz.prog.cellsOf 3=1:=by kernel_rfl
theorem Tryz.cells32:Tryz.prog.cellsOf 32=1:=by kernel_rfl
theorem Tryz.cells24:Tryz.prog.cellsOf 24=3:=by kernel_rfl
theorem FI {fuel:Nat}{v:Value}{x:DataW H×List MemPlace}(h:DataW.trod enc Tryz.prog W base spare hd fuel 32 [v]=some x):∃ (l:List Int) (r:Sv),v = .slice r.p r.n r.c∧dw (tE W) v l:=by
 rcases open_ints az uT3 cells3 h with ⟨b,_⟩ | ⟨a,len,cap,zs,b,_,hl,_,hz,_,e,_⟩
 ·simp at b;subst b;exact⟨[],⟨none,0,0⟩,I,zc1 _ _⟩
 ·simp at b;subst b;have j:len≤zs.length:=by rw[hz];split <;> omega
  have d:(zs.take len).length=len:=by rw[ze7];omega
  have k:(zs.take len).flatMap encInt.enc=(zs.take len).map vi:=by
   rw[List.flatMap_def];induction zs.take len with
   | nil=>rfl
   | cons y t ih=>simp[encInt] at ih ⊢;exact ih
  refine⟨zs.take len,⟨some a,len,cap⟩,I,?_⟩;show Sl (tE W) 1 _ (zs.take len).length ((zs.take len).flatMap encInt.enc);rw[k,d];refine EG hl (by rw[ze9,d]) fun i y f=>?_;rw[zi3] at f;cases hc:(zs.take len)[i]? with
  | none=>rw[hc] at f;cases f
  | some z =>
   rw[hc] at f;cases f;have m:i<(zs.take len).length:=(zf8.1 hc).1;have g:i<zs.length:=oM;rw[e i g];have:zs.getD i 0=z:=by
    rw[zi4] at hc;split at hc
    ·rw[zh4,hc];rfl
    ·cases hc
   rw[this]
theorem zy {α β γ:Type}{R:α→β→Prop}{f:γ→α}{k:γ→β}:∀ {l:List γ},(∀ i∈l,R (f i)<|k i)→ax R (l.map f) (l.map k)
 | [],_=>trivial
 | x::l,h=>⟨h x dO,zy fun i a=>h i (by simp[a])⟩
instance:Inhabited (List Int×Sv):=⟨([],⟨none,0,0⟩)⟩
theorem D4 {fuel:Nat}{v:Value}{x:DataW H×List MemPlace}(h:DataW.trod enc Tryz.prog W base spare hd fuel 22 [v]=some x):∃ ls,cU (tE W) v ls:=by
 rcases Go.Deep.open_slice1 eV cells32 h with ⟨d,_⟩ | ⟨a,len,cap,m,n,V,D,Pl,d,_,hl,_,g,_,k⟩
 ·simp at d;subst d;exact⟨[],[],zc1 _ _,trivial⟩
 ·simp at d;subst d;have s:len≤m:=by rw[g];split <;> omega
  obtain ⟨f,o⟩:=Go.Deep.choose_lt (α:=List Int×Sv) (n:=len) (p:=fun i y=>V i = .slice y.2.p y.2.n y.2.c∧dw (tE W) (V i) y.1) fun i b=>by
   obtain ⟨l,r,j,e⟩:=FI (k i oM).2;exact⟨(l,r),j,e⟩
  refine⟨(List.range len).map fun i=>(f i).1,(List.range len).map fun i=>(f i).2,?_,zy fun i b=>?_⟩
  ·show Sl (tE W) 1 _ ((List.range len).map fun i=>(f i).2).length (((List.range len).map fun i=>(f i).2).flatMap dS.enc);have u:((List.range len).map fun i=>(f i).2).flatMap dS.enc=(List.range len).map fun i=>V i:=by
    have:∀ l:List Nat,(∀ i∈l,i<len)→(l.map fun i=>(f i).2).flatMap dS.enc=l.map fun i=>V i:=by
     intro l;induction l with
     | nil=>intro _;rfl
     | cons y t ih =>
      intro q;rw[zg7,zh8,ih fun i b=>q i (by simp[b]),zg7,(o y<|q y<|by simp).1];rfl
    exact this _ fun i b=>List.mem_range.1 b
   rw[u,ze9,zi7];refine EG hl dO fun i y b=>?_;rw[zi3] at b;cases hc:(List.range len)[i]? with
   | none=>rw[hc] at b;cases b
   | some z =>
    rw[hc] at b;cases b;obtain ⟨j,e⟩:=zf8.1 hc;simp at j e;subst e;exact (k i oM).1
  ·have:=o i<|List.mem_range.1 b;unfold ec;rw[← this.1];exact this.2
theorem DE {r:Reach}{g:Nat}{v:Value}{d:DataW H}{p:List MemPlace}(i:Value.okWide Tryz.prog W r g 24 v)(h:DataW.Trod enc Tryz.prog W base spare hd 24 v d p):∃ (k y:Int) (u:Value) (ls:List (List Int)),v = .agg #[vi k,u,vi y]∧cU (tE W) u ls:=by
 obtain ⟨o,c1,c2,q,s,t,n,rfl,_,_,j,l,m⟩:=Go.Joins.open_agg3 mN kR cells24 i h;obtain ⟨a,e,_,_⟩:=DataW.trod_int uT3 j;obtain ⟨c,f,_,_⟩:=DataW.trod_int uT3 m;obtain ⟨ls,b⟩:=D4 l;simp at e f;subst e;subst f;exact⟨a,c,c1,ls,I,b⟩
end
end Go.Proofs.YtdepcjnaieflmaaGreatDoor
namespace Go.Sy
open Go
section
variable {P:Program}{N:Nat}{E:World}{f:Fr}{g:PH}{s s1:Own}{dst:Option Tmp}{ty:TypeId}{pos:String}{af:Array Edge}{gd:Option (Nat×Bool)}{α:Type}{k:Nat}{e:Enc α k}
end
end Go.Sy
namespace Go.Proofs.YtdepcjnaieflmaaGreatDoor
open _root_.Go.Proofs.Tryz _root_.Go.Proofs.YtdepcjnaieflmaaGreatDoor.Tryz
open Go Go.Sy Go.Pl Go.Proofs
def mO (A:List Cl)(k:Int):Option (List Int):=(ab A k).map fun c=>c.sides.map am.cell
theorem rm (A:List Cl):∀ (n:Nat) (id:Int) (vis:List Int),er A n id vis=dfs (mO A) n id vis
 | 0,_,_=>rfl
 | n+1,id,vis=>by
  rw[pO,jY];unfold mO;cases ab A id with
  | none=>rfl
  | some c =>
   simp only[Option.map_some,List.foldl_map];congr 2;funext v x;exact rm A n x.cell v
theorem C7 {A:List Cl}{k:Int}{l:List Int}(h:mO A k=some l):∃ c,ab A k=some c∧c.sides.map am.cell=l:=by
 unfold mO at h;cases a:ab A k with
 | none=>rw[a] at h;cases h
 | some c=>rw[a] at h;injection h with h;exact⟨c,I,h⟩
theorem xH (A:List Cl):∀ v k l,mO A k=some l→l≠[]→v.contains k=false→qu A (v++[k])<qu A v:=by
 intro v k l hl _ a;obtain ⟨c,b,_⟩:=C7 hl;obtain ⟨hm,rfl⟩:=aH b;exact BG hm a
def wy (A:List Cl)(v:List Int):Prop:=∀ x∈v,∀ l,mO A x=some l→∀ y∈l,mO A y≠none→y∈v
theorem uY (A:List Cl):∀ (ids v:List Int),wy A v→wy A (ids.foldl (fun v id=>er A (A.length+1) id v) v)∧(∀ x∈v,x∈ids.foldl (fun v id=>er A (A.length+1) id v) v) ∧
  (∀ id∈ids,mO A id≠none→id∈ids.foldl (fun v id=>er A (A.length+1) id v) v)∧∀ x∈ids.foldl (fun v id=>er A (A.length+1) id v) v,x∈v∨∃ id∈ids,Rch (mO A) id x
 | [],v,h=>⟨h,fun _ h=>h,by simp,fun _ h=>.inl h⟩
 | id::ids,v,h=>by
  have hc:=kx (mO A) (qu A) (fun v v' h=>oY h) (xH A) (A.length+1) id v<|zl2<|BH _ _;have b:=sz (mO A) (A.length+1) id v;have hd:=oX (mO A) (A.length+1) id v;rw[← rm] at hc b hd;have c:wy A (er A (A.length+1) id v):=by
   intro x a l hl y f hn;by_cases g:x∈v
   ·exact b y<|h x g l hl y f hn
   ·exact hc.2 x a g l hl y f hn
  obtain ⟨j,i,k,m⟩:=uY A ids _ c;simp only[zj2];refine⟨j,fun x a=>i x<|b x a,fun q hq hn=>?_,fun x a=>?_⟩
  ·rcases zf4.1 hq with rfl | hq
   ·exact i _<|hc.1 hn
   ·exact k q hq hn
  ·rcases m x a with d | ⟨q,hq,d⟩
   ·rcases hd x d with e | e
    ·exact .inl e
    ·exact .inr ⟨id,by simp,e⟩
   ·exact .inr ⟨q,by simp[hq],d⟩
theorem Cu (A:List Cl)(ids:List Int)(x:Int):x∈qz A ids↔∃ id∈ids,Rch (mO A) id x:=by
 obtain ⟨e,_,f,g⟩:=uY A ids [] (fun x i=>absurd i<|by simp);refine⟨fun h=>(g x h).resolve_left dO,fun ⟨id,d,hr⟩=>?_⟩;have key:∀ a b,Rch (mO A) a b→a∈qz A ids→b∈qz A ids:=by
  intro a b hr;induction hr with
  | refl a _=>exact fun h=>h
  | step a b c l hl hb r ih=>exact fun h=>ih<|e a h l hl b hb r.node
 exact key id x hr<|f id d hr.node
def Ga (A:List Cl)(m:List Int):Nat:=((A.filter fun c=>!m.contains c.id).map fun c=>c.sides.length).sum
structure Wide (A:List Cl)(ids left m:List Int):Prop where
 sound:∀ x∈m,∃ id∈ids,Rch (mO A) id x
 todo:∀ x∈left,mO A x≠none→∃ id∈ids,Rch (mO A) id x
 start:∀ x∈ids,mO A x≠none→x∈left∨x∈m
 sides:∀ x∈m,∀ l,mO A x=some l→∀ y∈l,mO A y≠none→y∈left∨y∈m
 few:left.length+Ga A m≤ids.length+Ga A []
def xu (A B:List Cl)(id:Int):Bool:=match ab B id with
 | some y=>decide ((ab A id).getD aA=y)
 | none=>false
def vA (A B:List Cl)(c:Cl):Bool:=(qz A [c.id]).all (xu A B)
def mE (A B:List Cl):List Cl:=A.filter (vA A B)
theorem Rch.last {c:Int→Option (List Int)}{a b:Int}(h:Rch c a b):c b≠none:=by
 induction h with
 | refl _ h=>exact h
 | step _ _ _ _ _ _ _ ih=>exact ih
theorem Eo {A:List Cl}{ids:List Int}{x:Int}(h:x∈qz A ids):∃ c,ab A x=some c:=by
 obtain ⟨id,_,hr⟩:=(Cu A ids x).1 h;have:=hr.last;unfold mO at this;cases a:ab A x with
 | none=>rw[a] at this;simp at this
 | some c=>exact⟨c,rfl⟩
end Go.Proofs.YtdepcjnaieflmaaGreatDoor
