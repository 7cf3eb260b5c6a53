/- 8 -/
import Derived.Test.YtbbppeihhkhkcaaGreatDoorAn07
import Derived.Test.YtbbppeihhkhkcaaGreatDoorRows
import Derived.WalkKit
import Derived.ProofKit
import Derived.OpenShut
import Derived.ShutString
import Derived.ChangeOld
import Derived.Deep.Slices
import Derived.Lib.SmallJoins
import Derived.Laws.IdiomArrays
set_option linter.unusedSimpArgs false
set_option linter.unusedVariables false
namespace Go.Proofs.YtbbppeihhkhkcaaGreatDoor
open _root_.Go.Proofs.Tryz _root_.Go.Proofs.YtbbppeihhkhkcaaGreatDoor.Tryz
open Go Go.Sy Go.Pl Go.Proofs
set_option maxRecDepth 100000
set_option maxHeartbeats 2000000
theorem dX {l:List Cl}(h:(aF l).2=0):l.length≤4000∧(aa l).Pairwise (fun a b=>a.id<b.id)∧am l=aa l∧∀ x∈aa l,cQ (am l) x=0:=by
 unfold aF at h;split at h
 ·exact absurd h dC
 ·rename_i hl;cases d:iz (am l) (aa l) 0 with
  | some p=>rw[d] at h; exact absurd h<|vX d
  | none =>
   have c:=(lp d).2;exact⟨oM,c,bP c,mi d⟩
theorem yh:∀ {l:List Int} {k:Nat} (h:k<l.length),l.Pairwise (· < ·)→lbI l l[k]=k:=by
 intro l;induction l with
 | nil=>intro k h; simp at h
 | cons a r ih =>
  intro k h f;obtain ⟨d,g⟩:=zk5.1 f;cases k with
  | zero =>
   unfold lbI;rw[List.length_eq_zero_iff,List.filter_eq_nil_iff];intro y b
   rcases zf3.1 b with rfl | b
   ·simp
   ·have:=d y b; simp; omega
  | succ k =>
   have e:k<r.length:=by simpa using h
   have c:=d r[k] (gM e);have:=ih e g;unfold lbI at this ⊢;simp[c,this]
theorem yQ {tl:List Cl}(e:(tl.map Cl.id).Pairwise (· ≤ ·)){id:Int}(h:(ah tl id).isSome=true):atC tl id=lbI (tl.map Cl.id) id:=by
 obtain ⟨c,a⟩:=zi1.1 h;have hm:(tl.map Cl.id).contains id=true:=by
  obtain ⟨b,d⟩:=aG a;simp;exact⟨c,b,d⟩
 unfold atC;rw[zg3 hm]
def cI (a b:List Cl):Bool:=!decide ((aF a).2=0) || !decide ((aF b).2=0)||decide (((am a).length:Int) * (am b).length>4000)
def cX (a b:List Cl):List Cl:=if cI a b then [] else if (aF<|dP a b).2=0 then aa (dP a b) else []
theorem ni {α β:Type}{l:List α}{i:Nat}(h:i<l.length)(f:α→List β):(l.take<|i+1).flatMap f=(l.take i).flatMap f++f l[i]:=by
 rw[tS h,List.flatMap_append];simp
theorem fo (E:World)(g:PH)(s:Own)(v u:Value)(a b:List Cl)(hv:ai g v a)(hu:ai g u b)(ha:aJ a)(hb:aJ b) :
  Ctr Tryz.prog E 36 #[.agg #[v],.agg #[u]] g s (fun r g' s'=>s=s'∧Le g g'∧∃ x,r = .agg #[x]∧ai g' x (cX a b)):=by
 obtain ⟨t2,t3,t4⟩:=hv.form;obtain ⟨t5,t9,u0⟩:=hu.form;have V:¬ (aF a).2=0→cI a b=true:=fun h=>by simp[cI,h]
 have W:(aF a).2=0→¬ (aF b).2=0→cI a b=true:=fun h U=>by simp[cI,U]
 have X:(aF a).2=0→(aF b).2=0→cI a b=decide (((am a).length:Int) * (am b).length>4000):=fun h U=>by simp[cI,h,U]
 have l3:=jk a;have l4:=jk b;have f6:(aF a).2=0→(aF b).2=0→((am a).length:Int) * (am b).length≤16000000∧0≤((am a).length:Int) * (am b).length:=fun h U=>wU (zk9 l3 (dX h).1)<|zk9 l4 (dX U).1;refine zb2 (args:=[.agg #[v],.agg #[u]]) func36 I ntmps36 (bE I)<|rZ (bW (bO I) fun b2=>?_);refine bW (bO I) fun b3=>bW (aL zl9) fun b4=>tZ<|rZ<|SL.K (qV 2 aj ae I I I)<|lW (SO.call call94 I<|dQ E g _ _ a hv ha) ?_;rintro _ g1 _ ⟨rfl,rfl,C⟩;refine aT I<|rZ<|SL.K (qV 1 aj ae I I I)<|lW (SO.call call94 I<|dQ E g1 _ _ b (hu.mono C) hb) ?_;rintro _ g2 _ ⟨rfl,rfl,G⟩;refine aT I<|rZ<|SL.K (qV 2 aj ae I I I)<|lW (SO.call call96 I<|dw E g2 _ _ a (hv.mono<|C.trans G) ha) ?_;rintro v24 g3 _ ⟨rfl,Q,hA⟩;refine aT I<|rZ<|SL.K (qV 1 aj ae I I I)<|lW (SO.call call96 I<|dw E g3 _ _ b (hu.mono<|C.trans<|G.trans Q) hb) ?_;rintro v26 g4 _ ⟨rfl,H,hB⟩;obtain ⟨ra,J,a9⟩:=hA;have b0:=J.mono H;have N:=a9.mono fun _ _=>an.mono H;obtain ⟨rb,b1,O⟩:=hB;have eal:=N.length;have ebl:=O.length;obtain ⟨pa,ca,rfl⟩:=b0.form;obtain ⟨pb,cb,rfl⟩:=b1.form;refine aT I<|sQ<|SC.cutB 40 ((cI a b)) ?_ ?_
 ·refine rG<|lM I<|lU (SU.notP I)<|lM I<|sP ?_ ?_
  ·intro Y;exact yA I<|yA I<|yP I<|lM I<|yA I<|yA I<|yA I<|yA I<|yA I<|yA I<|yP I<|SL.nil<|zb1 (by (rw[V Y]; rfl)) mI
  ·intro Y;refine yC I<|lY I I I (SU.notP I)<|yF I<|lM I<|sP ?_ ?_
   ·intro b5;exact yA I<|yA I<|yA I<|yA I<|yA I<|yA I<|yP I<|SL.nil<|zb1 (by (rw[W (zh2 Y) b5]; rfl)) mI
   ·intro b5;refine yC I<|lY I I I (eN aB I)<|yC I<|lY I I I (eN aB I)<|lY I I I (SU.mul I I (by have:=f6 (zh2 Y)<|zh2 b5; rw[eal,ebl] at this; omega)) ?_;refine lY I I I (gR I I)<|yF I<|SL.nil ?_;exact zb1 (by (rw[X (zh2 Y)<|zh2 b5,eal,ebl]; rfl)) mI
 refine iQ I (fun n=>?_) (fun n=>?_)
 ·exact rZ<|lU (za3 I<|buildE29)<|oZ (sK 0 ae I I I I I sB)<|tZ<|rE<|tR<|ST.retCD 0 s (.inl I) results36 I aj ae I I uR ⟨I,C.trans<|G.trans<|Q.trans H,_,I,by unfold cX; rw[zg3 n]; exact⟨[],zc1 _ _,trivial⟩⟩
 ·have J:(aF a).2=0:=zh2 fun h=>by rw[V h] at n; cases n
  have c1:(aF b).2=0:=zh2 fun h=>by rw[W J h] at n; cases n
  have Z:((am a).length:Int) * (am b).length≤4000:=by rw[X J c1] at n; simp at n; omega
  obtain ⟨u1,a0,f7,d4⟩:=dX J;obtain ⟨u2,a1,f8,d5⟩:=dX c1;rw[← f7] at a0 d4;rw[← f8] at a1 d5;have c2:=fF a;have c3:=fF b;have m1:((am a).map Cl.id).Pairwise (· < ·):=zk6.2 a0;have m2:((am b).map Cl.id).Pairwise (· < ·):=zk6.2 a1;have e0:am a=aa a→am b=aa b→dP a b=(am a).flatMap fun x=>(am b).map (dV (am a) (am b) x):=fun h U=>by unfold dP; rw[← h,← U]
  have P:=e0 f7 f8;have m3:ai g4 (.slice pa ra.length ca) (am a):=⟨ra,b0,N⟩;have m4:ai g4 (.slice pb rb.length cb) (am b):=⟨rb,b1,O⟩;refine kP (tN<|sW I<|lU (eN aB I)<|aT I<|rZ<|bW (aL zl9) fun A=>?_);refine tZ<|sQ<|rZ<|aT I<|bK<|zb6 56 3<|oP (ι:=PH×Value×List Rc×Nat) (fun i=>[(2,pp b2 0),(3,pp b3 0),(4,pp b4 0),(7,.slice pa ra.length ca),(8,.slice pb rb.length cb),(9,vi rb.length),(10,pp A 0),(11,vi i.2.2.2)]) (fun i=>i.1) (fun i=>rowA encCell 56 i.2.1 i.2.2.1::pt A (.cells #[i.2.1] 29 (0,0))::pt b4 (.cells #[.slice none 0 0] 29 (0,0))::pt b3 (.cells #[u] 29 (0,0))::pt b2 (.cells #[v] 29 (0,0))::s)
   (fun i=>Le g4 i.1∧i.2.2.2≤ra.length∧ax (an i.1) (((am a).take i.2.2.2).flatMap fun x=>(am b).map<|dV (am a) (am b) x) i.2.2.1) (fun i=>ra.length - i.2.2.2)
   (g4,.slice none 0 0,[],0) sB rfl rfl ⟨zb9 g4,zf8 _,trivial⟩ ?_
  rintro ⟨g5,ov,f9,i⟩ ⟨p,hi,R⟩;dsimp only at p hi R ⊢;refine sQ<|sW I<|lM I<|lU (eN aB I)<|yL I<|tZ<|iP I (fun n0=>?_) (fun n0=>?_)
  ·have b6:i<(am a).length:=oM;have g9:i<ra.length:=oM;have L:=b0.based oM;have n1:=N.get (List.getElem?_eq_getElem b6)<|List.getElem?_eq_getElem g9;have c5:ra[((i:Nat):Int).toNat]?=some ra[i]:=List.getElem?_eq_getElem g9;have n2:=gM b6;have h0:lbI ((am a).map Cl.id) (am a)[i].id=i:=by
    have:=yh (l:=(am a).map Cl.id) (k:=i) (by simpa using b6) m1;simpa using this
   have e1:=ni b6 fun x=>(am b).map<|dV (am a) (am b) x;generalize u3:(am a)[i]=x at *;obtain ⟨xp,c6,n3,n5⟩:=eX n1;rw[n3] at c5;have b7:=c5;have e2:=d4 x n2;have n6:=yo e2;have u4:=i8 e2;have h5:=m0 e2;refine kP<|tN<|sQ<|bK<|rZ<|aT I<|bK<|oP (ι:=PH×Value×List Rc×Nat) (fun k=>[(2,pp b2 0),(3,pp b3 0),(4,pp b4 0),(7,.slice pa ra.length ca),(8,.slice pb rb.length cb),(9,vi rb.length),(10,pp A 0),(11,vi i),(12,vi k.2.2.2)]) (fun k=>k.1) (fun k=>rowA encCell 56 k.2.1 k.2.2.1::pt A (.cells #[k.2.1] 29 (0,0))::pt b4 (.cells #[.slice none 0 0] 29 (0,0))::pt b3 (.cells #[u] 29 (0,0))::pt b2 (.cells #[v] 29 (0,0))::s)
    (fun k=>Le g5 k.1∧k.2.2.2≤rb.length∧ax (an k.1) ((((am a).take i).flatMap fun x=>(am b).map<|dV (am a) (am b) x)++((am b).take k.2.2.2).map (dV (am a) (am b) x)) k.2.2.1) (fun k=>rb.length - k.2.2.2)
    (g5,ov,f9,0) sB rfl rfl ⟨zb9 g5,zf8 _,by simpa using R⟩ ?_
   rintro ⟨g6,t,d,k⟩ ⟨f,hk,B⟩;dsimp only at f hk B ⊢;refine sQ<|sW I<|lM I<|yL I<|tZ<|iP I (fun h6=>?_) (fun h6=>?_)
   ·have b8:k<(am b).length:=oM;have h7:k<rb.length:=oM;have T:=b1.based oM;have n7:=O.get (List.getElem?_eq_getElem b8)<|List.getElem?_eq_getElem h7;have c7:rb[((k:Nat):Int).toNat]?=some rb[k]:=List.getElem?_eq_getElem h7;have n8:=gM b8;have h8:lbI ((am b).map Cl.id) (am b)[k].id=k:=by
     have:=yh (l:=(am b).map Cl.id) (k:=k) (by simpa using b8) m2;simpa using this
    have o1:((am b).take<|k+1).map (dV (am a) (am b) x)=((am b).take k).map (dV (am a) (am b) x)++[dV (am a) (am b) x (am b)[k]]:=by rw[tS b8,zg7]; rfl
    generalize u5:(am b)[k]=y at *;obtain ⟨yp,c9,o2,p0⟩:=eX n7;rw[o2] at c7;have e4:=c7;have e9:=d5 y n8;have u6:=yo e9;have p1:=i8 e9;have h9:=m0 e9;have f1:=B.length;have r6:(i:Int) * rb.length≤4000:=by
     have h1:(i:Int) * rb.length≤(ra.length:Int) * rb.length:=Int.mul_le_mul_of_nonneg_right oM oM;rw[eal,ebl] at Z;omega
    have p2:0≤(i:Int) * rb.length:=Int.mul_nonneg oM oM;have r7:d.length≤4000:=by
     have h1:d.length=i * rb.length+k:=by
      rw[← f1,ze7,ze8,ze6,jo,ze6,← ebl];rw[Nat.min_eq_left oM,Nat.min_eq_left oM]
     have U:i * rb.length+k≤ra.length * rb.length:=by
      have h3:(i+1) * rb.length≤ra.length * rb.length:=Nat.mul_le_mul_right _ oM;rw[Nat.succ_mul] at h3;omega
     have h4:((ra.length * rb.length:Nat):Int)≤4000:=by rw[eal,ebl] at Z; rw[Int.natCast_mul]; exact Z
     omega
    have p3:aX (am a) (am b) x.id y.id=(i:Int) * rb.length+k+1:=by unfold aX; rw[h0,h8,ebl]
    have S:=b0.mono<|p.trans f;have a2:=b1.mono<|p.trans f;have d0:=n5.mono<|p.trans f;have d1:=p0.mono<|p.trans f;refine kP<|tN<|sQ<|bK<|sQ<|dW [] [(0,2),(1,2),(2,2),(3,2),(4,2),(5,2),(6,2),(7,2),(8,2),(9,2),(10,1),(11,2),(12,2),(13,2),(14,2),(15,1),(16,2),(17,2),(18,0),(19,0)] ze5 kR<|yM I<|yM I<|pU I (SU.mul I I oM)<|yM I<|pU I (aD I I oM)<|pU I (aD I I oM)<|yM I<|yM I<|pU I (iA aB aw I I L oM sL)<|pU I (fC ao I zT3 I L)<|pK I (aZ (e:=encCell) (o:=1) (u:=vi x.dim) iT3 I S.rd b7 I)<|yM I<|yM I<|pU I (iA aB aw I I T oM sL)<|pU I (fC ao I zT3 I T)<|pK I (aZ (e:=encCell) (o:=1) (u:=vi y.dim) iT3 I a2.rd e4 I)<|pU I (aD I I oM)<|pU I (za3 I<|buildC56 _ _)<|SP.o I (aL zl7) dC (.inr iR) ?_;rintro _ _ _ ⟨F,rfl,rfl,rfl⟩;refine SP.on I (sK 0 aw I I I I I sB) (.inr iR) ?_;rintro _ _ _ ⟨rfl,rfl⟩;refine pN<|tN<|sQ<|rZ<|aT I<|bK ?_;refine SC.to (fun w hw=>?_) (g':=g6) (s':=pt F (.cells #[vi<|aX (am a) (am b) x.id y.id,vi<|x.dim+y.dim,.slice none 0 0] 56 (0,0))::rowA encCell 56 t d::pt A (.cells #[t] 29 (0,0))::pt b4 (.cells #[.slice none 0 0] 29 (0,0))::pt b3 (.cells #[u] 29 (0,0))::pt b2 (.cells #[v] 29 (0,0))::s) ?_
    ·rw[p3]; exact hw
    refine zb6 75 2<|oP (ι:=Value×Nat) (fun j=>[(2,pp b2 0),(3,pp b3 0),(4,pp b4 0),(7,.slice pa ra.length ca),(8,.slice pb rb.length cb),(9,vi rb.length),(10,pp A 0),(11,vi i),(12,vi k),(13,pp F 0),(14,vi j.2)]) (fun _=>g6)
     (fun j=>rowA encSide 75 j.1 ((x.sides.take j.2).map fun q=>(⟨aX (am a) (am b) q.cell y.id,q.sign⟩:ak))::pt F (.cells #[vi<|aX (am a) (am b) x.id y.id,vi<|x.dim+y.dim,j.1] 56 (0,0))::rowA encCell 56 t d::pt A (.cells #[t] 29 (0,0))::pt b4 (.cells #[.slice none 0 0] 29 (0,0))::pt b3 (.cells #[u] 29 (0,0))::pt b2 (.cells #[v] 29 (0,0))::s)
     (fun j=>j.2≤x.sides.length) (fun j=>x.sides.length - j.2) (.slice none 0 0,0) sB rfl rfl (zf8 _) ?_
    rintro ⟨sv,j⟩ hj;dsimp only at hj ⊢;refine sQ<|sW I<|lM I<|lM I<|lU (iA aB aw I I L oM sL)<|lU (fC ao I aM I L)<|SL.K (aZ (e:=encCell) (o:=2) (u:=.slice xp x.sides.length c6) br I S.rd b7 I)<|lU (eN be I)<|yL I<|tZ<|iP I (fun i0=>?_) (fun i0=>?_)
    ·have f2:j<x.sides.length:=oM;have f3:=d0.based oM;have p5:x.sides[((j:Nat):Int).toNat]?=some x.sides[j]:=List.getElem?_eq_getElem f2;have p6:(x.sides.take<|j+1).map (fun q=>(⟨aX (am a) (am b) q.cell y.id,q.sign⟩:ak))=(x.sides.take j).map (fun q=>(⟨aX (am a) (am b) q.cell y.id,q.sign⟩:ak))++[⟨aX (am a) (am b) x.sides[j].cell y.id,x.sides[j].sign⟩]:=by rw[tS f2,zg7]; rfl
     have f4:=h5 _<|gM f2;generalize x.sides[j]=z at *;have a3:=yQ c2 f4;have a4:=Ep ((am a).map Cl.id) z.cell;rw[ze8] at a4;have a5:aX (am a) (am b) z.cell y.id=((lbI ((am a).map Cl.id) z.cell:Nat):Int) * rb.length+k+1:=by unfold aX; rw[h8,ebl]
     have u7:((lbI ((am a).map Cl.id) z.cell:Nat):Int) * rb.length≤4000:=by
      have h1:((lbI ((am a).map Cl.id) z.cell:Nat):Int) * rb.length≤(ra.length:Int) * rb.length:=Int.mul_le_mul_of_nonneg_right oM oM;rw[eal,ebl] at Z;omega
     have r8:0≤((lbI ((am a).map Cl.id) z.cell:Nat):Int) * rb.length:=Int.mul_nonneg oM oM;refine kP (tN<|sQ<|bK<|sW I<|lM I<|lU (iA aB aw I I L oM sL)<|lU (fC ao I aM I L)<|SL.K (aZ (e:=encCell) (o:=2) (u:=.slice xp x.sides.length c6) br I S.rd b7 I)<|lM I<|lU (iA be aY I I f3 oM sL)<|SL.K (SQ.elemA jn aY I d0.rd p5)<|bW (aL zm1) fun p7=>?_);refine oZ (sK 0 aY I I I I I sB)<|tZ ?_;refine SC.to (fun w hw=>hw) (g':=g6) (s':=pt p7 (.cells #[vi z.cell,vi z.sign] 75 (0,0))::rowA encSide 75 sv ((x.sides.take j).map fun q=>(⟨aX (am a) (am b) q.cell y.id,q.sign⟩:ak))::pt F (.cells #[vi<|aX (am a) (am b) x.id y.id,vi<|x.dim+y.dim,sv] 56 (0,0))::rowA encCell 56 t d::pt A (.cells #[t] 29 (0,0))::pt b4 (.cells #[.slice none 0 0] 29 (0,0))::pt b3 (.cells #[u] 29 (0,0))::pt b2 (.cells #[v] 29 (0,0))::s) ?_;refine dW [15,16,17] [(0,2),(1,1),(2,2),(3,2),(4,1),(6,2),(8,2),(11,2),(12,1),(5,0),(7,2),(9,2),(10,2),(13,2),(14,0),(15,0),(16,0),(17,0)] ze5 kR<|pU I (fA ao I aM I)<|pK I (qL (v:=sv) br I<|cO 2 I I)<|yM I<|pU I (fA c4 I zT3 I)<|pK I (qL (v:=vi z.cell) iT3 I<|cO 0 I I)<|yM I<|yM I<|pU I (fA c4 I zT3 I)<|pK I (qL (v:=vi z.sign) iT3 I<|cO 0 I I)<|SP.o I (SO.call call101 I<|il E g6 _ _ (am a) z.cell (m3.mono<|p.trans f) oM c2) dC (.inr iR) ?_;rintro _ _ _ ⟨rfl,rfl,rfl⟩;rw[a3];refine pU I (SU.mul I I oM)<|pU I (aD I I oM)<|pU I (SU.eq (v':=vi<|aX (am a) (am b) z.cell y.id) (aD I I oM)<|ze4 vi a5.symm)<|pU I (za3 I<|buildS75 _ _)<|SP.o I (bS sty39 I I I (ab sB) dC) dC (.inr iR) ?_;rintro _ _ _ ⟨r9,rfl,rfl,rfl⟩;refine SP.o I (aP (e:=encSide) 1 ⟨aX (am a) (am b) z.cell y.id,z.sign⟩ sty39 I I I I I (by simp; omega) (by simp; omega)) dC (.inl dC) ?_;rintro sv' _ _ ⟨rfl,rfl⟩;rw[← p6];refine zd3 fun ⟨w0,M⟩=>?_;obtain ⟨q6,d6,rfl⟩:=ag (i:=1) M rfl;clear M w0;refine oU rfl (fA ao rfl aM rfl) dC (.inl dC)<|SP.on rfl (SO.store1 2 aM rfl rfl rfl rfl (bE rfl)<|by rfl) (.inl dC) ?_;rintro _ _ _ ⟨rfl,rfl⟩;refine pN<|bN<|tN<|rG<|lM I<|yD I<|lA I<|SL.nil<|dR (s':=rowA encSide 75 (.slice q6 ((x.sides.take<|j+1).map fun q=>(⟨aX (am a) (am b) q.cell y.id,q.sign⟩:ak)).length d6) ((x.sides.take<|j+1).map fun q=>(⟨aX (am a) (am b) q.cell y.id,q.sign⟩:ak))::pt F (.cells #[vi<|aX (am a) (am b) x.id y.id,vi<|x.dim+y.dim,.slice q6 ((x.sides.take<|j+1).map fun q=>(⟨aX (am a) (am b) q.cell y.id,q.sign⟩:ak)).length d6] 56 (0,0))::rowA encCell 56 t d::pt A (.cells #[t] 29 (0,0))::pt b4 (.cells #[.slice none 0 0] 29 (0,0))::pt b3 (.cells #[u] 29 (0,0))::pt b2 (.cells #[v] 29 (0,0))::s) (.cons _<|.refl _) ?_;exact ST.again (_,j+1) sB I I lN lN
    ·have p9:x.sides.take j=x.sides:=tL oM;rw[p9];generalize d2:x.sides.map (fun q=>(⟨aX (am a) (am b) q.cell y.id,q.sign⟩:ak))=fl1 at *;have q0:fl1.length=x.sides.length:=by rw[← d2,ze8]
     refine xI<|tX<|tX<|bX<|tN<|sQ<|rZ<|aT I<|bK<|oP (ι:=Value×Nat) (fun m=>[(2,pp b2 0),(3,pp b3 0),(4,pp b4 0),(7,.slice pa ra.length ca),(8,.slice pb rb.length cb),(9,vi rb.length),(10,pp A 0),(11,vi i),(12,vi k),(13,pp F 0),(16,vi m.2)]) (fun _=>g6)
      (fun m=>rowA encSide 75 m.1 (fl1++(y.sides.take m.2).map fun q=>(⟨aX (am a) (am b) x.id q.cell,dz x.dim * q.sign⟩:ak))::pt F (.cells #[vi<|aX (am a) (am b) x.id y.id,vi<|x.dim+y.dim,m.1] 56 (0,0))::rowA encCell 56 t d::pt A (.cells #[t] 29 (0,0))::pt b4 (.cells #[.slice none 0 0] 29 (0,0))::pt b3 (.cells #[u] 29 (0,0))::pt b2 (.cells #[v] 29 (0,0))::s)
      (fun m=>m.2≤y.sides.length) (fun m=>y.sides.length - m.2) (sv,0) sB rfl (by simp) (zf8 _) ?_
     rintro ⟨b9,m⟩ hm;dsimp only at hm ⊢;refine sQ<|sW I<|lM I<|lM I<|lU (iA aB aw I I T oM sL)<|lU (fC ao I aM I T)<|SL.K (aZ (e:=encCell) (o:=2) (u:=.slice yp y.sides.length c9) br I a2.rd e4 I)<|lU (eN be I)<|yL I<|tZ<|iP I (fun i1=>?_) (fun i1=>?_)
     ·have c0:m<y.sides.length:=oM;have f3:=d1.based oM;have q1:y.sides[((m:Nat):Int).toNat]?=some y.sides[m]:=List.getElem?_eq_getElem c0;have q2:fl1++(y.sides.take<|m+1).map (fun q=>(⟨aX (am a) (am b) x.id q.cell,dz x.dim * q.sign⟩:ak))=fl1++(y.sides.take m).map (fun q=>(⟨aX (am a) (am b) x.id q.cell,dz x.dim * q.sign⟩:ak))++[⟨aX (am a) (am b) x.id y.sides[m].cell,dz x.dim * y.sides[m].sign⟩]:=by rw[tS c0,zg7]; simp
      have f4:=h9 _<|gM c0;have q3:=p1.2 _<|gM c0;generalize y.sides[m]=z at *;have a3:=yQ c3 f4;have a4:=Ep ((am b).map Cl.id) z.cell;rw[ze8] at a4;have a5:aX (am a) (am b) x.id z.cell=(i:Int) * rb.length+((lbI ((am b).map Cl.id) z.cell:Nat):Int)+1:=by unfold aX; rw[h0,ebl]
      have i2:z.sign * dz x.dim=dz x.dim * z.sign:=Int.mul_comm _ _;have i3:=wD x.dim;have f5:x.dim.tmod 2=x.dim % 2:=Int.tmod_eq_emod_of_nonneg n6.1;have q4 : -1≤z.sign * dz x.dim∧z.sign * dz x.dim≤1:=by rcases q3 with h | h <;> rcases i3 with U | U <;> rw[h,U] <;> decide
      refine kP (tN<|sQ<|bK<|sW I<|lM I<|lU (iA aB aw I I T oM sL)<|lU (fC ao I aM I T)<|SL.K (aZ (e:=encCell) (o:=2) (u:=.slice yp y.sides.length c9) br I a2.rd e4 I)<|lM I<|lU (iA be aY I I f3 oM sL)<|SL.K (SQ.elemA jn aY I d1.rd q1)<|bW (aL zm1) fun q5=>?_);refine oZ (sK 0 aY I I I I I sB)<|tZ ?_;refine SC.to (fun w hw=>hw) (g':=g6) (s':=pt q5 (.cells #[vi z.cell,vi z.sign] 75 (0,0))::rowA encSide 75 b9 (fl1++(y.sides.take m).map fun q=>(⟨aX (am a) (am b) x.id q.cell,dz x.dim * q.sign⟩:ak))::pt F (.cells #[vi<|aX (am a) (am b) x.id y.id,vi<|x.dim+y.dim,b9] 56 (0,0))::rowA encCell 56 t d::pt A (.cells #[t] 29 (0,0))::pt b4 (.cells #[.slice none 0 0] 29 (0,0))::pt b3 (.cells #[u] 29 (0,0))::pt b2 (.cells #[v] 29 (0,0))::s) ?_;refine dW [24,25,26] [(0,2),(1,1),(2,2),(3,2),(4,2),(5,2),(6,2),(7,1),(11,2),(12,1),(13,2),(14,2),(15,2),(16,2),(17,1),(18,2),(19,2),(20,2),(21,2),(8,0),(9,2),(10,2),(22,2),(23,0),(24,0),(25,0),(26,0)] ze5 kR<|pU I (fA ao I aM I)<|pK I (qL (v:=b9) br I<|cO 2 I I)<|yM I<|yM I<|pU I (SU.mul I I oM)<|yM I<|pU I (fA c4 I zT3 I)<|pK I (qL (v:=vi z.cell) iT3 I<|cO 0 I I)<|pU I (fA c4 I zT3 I)<|pK I (qL (v:=vi z.sign) iT3 I<|cO 0 I I)<|yM I<|yM I<|pU I (iA aB aw I I L oM sL)<|pU I (fC ao I zT3 I L)<|pK I (aZ (e:=encCell) (o:=1) (u:=vi x.dim) iT3 I S.rd b7 I)<|pU I (SU.eq (v':=vi<|x.dim % 2) (zd9 I I dC)<|ze4 vi f5)<|pU I (SU.mul I I oM)<|pU I (SU.eq (v':=vi<|dz x.dim) (sU I I oM) I)<|pU I (SU.eq (v':=vi<|dz x.dim * z.sign) (SU.mul I I oM)<|ze4 vi i2)<|SP.o I (SO.call call101 I<|il E g6 _ _ (am b) z.cell (m4.mono<|p.trans f) oM c3) dC (.inr iR) ?_;rintro _ _ _ ⟨rfl,rfl,rfl⟩;rw[a3];refine pU I (aD I I oM)<|pU I (SU.eq (v':=vi<|aX (am a) (am b) x.id z.cell) (aD I I oM)<|ze4 vi a5.symm)<|pU I (za3 I<|buildS75 _ _)<|SP.o I (bS sty39 I I I (ab sB) dC) dC (.inr iR) ?_;rintro _ _ _ ⟨s2,rfl,rfl,rfl⟩;refine SP.o I (aP (e:=encSide) 1 ⟨aX (am a) (am b) x.id z.cell,dz x.dim * z.sign⟩ sty39 I I I I I (by simp; omega) (by simp; omega)) dC (.inl dC) ?_;rintro sv3 _ _ ⟨rfl,rfl⟩;rw[← q2];refine zd3 fun ⟨w0,M⟩=>?_;obtain ⟨q7,d7,rfl⟩:=ag (i:=1) M rfl;clear M w0;refine oU rfl (fA ao rfl aM rfl) dC (.inl dC)<|SP.on rfl (SO.store1 2 aM rfl rfl rfl rfl (bE rfl)<|by rfl) (.inl dC) ?_;rintro _ _ _ ⟨rfl,rfl⟩;refine pN<|bN<|tN<|rG<|lM I<|yD I<|lA I<|SL.nil<|dR (s':=rowA encSide 75 (.slice q7 (fl1++(y.sides.take<|m+1).map fun q=>(⟨aX (am a) (am b) x.id q.cell,dz x.dim * q.sign⟩:ak)).length d7) (fl1++(y.sides.take<|m+1).map fun q=>(⟨aX (am a) (am b) x.id q.cell,dz x.dim * q.sign⟩:ak))::pt F (.cells #[vi<|aX (am a) (am b) x.id y.id,vi<|x.dim+y.dim,.slice q7 (fl1++(y.sides.take<|m+1).map fun q=>(⟨aX (am a) (am b) x.id q.cell,dz x.dim * q.sign⟩:ak)).length d7] 56 (0,0))::rowA encCell 56 t d::pt A (.cells #[t] 29 (0,0))::pt b4 (.cells #[.slice none 0 0] 29 (0,0))::pt b3 (.cells #[u] 29 (0,0))::pt b2 (.cells #[v] 29 (0,0))::s) (.cons _<|.refl _) ?_;exact ST.again (_,m+1) sB I I lN lN
     ·have r0:y.sides.take m=y.sides:=tL oM;rw[r0];have r1:dV (am a) (am b) x y=⟨aX (am a) (am b) x.id y.id,x.dim+y.dim,fl1++y.sides.map fun q=>(⟨aX (am a) (am b) x.id q.cell,dz x.dim * q.sign⟩:ak)⟩:=by unfold dV; rw[d2]
      generalize t0:(fl1++y.sides.map fun q=>(⟨aX (am a) (am b) x.id q.cell,dz x.dim * q.sign⟩:ak))=j0 at *;refine xI (tX<|tX<|bX<|tN<|rG<|zd6 fun g7 D r2=>?_);have j1:SlA encSide g7 b9 j0:=r2;obtain ⟨q8,d8,rfl⟩:=za4 j1;obtain ⟨nc,j2⟩:∃ nc:Rc,nc=⟨aX (am a) (am b) x.id y.id,x.dim+y.dim,⟨q8,j0.length,d8⟩⟩:=⟨_,rfl⟩;refine lU (fA dn I cq I)<|SL.K (qL eh I<|cO 2 I I)<|SL.K (qV 0 dT aw I I I)<|lW (bS sty27 I I I (ab sB) dC) ?_;rintro _ _ _ ⟨t1,rfl,rfl,rfl⟩;refine lW (aP (e:=encCell) 1 nc sty27 I I I I (by rw[j2]; rfl) oM oM) ?_;rintro v156 _ _ ⟨rfl,rfl⟩;refine zd4 fun ⟨w0,M⟩=>?_;obtain ⟨q9,d9,rfl⟩:=ag (i:=1) M rfl;clear M w0;refine lU (fA dn I cq I)<|oZ (sK 2 cq I I I I I sB)<|SL.nil<|bN<|tN<|rG<|lM I<|yD I<|lA I<|SL.nil<|dR (s':=rowA encCell 56 (.slice q9 (d++[nc]).length d9) (d++[nc])::pt A (.cells #[(.slice q9 (d++[nc]).length d9)] 29 (0,0))::pt b4 (.cells #[.slice none 0 0] 29 (0,0))::pt b3 (.cells #[u] 29 (0,0))::pt b2 (.cells #[v] 29 (0,0))::s) (.cons _<|.refl _)<|ST.again (g7,_,d++[nc],k+1) sB I I ⟨f.trans D,lN,?_⟩ lN;dsimp only;rw[o1,← zh1];exact (B.mono fun _ _=>an.mono D).append ⟨(by rw[r1,j2]; exact⟨I,I,j1⟩),trivial⟩
   ·have r3:(am b).take k=am b:=tL oM;rw[r3] at B;exact xI<|tX<|tX<|bX<|bN<|tN<|rG<|lM I<|yD I<|lA I<|SL.nil<|ST.again (g6,t,d,i+1) sB I I ⟨p.trans f,lN,by dsimp only; rw[e1]; exact B⟩ lN
  ·have r4:(am a).take i=am a:=tL oM;rw[r4,← P] at R;have u8:(dP a b).length≤4000:=by
    rw[P,jo];have h4:(((am a).length * (am b).length:Nat):Int)≤4000:=by rw[Int.natCast_mul]; exact Z
    omega
   have d3:aJ (dP a b):=by
    refine⟨oM,fun c hc=>?_⟩;rw[P] at hc;obtain ⟨x,hx,hc⟩:=List.mem_flatMap.1 hc;obtain ⟨y,hy,rfl⟩:=zf4.1 hc;have h1:=(i8<|d4 x hx).1;have U:=(i8<|d5 y hy).1;simp[dV];omega
   refine xI (tX<|tX<|bX<|tN<|sQ<|fS fun g6 f r5=>?_);have l0:ai g6 ov (dP a b):=⟨f9,r5,R.mono fun _ _=>an.mono f⟩;refine rG<|SL.K (qV 0 aj ae I I I)<|lW (SO.call call94 I<|dQ E g6 _ _ (dP a b) l0 d3) ?_;rintro _ g7 _ ⟨rfl,rfl,D⟩;refine aT I<|sQ<|sW I<|lU (SU.notP I)<|tZ<|iP I (fun hr=>?_) (fun hr=>?_)
   ·exact rZ<|lU (za3 I<|buildE29)<|oZ (sK 1 ae I I I I I sB)<|tZ<|rE<|tR<|ST.retCD 1 s (.inl I) results36 I aj ae I I uR ⟨I,C.trans<|G.trans<|Q.trans<|H.trans<|p.trans<|f.trans D,_,I,by unfold cX; rw[zg2 (by rw[n]; simp),zg2 hr]; exact⟨[],zc1 _ _,trivial⟩⟩
   ·refine kP<|tN<|rZ<|SL.K (qV 0 aj ae I I I)<|lW (SO.call call102 I<|bZ E g7 _ _ (dP a b) (l0.mono D) d3) ?_;rintro _ g8 _ ⟨rfl,l1,x8,rfl,l2⟩;obtain ⟨q8,d8,rfl⟩:=l2.form;exact oZ (sK 1 ae I I I I I sB)<|tZ<|rE<|ST.retCD 1 s (.inl I) results36 I aj ae I I uR ⟨I,C.trans<|G.trans<|Q.trans<|H.trans<|p.trans<|f.trans<|D.trans l1,_,I,by unfold cX; rw[zg2 (by rw[n]; simp),zg3<|zh2 hr]; exact l2⟩
end Go.Proofs.YtbbppeihhkhkcaaGreatDoor
namespace Go.Sy
open Go
section
variable {P:Program}{N:Nat}{E:World}{ops:Array Oper}{Q:Exit→Act→World→Prop}{g0:PH}{s0:Own}{tail:List Nat}{f:Fr}{g g':PH}{s s':Own}{L:Array Bool}{n:Nat}
theorem SX.to (h:∀ w,At E g s w→At E g' s' w)(c:SX P N E ops Q g0 s0 tail L n f g' s'):SX P N E ops Q g0 s0 tail L n f g s:=fun a w d b e i hb=>c a w d b e (h w i) hb
theorem SX.facts (h:(∃ w,At E g s w)→SX P N E ops Q g0 s0 tail L n f g s):SX P N E ops Q g0 s0 tail L n f g s:=fun a w d b e c hb=>h ⟨w,c⟩ a w d b e c hb
theorem SX.freezeRow {T:TypeId}{k m:Nat}{v:Value}{xs:List Value}(h:∀ g',Le g g'→Sl g' k v m xs→SX P N E ops Q g0 s0 tail L n f g' s):SX P N E ops Q g0 s0 tail L n f g (row T k v m xs::s):=fun a w c b d e hb=>by
 obtain ⟨g',i,j,l⟩:=e.freezeRow;exact h g' i l a w c b d j hb
end
end Go.Sy
namespace Go.Proofs.YtbbppeihhkhkcaaGreatDoor
open _root_.Go.Proofs.Tryz _root_.Go.Proofs.YtbbppeihhkhkcaaGreatDoor.Tryz
open Go Go.Sy Go.Pl Go.Proofs
set_option maxRecDepth 100000
def ot (ls:List (List Int)):List (List Int):=(ls.take 5).map fun l=>(l.take 4).map fun x=>bU x 7
theorem gO {α β:Type}{l:List α}{i:Nat}(h:i<l.length)(f:α→β):(l.take<|i+1).map f=(l.take i).map f++[f l[i]]:=by
 rw[tS h,zg7]; rfl
theorem l6 (E:World)(g:PH)(s:Own)(v:Value)(ls:List (List Int))(W:cU g v ls) :
  Ctr Tryz.prog E 34 #[v] g s (fun r g' s'=>∃ rs,s'=rowA dL 52 r rs::s∧Le g g'∧ax (dU g') (ot ls) rs):=by
 obtain ⟨a,b,f⟩:=W;have J:=f.length;obtain ⟨p,c,rfl⟩:=za4 b;refine zb2 (args:=[.slice p a.length c]) func34 I ntmps34 (bE I)<|rZ<|aT I<|rZ<|aT I<|sQ<|rZ<|aT I<|bK<|zb6 52 1<|oP (ι:=PH×Value×List Sv×Nat) (fun i=>[(0,.slice p a.length c),(2,.slice none 0 0),(3,i.2.1),(4,vi i.2.2.2)]) (fun i=>i.1)
  (fun i=>rowA dL 52 i.2.1 i.2.2.1::s)
  (fun i=>Le g i.1∧i.2.2.2≤a.length∧i.2.2.2≤5∧ax (dU i.1) ((ls.take i.2.2.2).map fun l=>(l.take 4).map fun x=>bU x 7) i.2.2.1) (fun i=>a.length - i.2.2.2)
  (g,.slice none 0 0,[],0) sB rfl rfl ⟨zb9 g,zf8 _,zf8 _,trivial⟩ ?_
 rintro ⟨g1,ov,rs,i⟩ ⟨d,X,L,j⟩;dsimp only at d X L j ⊢;have M:=j.length;rw[ze8,ze6] at M;have f1:(i:Int)<(a.length:Int)→(decide ((i:Int)<(a.length:Int))&&decide ((i:Int)<5))=decide ((i:Int)<5):=fun h=>by simp[h]
 have f2:¬ (i:Int)<(a.length:Int)→(decide ((i:Int)<(a.length:Int))&&decide ((i:Int)<5))=false:=fun h=>by simp only[h,decide_false,Bool.false_and]
 refine sQ<|SC.cutB 14 ((decide ((i:Int)<(a.length:Int))&&decide ((i:Int)<5))) ?_ ?_
 ·refine rG<|lM I<|lM I<|lU (eN eL I)<|yL I<|lM I<|sP ?_ ?_
  ·intro n;exact yC I<|lY I I I (lS I I)<|yP I<|SL.nil<|zb1 (by (rw[f1 n]; rfl)) mI
  ·intro n;exact yA I<|yA I<|yF I<|SL.nil<|zb1 (by (rw[f2 n]; rfl)) mI
 refine iQ I (fun N=>?_) (fun N=>?_)
 ·rw[zj5,zj8,zj8] at N;have z:i<ls.length:=oM;have A:i<a.length:=oM;have B:=b.based oM;have V:=(f.get (List.getElem?_eq_getElem z)<|List.getElem?_eq_getElem A).mono d;have C:=V.len;have o:=gO z fun l=>(l.take 4).map fun x=>bU x 7;generalize hx:ls[i]=x at *;generalize hr:a[i]=r at *;obtain ⟨rp,rn,rc⟩:=r;dsimp only at C;subst C;have D:dp g1 (.slice rp x.length rc) x:=V;have F:a[((i:Nat):Int).toNat]?=some ⟨rp,x.length,rc⟩:=by rw[← hr]; exact List.getElem?_eq_getElem A
  refine kP<|tN<|sQ<|bK<|rZ<|aT I<|sQ<|rZ<|aT I<|bK<|zb6 3 1<|oP (ι:=Value×Nat) (fun k=>[(0,.slice p a.length c),(2,.slice none 0 0),(3,ov),(4,vi i),(5,k.1),(6,vi k.2)]) (fun _=>g1)
   (fun k=>rowA encInt 3 k.1 ((x.take k.2).map fun x=>bU x 7)::rowA dL 52 ov rs::s)
   (fun k=>k.2≤x.length∧k.2≤4) (fun k=>x.length - k.2) (.slice none 0 0,0) sB rfl rfl ⟨zf8 _,zf8 _⟩ ?_
  rintro ⟨iv,k⟩ ⟨Y,O⟩;dsimp only at Y O ⊢;have f3:(k:Int)<(x.length:Int)→(decide ((k:Int)<(x.length:Int))&&decide ((k:Int)<4))=decide ((k:Int)<4):=fun h=>by simp[h]
  have f4:¬ (k:Int)<(x.length:Int)→(decide ((k:Int)<(x.length:Int))&&decide ((k:Int)<4))=false:=fun h=>by simp only[h,decide_false,Bool.false_and]
  refine sQ<|SC.cutB 27 ((decide ((k:Int)<(x.length:Int))&&decide ((k:Int)<4))) ?_ ?_
  ·refine rG<|lM I<|lM I<|lM I<|lU (iA eL fY I I B oM sL)<|SL.K (eB (u:=.slice rp x.length rc) hZ I (b.mono d).rd F I)<|lU (eN az I)<|yL I<|lM I<|sP ?_ ?_
   ·intro q;exact yC I<|lY I I I (lS I I)<|yP I<|SL.nil<|zb1 (by (rw[f3 q]; rfl)) mI
   ·intro q;exact yA I<|yA I<|yF I<|SL.nil<|zb1 (by (rw[f4 q]; rfl)) mI
  refine iQ I (fun t=>?_) (fun t=>?_)
  ·rw[zj5,zj8,zj8] at t;have G:k<x.length:=oM;have P:=za6 D oM;have Q:=gO G fun x=>bU x 7;have R:x[((k:Nat):Int).toNat]?=some x[k]:=List.getElem?_eq_getElem G;generalize x[k]=y at *;refine kP<|tN<|sQ<|bK<|rG<|lM I<|lM I<|lM I<|lU (iA eL fY I I B oM sL)<|SL.K (eB (u:=.slice rp x.length rc) hZ I (b.mono d).rd F I)<|lM I<|lU (iA az zT3 I I P oM sL)<|SL.K (eB iT3 I (za7 D) R I)<|lW (SO.call lQ I<|bB E g1 _ y 7 dC) ?_;rintro _ _ _ ⟨rfl,rfl,rfl⟩;refine lW (bS sty52 I I I (ab sB) dC) ?_;rintro _ _ _ ⟨Z,rfl,rfl,rfl⟩;refine lW (aP (e:=encInt) 0 (bU y 7) sty52 I I I I I (by rw[ze8,ze6]; omega) (by rw[ze8,ze6]; omega)) ?_;rintro iv' _ _ ⟨rfl,rfl⟩;refine lA I<|SL.nil<|bN<|tN<|rG<|lM I<|yD I<|lA I<|SL.nil ?_;refine ST.to (fun w hw=>?_) (g':=g1) (s':=rowA encInt 3 iv' ((x.take<|k+1).map fun x=>bU x 7)::rowA dL 52 ov rs::s) ?_
   ·rw[Q]; exact hw
   exact ST.again (iv',k+1) sB I I ⟨lN,lN⟩ lN
  ·have S:x.take k=x.take 4:=by
    rw[Bool.and_eq_false_iff,decide_eq_false_iff_not,decide_eq_false_iff_not] at t;by_cases h4:k=4
    ·rw[h4]
    ·rw[tL oM,tL oM]
   rw[S];refine xI (tX<|tX<|bX<|tN<|fS fun g2 m T=>?_);have H:dp g2 iv ((x.take 4).map fun x=>bU x 7):=T;obtain ⟨q2,d2,rfl⟩:=za4 H;obtain ⟨nl,a0⟩:∃ nl,nl=((x.take 4).map fun x=>bU x 7).length:=⟨_,rfl⟩;refine rG<|lM I<|lM I<|lW (bS sty22 I I I (ab sB) dC) ?_;rintro _ _ _ ⟨a1,rfl,rfl,rfl⟩;refine lW (aP (e:=dL) 0 ⟨q2,((x.take 4).map fun x=>bU x 7).length,d2⟩ sty22 I I I I I oM oM) ?_;rintro ov' _ _ ⟨rfl,rfl⟩;refine lA I<|SL.nil<|bN<|tN<|rG<|lM I<|yD I<|lA I<|SL.nil<|ST.again (g2,ov',rs++[⟨q2,((x.take 4).map fun x=>bU x 7).length,d2⟩],i+1) sB I I ⟨d.trans m,lN,lN,?_⟩ lN;dsimp only;rw[o];exact (j.mono fun _ _=>dU.mono m).append ⟨H,trivial⟩
 ·have U:ls.take i=ls.take 5:=by
   rw[Bool.and_eq_false_iff,decide_eq_false_iff_not,decide_eq_false_iff_not] at N;by_cases h5:i=5
   ·rw[h5]
   ·rw[tL oM,tL oM]
  rw[U] at j;exact xI<|tX<|tX<|bX<|tN<|sW I<|aT I<|rE<|za8 (.inl I) results34 I ⟨rs,I,d,j⟩
def eJ (id k:Int):Int:=if k=1 then id else IntKind.i64.wrap ((IntKind.i64.wrap<|id * k).tmod 211+1)
theorem kC (E:World)(g:PH)(s:Own)(a k:Int):Ctr Tryz.prog E 103 #[vi a,vi k] g s
  (fun r g' s'=>r=vi (eJ a k)∧g=g'∧s=s'):=by
 refine zb2 (args:=[vi a,vi k]) func103 I ntmps103 (bE I)<|rZ<|aT I<|sQ<|sW I<|yE I<|tZ<|iP I (fun b=>?_) (fun b=>?_)
 ·exact sW I<|aT I<|rE<|tR<|za8 (.inl I) results103 I ⟨by simp[eJ,b],I,I⟩
 ·exact kP<|tN<|sW I<|lM I<|lU (SU.mulW I I)<|lU (zd9 I I dC)<|lU (ze2 I I)<|aT I<|rE<|za8 (.inl I) results103 I ⟨by simp[eJ,b],I,I⟩
theorem o5 (E:World)(g:PH)(s:Own)(a k:Int)(b:k≠0):Ctr Tryz.prog E 104 #[vi a,vi k] g s
  (fun r g' s'=>r=vb (decide (a.tmod k=1))∧g=g'∧s=s'):=by
 exact zb2 (args:=[vi a,vi k]) func104 I ntmps104 (bE I)<|rZ<|aT I<|sW I<|lM I<|lU (zd9 I I oM)<|yE I<|aT I<|rE<|za8 (.inl I) results104 I ⟨I,I,I⟩
theorem jv:∀ (all ls:List (List Int)),all.length≤4000→(∀ x∈all,x.length≤9)→∀ r,aW all ls=some r→r.length≤4000∧∀ x∈r,x.length≤9
 | all,[],d,c,r,h=>by cases h; exact⟨d,c⟩
 | all,t::ls,d,c,r,h=>by
  unfold aW at h;split at h
  ·exact jv all ls d c r h
  ·rename_i hb;split at h
   ·cases h
   ·rename_i hl;refine jv _ ls oM (fun x b=>?_) r h
    rcases lr b with b | b
    ·exact c x b
    ·refine iG ?_ x b;cases e:dA t with
     | nil=>simp
     | cons a r =>
      rw[e] at hb;simp only[jC,zj6,zj8,not_or] at hb;omega
theorem ey (ls:List (List Int)):aJ (dy ls)∧(dy ls).length≤4000:=by
 unfold dy;cases h:aW [] ls with
 | none=>exact⟨⟨by simp,by simp⟩,by simp⟩
 | some all =>
  obtain ⟨a,b⟩:=jv [] ls (by simp) (by simp) all h;have c:(aa<|bc all).length≤4000:=by rw[au,bJ]; exact a
  exact⟨aA<|kN a b,c⟩
theorem fk (a b:List Cl):aJ (cX a b)∧(cX a b).length≤4000:=by
 unfold cX;split
 ·exact⟨⟨by simp,by simp⟩,by simp⟩
 ·rename_i d;split
  ·have o:(aF a).2=0:=zh2 fun h=>d (by simp[cI,h]);have hb:(aF b).2=0:=zh2 fun h=>d (by simp[cI,h]);have m:((am a).length:Int) * (am b).length≤4000:=by
    refine zh2 fun h=>d ?_;have:((am a).length:Int) * (am b).length>4000:=oM;simp[cI,this]
   obtain ⟨_,_,f,g⟩:=dX o;obtain ⟨_,_,i,j⟩:=dX hb;rw[← f] at g;rw[← i] at j;have e:dP a b=(am a).flatMap fun x=>(am b).map (dV (am a) (am b) x):=by unfold dP; rw[← f,← i]
   have n:(dP a b).length≤4000:=by
    rw[e,jo];have r:(((am a).length * (am b).length:Nat):Int)≤4000:=by rw[Int.natCast_mul]; exact m
    omega
   have k:aJ (dP a b):=by
    refine⟨oM,fun c l=>?_⟩;rw[e] at l;obtain ⟨x,p,l⟩:=List.mem_flatMap.1 l;obtain ⟨y,q,rfl⟩:=zf4.1 l;have s:=(i8<|g x p).1;have t:=(i8<|j y q).1;simp[dV];omega
   exact⟨aA k,by rw[au]; exact n⟩
  ·exact⟨⟨by simp,by simp⟩,by simp⟩
def qq:List Cl:=cX (dy [[0,1],[1,2],[0,2]]) (dy [[0,1],[1,2],[0,2]])
theorem zk (E:World)(g:PH)(s:Own):Ctr Tryz.prog E 38 #[] g s (fun r g' s'=>s=s'∧Le g g'∧∃ u,r = .agg #[u]∧ai g' u qq):=by
 have o:=(ey [[0,1],[1,2],[0,2]]).1;refine zb2 (args:=[]) func38 I ntmps38 (bE I)<|rZ (bW (aL zl9) fun b0=>?_);refine tZ<|rZ<|lW (bS sty52 I I I (ab sB) dC) ?_;rintro _ _ _ ⟨b2,rfl,rfl,rfl⟩;refine zb5 fun g1 e j=>?_;refine lW (bS sty52 I I I (ab sB) dC) ?_;rintro _ _ _ ⟨b3,rfl,rfl,rfl⟩;refine zb5 fun g2 c k=>?_;refine lW (bS sty52 I I I (ab sB) dC) ?_;rintro _ _ _ ⟨b4,rfl,rfl,rfl⟩;refine zb5 fun g3 b l=>?_;refine lW (bS sty22 I I I (ab sB) dC) ?_;rintro _ _ _ ⟨b5,rfl,rfl,rfl⟩;refine zb5 fun g4 a m=>?_;have f:cU g4 (.slice (some ⟨b5,0,none⟩) 3 3) [[0,1],[1,2],[0,2]]:=⟨[jD<|.slice (some ⟨b2,0,none⟩) 2 2,jD<|.slice (some ⟨b3,0,none⟩) 2 2,jD<|.slice (some ⟨b4,0,none⟩) 2 2],SlA.lit m rfl rfl,⟨SlA.lit (a _ _<|b _ _<|c _ _ j) rfl rfl,SlA.lit (a _ _<|b _ _ k) rfl rfl,SlA.lit (a _ _ l) rfl rfl,trivial⟩⟩;refine lW (SO.call call33 I<|aR E g4 _ _ _ f dC dC) ?_;rintro _ g5 _ ⟨rfl,h,u,rfl,n⟩;obtain ⟨q,d,rfl⟩:=n.form;refine bW (aL zl9) fun b1=>oZ (sK 0 ae I I I I I sB)<|tZ<|rZ<|SL.K (qV 0 aj ae I I I)<|SL.K (qV 0 aj ae I I I)<|lW (SO.call call36 I<|fo E g5 _ _ _ _ _ n n o o) ?_;rintro _ g6 _ ⟨rfl,i,x,rfl,p⟩;obtain ⟨q6,d6,rfl⟩:=p.form;exact oZ (sK 1 ae I I I I I sB)<|tZ<|rE<|ST.retCD 1 s (.inl I) results38 I aj ae I I uR ⟨I,e.trans<|c.trans<|b.trans<|a.trans<|h.trans i,_,I,p⟩
theorem zB (ls:List (List Int)):(ot ls).length≤5∧∀ x∈ot ls,x.length≤4:=by
 refine⟨by simp[ot]; omega,fun x a=>?_⟩;obtain ⟨l,_,rfl⟩:=zf4.1 a;simp;omega
def FE:List (List Int):=[[0,1,2],[0,1,3],[0,2,3],[1,2,3]]
def FD:List (List Int):=[[0,1,2],[0,2,3],[0,3,4],[0,4,5],[0,1,5],[1,2,4],[2,3,5],[1,3,4],[2,4,5],[1,3,5]]
def uY (k:Nat):List (List Int):=(List.range k).flatMap fun (i:Nat)=>[[(i:Int),((i:Int)+1).tmod 7,((i:Int)+3).tmod 7],[(i:Int),((i:Int)+2).tmod 7,((i:Int)+3).tmod 7]]
def nk (n:Int):List (List Int):=if bU n 3=0 then FE else if bU n 3=1 then FD else uY 7
theorem qO (k:Nat):uY (k+1)=uY k++[[(k:Int),((k:Int)+1).tmod 7,((k:Int)+3).tmod 7],[(k:Int),((k:Int)+2).tmod 7,((k:Int)+3).tmod 7]]:=by
 simp[uY,List.range_succ,List.flatMap_append]
theorem j7 (k:Nat):(uY k).length=2 * k:=by
 induction k with
 | zero=>rfl
 | succ k ih=>rw[qO,ze7,ih]; simp; omega
theorem ns (E:World)(g:PH)(s:Own)(n:Int):Ctr Tryz.prog E 35 #[vi n] g s (fun r g' s'=>s=s'∧Le g g'∧cU g' r (nk n)):=by
 refine zb2 (args:=[vi n]) func35 I ntmps35 (bE I)<|rZ<|aT I<|sQ<|sW I<|lW (SO.call lQ I<|bB E g _ n 3 dC) ?_;rintro _ _ _ ⟨rfl,rfl,rfl⟩;refine tZ<|bK<|rZ<|yE I<|aT I<|iP I (fun R=>?_) (fun R=>?_)
 ·refine rZ<|lW (bS sty52 I I I (ab sB) dC) ?_;rintro _ _ _ ⟨b9,rfl,rfl,rfl⟩;refine zb5 fun g1 p S=>?_;refine lW (bS sty52 I I I (ab sB) dC) ?_;rintro _ _ _ ⟨T,rfl,rfl,rfl⟩;refine zb5 fun g2 d u=>?_;refine lW (bS sty52 I I I (ab sB) dC) ?_;rintro _ _ _ ⟨U,rfl,rfl,rfl⟩;refine zb5 fun g3 f v=>?_;refine lW (bS sty52 I I I (ab sB) dC) ?_;rintro _ _ _ ⟨V,rfl,rfl,rfl⟩;refine zb5 fun g4 b w=>?_;refine lW (bS sty22 I I I (ab sB) dC) ?_;rintro _ _ _ ⟨W,rfl,rfl,rfl⟩;refine zb5 fun g5 h x=>?_;have o:cU g5 (.slice (some ⟨W,0,none⟩) 4 4) FE:=⟨[jD<|.slice (some ⟨b9,0,none⟩) 3 3,jD<|.slice (some ⟨T,0,none⟩) 3 3,jD<|.slice (some ⟨U,0,none⟩) 3 3,jD<|.slice (some ⟨V,0,none⟩) 3 3],SlA.lit x rfl rfl,⟨SlA.lit (h _ _<|b _ _<|f _ _<|d _ _ S) rfl rfl,SlA.lit (h _ _<|b _ _<|f _ _ u) rfl rfl,SlA.lit (h _ _<|b _ _ v) rfl rfl,SlA.lit (h _ _ w) rfl rfl,trivial⟩⟩;exact aT I<|rE<|bR<|tR<|za8 (.inl I) results35 I ⟨I,(p.trans<|d.trans<|f.trans<|b.trans h),by unfold nk; rw[zg3 R]; exact o⟩
 ·refine rZ<|yE I<|aT I<|iP I (fun X=>?_) (fun X=>?_)
  ·refine rZ<|lW (bS sty52 I I I (ab sB) dC) ?_;rintro _ _ _ ⟨Y,rfl,rfl,rfl⟩;refine zb5 fun g1 p y=>?_;refine lW (bS sty52 I I I (ab sB) dC) ?_;rintro _ _ _ ⟨Z,rfl,rfl,rfl⟩;refine zb5 fun g2 d z=>?_;refine lW (bS sty52 I I I (ab sB) dC) ?_;rintro _ _ _ ⟨a0,rfl,rfl,rfl⟩;refine zb5 fun g3 f A=>?_;refine lW (bS sty52 I I I (ab sB) dC) ?_;rintro _ _ _ ⟨a1,rfl,rfl,rfl⟩;refine zb5 fun g4 b B=>?_;refine lW (bS sty52 I I I (ab sB) dC) ?_;rintro _ _ _ ⟨a2,rfl,rfl,rfl⟩;refine zb5 fun g5 h C=>?_;refine lW (bS sty52 I I I (ab sB) dC) ?_;rintro _ _ _ ⟨a3,rfl,rfl,rfl⟩;refine zb5 fun g6 m D=>?_;refine lW (bS sty52 I I I (ab sB) dC) ?_;rintro _ _ _ ⟨a4,rfl,rfl,rfl⟩;refine zb5 fun g7 l F=>?_;refine lW (bS sty52 I I I (ab sB) dC) ?_;rintro _ _ _ ⟨a5,rfl,rfl,rfl⟩;refine zb5 fun g8 k G=>?_;refine lW (bS sty52 I I I (ab sB) dC) ?_;rintro _ _ _ ⟨a9,rfl,rfl,rfl⟩;refine zb5 fun g9 j H=>?_;refine lW (bS sty52 I I I (ab sB) dC) ?_;rintro _ _ _ ⟨b0,rfl,rfl,rfl⟩;refine zb5 fun b8 c J=>?_;refine lW (bS sty22 I I I (ab sB) dC) ?_;rintro _ _ _ ⟨b1,rfl,rfl,rfl⟩;refine zb5 fun b2 a K=>?_;have o:cU b2 (.slice (some ⟨b1,0,none⟩) 10 10) FD:=⟨[jD<|.slice (some ⟨Y,0,none⟩) 3 3,jD<|.slice (some ⟨Z,0,none⟩) 3 3,jD<|.slice (some ⟨a0,0,none⟩) 3 3,jD<|.slice (some ⟨a1,0,none⟩) 3 3,jD<|.slice (some ⟨a2,0,none⟩) 3 3,jD<|.slice (some ⟨a3,0,none⟩) 3 3,jD<|.slice (some ⟨a4,0,none⟩) 3 3,jD<|.slice (some ⟨a5,0,none⟩) 3 3,jD<|.slice (some ⟨a9,0,none⟩) 3 3,jD<|.slice (some ⟨b0,0,none⟩) 3 3],SlA.lit K rfl rfl,⟨SlA.lit (a _ _<|c _ _<|j _ _<|k _ _<|l _ _<|m _ _<|h _ _<|b _ _<|f _ _<|d _ _ y) rfl rfl,SlA.lit (a _ _<|c _ _<|j _ _<|k _ _<|l _ _<|m _ _<|h _ _<|b _ _<|f _ _ z) rfl rfl,SlA.lit (a _ _<|c _ _<|j _ _<|k _ _<|l _ _<|m _ _<|h _ _<|b _ _ A) rfl rfl,SlA.lit (a _ _<|c _ _<|j _ _<|k _ _<|l _ _<|m _ _<|h _ _ B) rfl rfl,SlA.lit (a _ _<|c _ _<|j _ _<|k _ _<|l _ _<|m _ _ C) rfl rfl,SlA.lit (a _ _<|c _ _<|j _ _<|k _ _<|l _ _ D) rfl rfl,SlA.lit (a _ _<|c _ _<|j _ _<|k _ _ F) rfl rfl,SlA.lit (a _ _<|c _ _<|j _ _ G) rfl rfl,SlA.lit (a _ _<|c _ _ H) rfl rfl,SlA.lit (a _ _ J) rfl rfl,trivial⟩⟩;exact aT I<|rE<|bR<|tR<|za8 (.inl I) results35 I ⟨I,(p.trans<|d.trans<|f.trans<|b.trans<|h.trans<|m.trans<|l.trans<|k.trans<|j.trans<|c.trans a),by unfold nk; rw[zg2 R,zg3 X]; exact o⟩
  ·refine kP<|bN<|tN<|rZ<|aT I<|sQ<|rZ<|aT I<|bK<|zb6 52 1<|oP (ι:=PH×Value×List Sv×Nat) (fun i=>[(3,i.2.1),(4,vi i.2.2.2)]) (fun i=>i.1)
    (fun i=>rowA dL 52 i.2.1 i.2.2.1::s)
    (fun i=>Le g i.1∧i.2.2.2≤7∧ax (dU i.1) (uY i.2.2.2) i.2.2.1) (fun i=>7 - i.2.2.2)
    (g,.slice none 0 0,[],0) sB rfl rfl ⟨zb9 g,zf8 _,trivial⟩ ?_
   rintro ⟨g1,ov,rs,i⟩ ⟨t,hi,q⟩;dsimp only at t hi q ⊢;have b3:=q.length;rw[j7] at b3;refine sQ<|sW I<|yL I<|tZ<|iP I (fun b4=>?_) (fun b4=>?_)
   ·have L:i<7:=oM;refine kP<|tN<|sQ<|bK<|rG<|lM I<|lM I<|lM I<|yD I<|lU (zd9 I I dC)<|lM I<|yD I<|lU (zd9 I I dC)<|lW (bS sty52 I I I (ab sB) dC) ?_;rintro _ _ _ ⟨M,rfl,rfl,rfl⟩;refine zb5 fun g2 d N=>?_;refine lM I<|lM I<|yD I<|lU (zd9 I I dC)<|lM I<|yD I<|lU (zd9 I I dC)<|lW (bS sty52 I I I (ab sB) dC) ?_;rintro _ _ _ ⟨O,rfl,rfl,rfl⟩;refine zb5 fun g3 f P=>?_;refine lW (bS sty22 I I I (ab sB) dC) ?_;rintro _ _ _ ⟨b5,rfl,rfl,rfl⟩;refine zb5 fun g4 b Q=>?_;have o:SlA dL g4 (.slice (some ⟨b5,0,none⟩) 2 2) [⟨some ⟨M,0,none⟩,3,3⟩,⟨some ⟨O,0,none⟩,3,3⟩]:=SlA.lit Q rfl rfl;refine lW (aQ (e:=dL) 0 sty22 I I I o lN lN) ?_;rintro ov' _ _ ⟨rfl,rfl⟩;refine lA I<|SL.nil<|bN<|tN<|rG<|lM I<|yD I<|lA I<|SL.nil<|ST.again (g4,ov',rs++[⟨some ⟨M,0,none⟩,3,3⟩,⟨some ⟨O,0,none⟩,3,3⟩],i+1) sB I I ⟨t.trans<|d.trans<|f.trans b,lN,?_⟩ lN;dsimp only;rw[qO];exact (q.mono fun _ _=>dU.mono<|d.trans<|f.trans b).append ⟨SlA.lit (b _ _<|f _ _ N) I I,SlA.lit (b _ _ P) I I,trivial⟩
   ·have L:i=7:=oM;subst L;refine xI (tX<|tX<|bX<|tN<|sQ<|fS fun g2 d b6=>?_);have b7:cU g2 ov (uY 7):=⟨rs,b6,q.mono fun _ _=>dU.mono d⟩;exact rG<|lM I<|aT I<|rE<|za8 (.inl I) results35 I ⟨I,t.trans d,by unfold nk; rw[zg2 R,zg2 X]; exact b7⟩
set_option maxHeartbeats 1000000
def mA (k:Nat):List Cl:=(List.range k).map fun (i:Nat)=>⟨(i:Int)+1,0,[]⟩
def nn (n k:Nat):List Cl:=(List.range k).map fun (i:Nat)=>⟨(n:Int)+i+1,1,[⟨(i:Int)+1,-1⟩,⟨((i:Int)+1).tmod n+1,1⟩]⟩
def gL (n k:Nat):List ak:=(List.range k).map fun (i:Nat)=>⟨(n:Int)+i+1,1⟩
def eZ (n:Nat):List Cl:=mA n++nn n n++[⟨2 * (n:Int)+1,2,gL n n⟩]++(if (n:Int).tmod 2=0 then [⟨2 * (n:Int)+2,2,gL n n⟩] else [])
def wO (n:Nat):List Cl:=aa (eZ n)
theorem zL (k:Nat):mA (k+1)=mA k++[⟨(k:Int)+1,0,[]⟩]:=by simp[mA,List.range_succ]
theorem zN (n k:Nat):nn n (k+1)=nn n k++[⟨(n:Int)+k+1,1,[⟨(k:Int)+1,-1⟩,⟨((k:Int)+1).tmod n+1,1⟩]⟩]:=by simp[nn,List.range_succ]
theorem zM (n k:Nat):gL n (k+1)=gL n k++[⟨(n:Int)+k+1,1⟩]:=by simp[gL,List.range_succ]
theorem ke (n k:Nat):(gL n k).length=k:=by simp[gL]
theorem nu {n:Nat}(h:n≤6):aJ (eZ n)∧(eZ n).length≤14:=by
 have hl:(eZ n).length≤14:=by
  unfold eZ;split <;> simp[mA,nn] <;> omega
 refine⟨⟨oM,fun c a=>?_⟩,hl⟩;unfold eZ at a
 rcases zf5.1 a with a | a
 ·rcases zf5.1 a with a | a
  ·rcases zf5.1 a with a | a
   ·obtain ⟨i,_,rfl⟩:=zf4.1 a;simp
   ·obtain ⟨i,_,rfl⟩:=zf4.1 a;simp
  ·simp at a;subst a;simp[ke];omega
 ·split at a
  ·simp at a;subst a;simp[ke];omega
  ·simp at a
theorem Tryz.buildD56 (x:Int)(w:World):(Instr.build 56 #[(0,vi x)]).run Tryz.prog w = .ok (.agg #[vi x,vi 0,.slice none 0 0]) w:=by
 have hz:(Value.agg #[vi 0,vi 0,Value.slice none 0 0]).cells = #[vi 0,vi 0,.slice none 0 0]:=rfl;have a:∀ z:Int,(vi z).cells = #[vi z]:=fun _=>rfl;simp[Instr.build,Instr.fill,hz,a]
theorem vA (E:World)(g:PH)(s:Own)(n:Nat)(h2:2≤n)(h6:n≤6) :
  Ctr Tryz.prog E 37 #[vi n] g s (fun r g' s'=>s=s'∧Le g g'∧∃ x,r = .agg #[x]∧ai g' x (wO n)):=by
 have N:((n:Nat):Int)≠0:=oM;refine zb2 (args:=[vi n]) func37 I ntmps37 (bE I)<|rZ (bW (aL zl9) fun b2=>?_);refine tZ (rZ<|bW (aL zl9) fun b3=>?_);refine tZ<|sQ<|rZ<|aT I<|bK<|zb6 56 3<|oP (ι:=Value×List Rc×Nat) (fun i=>[(0,vi n),(2,pp b2 0),(3,pp b3 0),(4,vi i.2.2)]) (fun _=>g)
  (fun i=>rowA encCell 56 i.1 i.2.1::pt b3 (.cells #[i.1] 29 (0,0))::pt b2 (.cells #[.slice none 0 0] 29 (0,0))::s)
  (fun i=>i.2.2≤n∧ax (an g) (mA i.2.2) i.2.1) (fun i=>n - i.2.2)
  (.slice none 0 0,[],0) sB rfl rfl ⟨zf8 _,trivial⟩ ?_
 rintro ⟨ov,O,i⟩ ⟨hi,q⟩;dsimp only at hi q ⊢;have V:=q.length;simp only[mA,ze8,zi6] at V;refine sQ<|sW I<|lM I<|yL I<|tZ<|iP I (fun W=>?_) (fun W=>?_)
 ·refine kP<|tN<|sQ<|bK<|rG<|lU (fA dn I cq I)<|SL.K (qL (v:=ov) eh I<|cO 1 I I)<|lM I<|yD I<|lU (za3 I<|buildD56 _)<|lW (bS sty27 I I I (ab sB) dC) ?_;rintro _ _ _ ⟨b4,rfl,rfl,rfl⟩;refine lW (aP (e:=encCell) 0 ⟨(i:Int)+1,0,⟨none,0,0⟩⟩ sty27 I I I I I oM oM) ?_;rintro v20 _ _ ⟨rfl,rfl⟩;refine zd4 fun ⟨w0,c⟩=>?_;obtain ⟨q9,d9,rfl⟩:=ag (i:=0) c rfl;clear c w0;refine lU (fA dn I cq I)<|oZ (sK 1 cq I I I I I sB)<|SL.nil<|bN<|tN<|rG<|lM I<|yD I<|lA I<|SL.nil<|ST.again (_,O++[⟨(i:Int)+1,0,⟨none,0,0⟩⟩],i+1) sB I I ⟨lN,?_⟩ lN;dsimp only;rw[zL];exact q.append ⟨⟨I,I,zc1 _ _⟩,trivial⟩
 ·have X:i=n:=oM;subst X;refine xI<|tX<|tX<|bX<|tN<|rZ<|aT I<|sQ<|rZ<|aT I<|bK<|zb6 75 2<|oP (ι:=PH×Value×List Rc×Value×Nat) (fun k=>[(0,vi i),(2,pp b2 0),(3,pp b3 0),(5,k.2.2.2.1),(6,vi k.2.2.2.2)]) (fun k=>k.1)
   (fun k=>rowA encSide 75 k.2.2.2.1 (gL i k.2.2.2.2)::rowA encCell 56 k.2.1 k.2.2.1::pt b3 (.cells #[k.2.1] 29 (0,0))::pt b2 (.cells #[.slice none 0 0] 29 (0,0))::s)
   (fun k=>Le g k.1∧k.2.2.2.2≤i∧ax (an k.1) (mA i++nn i k.2.2.2.2) k.2.2.1) (fun k=>i - k.2.2.2.2)
   (g,ov,O,.slice none 0 0,0) sB rfl rfl ⟨zb9 g,zf8 _,by simpa [nn] using q⟩ ?_
  rintro ⟨g1,F,b,sv,k⟩ ⟨t,hk,f⟩;dsimp only at t hk f ⊢;have P:=f.length;simp only[mA,nn,ze7,ze8,zi6] at P;have b5:=ke i k;refine sQ<|sW I<|lM I<|yL I<|tZ<|iP I (fun Q=>?_) (fun Q=>?_)
  ·have b6:0≤((k:Int)+1).tmod i∧((k:Int)+1).tmod i<i:=by
    rw[Int.tmod_eq_emod_of_nonneg oM];exact⟨Int.emod_nonneg _ N,Int.emod_lt_of_pos _ oM⟩
   refine kP (tN<|sQ<|bK<|sW I<|yD I<|lU (za3 I<|buildS75 _ _)<|bW (aL zm1) fun b7=>?_);refine oZ (sK 0 aY I I I I I sB)<|tZ (sW I<|yD I<|lM I<|lU (zd9 I I N)<|yD I<|lU (za3 I<|buildS75 _ _)<|bW (aL zm1) fun b8=>?_);refine oZ (sK 0 aY I I I I I sB)<|tZ<|sQ ?_;refine SC.to (fun w Y=>Y) (g':=g1) (s':=pt b8 (.cells #[vi<|((k:Int)+1).tmod i+1,vi 1] 75 (0,0))::pt b7 (.cells #[vi<|(k:Int)+1,vi<|-1] 75 (0,0))::rowA encSide 75 sv (gL i k)::rowA encCell 56 F b::pt b3 (.cells #[F] 29 (0,0))::pt b2 (.cells #[.slice none 0 0] 29 (0,0))::s) ?_;refine rG<|lU (fA dn I cq I)<|SL.K (qL (v:=F) eh I<|cO 4 I I)<|lM I<|lM I<|yD I<|yD I<|SL.K (qV 1 jn aY I I I)<|SL.K (qV 0 jn aY I I I)<|lW (bS sty39 I I I (ab sB) dC) ?_;rintro _ _ _ ⟨u,rfl,rfl,rfl⟩;refine zb5 fun g2 d R=>?_;have y:SlA encSide g2 (.slice (some ⟨u,0,none⟩) 2 2) [⟨(k:Int)+1,-1⟩,⟨((k:Int)+1).tmod i+1,1⟩]:=SlA.lit R rfl rfl;refine lU (za3 I<|buildF56 _ _ _ I)<|lW (bS sty27 I I I (ab sB) dC) ?_;rintro _ _ _ ⟨b9,rfl,rfl,rfl⟩;refine lW (aP (e:=encCell) 3 ⟨(i:Int)+k+1,1,⟨some ⟨u,0,none⟩,2,2⟩⟩ sty27 I I I I I oM oM) ?_;rintro v47 _ _ ⟨rfl,rfl⟩;refine zd4 fun ⟨w0,c⟩=>?_;obtain ⟨q9,d9,rfl⟩:=ag (i:=3) c rfl;clear c w0;refine lU (fA dn I cq I)<|oZ (sK 4 cq I I I I I sB)<|tZ<|rG<|lM I<|lM I<|lM I<|yD I<|yD I<|lU (za3 I<|buildS75 _ _)<|lW (bS sty39 I I I (ab sB) dC) ?_;rintro _ _ _ ⟨c0,rfl,rfl,rfl⟩;refine lW (aP (e:=encSide) 2 ⟨(i:Int)+k+1,1⟩ sty39 I I I I I oM oM) ?_;rintro v56 _ _ ⟨rfl,rfl⟩;refine lA I<|SL.nil<|bN<|tN<|rG<|lM I<|yD I<|lA I<|SL.nil<|dR (s':=rowA encSide 75 v56 (gL i k++[⟨(i:Int)+k+1,1⟩])::rowA encCell 56 (.slice q9 (b++[(⟨(i:Int)+k+1,1,⟨some ⟨u,0,none⟩,2,2⟩⟩:Rc)]).length d9) (b++[⟨(i:Int)+k+1,1,⟨some ⟨u,0,none⟩,2,2⟩⟩])::pt b3 (.cells #[.slice q9 (b++[(⟨(i:Int)+k+1,1,⟨some ⟨u,0,none⟩,2,2⟩⟩:Rc)]).length d9] 29 (0,0))::pt b2 (.cells #[.slice none 0 0] 29 (0,0))::s) (.cons _<|.cons _<|.refl _) ?_;rw[← zM];refine ST.again (g2,_,b++[⟨(i:Int)+k+1,1,⟨some ⟨u,0,none⟩,2,2⟩⟩],v56,k+1) sB I I ⟨t.trans d,lN,?_⟩ lN;dsimp only;rw[zN,← zh1];exact (f.mono fun _ _=>an.mono d).append ⟨⟨I,I,y⟩,trivial⟩
  ·have Z:k=i:=oM;subst Z;refine xI (tX<|tX<|bX<|tN<|sQ<|fS fun g2 d a0=>?_);have y:SlA encSide g2 sv (gL k k):=a0;obtain ⟨qs,ds,rfl⟩:=za4 y;have J:=f.mono fun _ _=>an.mono d;refine rG<|lU (fA dn I cq I)<|SL.K (qL (v:=F) eh I<|cO 1 I I)<|lM I<|lU (SU.mul I I oM)<|yD I<|lM I<|lU (za3 I<|buildF56 _ _ _ I)<|lW (bS sty27 I I I (ab sB) dC) ?_;rintro _ _ _ ⟨c1,rfl,rfl,rfl⟩;refine lW (aP (e:=encCell) 0 ⟨2 * (k:Int)+1,2,⟨qs,(gL k k).length,ds⟩⟩ sty27 I I I I I oM oM) ?_;rintro v65 _ _ ⟨rfl,rfl⟩;refine zd4 fun ⟨w0,c⟩=>?_;obtain ⟨q9,d9,rfl⟩:=ag (i:=0) c rfl;clear c w0;refine lU (fA dn I cq I)<|oZ (sK 1 cq I I I I I sB)<|tZ<|sQ<|sW I<|lU (zd9 I I dC)<|yE I<|tZ ?_;have j:ax (an g2) (mA k++nn k k++[⟨2 * (k:Int)+1,2,gL k k⟩]) (b++[⟨2 * (k:Int)+1,2,⟨qs,(gL k k).length,ds⟩⟩]):=J.append ⟨⟨rfl,rfl,y⟩,trivial⟩;obtain ⟨m,G⟩:∃ m,m=b++[(⟨2 * (k:Int)+1,2,⟨qs,(gL k k).length,ds⟩⟩:Rc)]:=⟨_,rfl⟩;have a1:m.length=b.length+1:=by rw[G]; simp
   rw[← G] at j ⊢;have H:=(nu h6).1;refine iP I (fun L=>?_) (fun L=>?_)
   ·have z:eZ k=mA k++nn k k++[⟨2 * (k:Int)+1,2,gL k k⟩]++[⟨2 * (k:Int)+2,2,gL k k⟩]:=by unfold eZ; rw[zg3 L]
    refine dW [10,11,12] [(0,2),(1,1),(2,2),(3,2),(4,2),(6,2),(5,0),(7,0),(8,2),(9,0),(10,0),(11,0),(12,0)] ze5 kR<|pU I (fA dn I cq I)<|pK I (qL (v:=.slice q9 m.length d9) eh I<|cO 1 I I)<|yM I<|pU I (SU.mul I I oM)<|pU I (aD I I oM)<|yM I<|SP.o I (bS sty39 I I I (ab trivial) dC) dC (.inr iR) ?_;rintro _ _ _ ⟨a2,rfl,rfl,rfl⟩;refine SP.to (fun w Y=>(Y.sublist<|List.Sublist.cons _<|.refl _).emptyRow 75 2<|some ⟨a2,0,none⟩) ?_;refine SP.o I (aQ (e:=encSide) (l:=[]) 0 sty39 I I I y lN lN) dC (.inr iR) ?_;rintro v77 _ _ ⟨rfl,rfl⟩;refine SP.freezeRow fun a3 A S=>?_;have B:SlA encSide a3 v77 ([]++gL k k):=S;rw[List.nil_append] at B;obtain ⟨T,U,rfl⟩:=za4 B;refine pU I (za3 I<|buildF56 _ _ _ I)<|SP.o I (bS sty27 I I I (ab sB) dC) dC (.inr iR) ?_;rintro _ _ _ ⟨c2,rfl,rfl,rfl⟩;refine SP.o I (aP (e:=encCell) (l:=m) 0 ⟨2 * (k:Int)+2,2,⟨T,(gL k k).length,U⟩⟩ sty27 I I I I I oM oM) dC (.inl dC) ?_;rintro v80 _ _ ⟨rfl,rfl⟩;refine zd3 fun ⟨w0,c⟩=>?_;obtain ⟨a4,a5,rfl⟩:=ag (i:=0) c rfl;clear c w0;refine oU I (fA dn I cq I) dC (.inl dC)<|SP.on I (sK 1 cq I I I I I sB) (.inl dC) ?_;rintro _ _ _ ⟨rfl,rfl⟩;refine pN (tN<|sQ<|fS fun C a D=>?_);have M:ai C (.slice a4 (m++[(⟨2 * (k:Int)+2,2,⟨T,(gL k k).length,U⟩⟩:Rc)]).length a5) (eZ k):=(by rw[z]; exact⟨_,D,(j.mono fun _ _=>an.mono<|A.trans a).append ⟨⟨I,I,B.mono a⟩,trivial⟩⟩);refine rG<|SL.K (qV 0 aj ae I I I)<|lW (SO.call call102 I<|bZ E C _ _ (eZ k) M H) ?_;rintro _ g79 _ ⟨rfl,p,a9,rfl,h⟩;obtain ⟨b0,b1,rfl⟩:=h.form;refine oZ (sK 1 ae I I I I I sB) ?_;refine tZ<|rE ?_;exact ST.retCD 1 s (.inl I) results37 I aj ae I I uR ⟨I,t.trans<|d.trans<|A.trans<|a.trans p,_,I,h⟩
   ·have z:eZ k=mA k++nn k k++[⟨2 * (k:Int)+1,2,gL k k⟩]:=by unfold eZ; rw[zg2 L,zc7]
    refine kP (tN<|sQ<|fS fun C a D=>?_);have M:ai C (.slice q9 m.length d9) (eZ k):=(by rw[z]; exact⟨_,D,j.mono fun _ _=>an.mono a⟩);refine rG<|SL.K (qV 0 aj ae I I I)<|lW (SO.call call102 I<|bZ E C _ _ (eZ k) M H) ?_;rintro _ g79 _ ⟨rfl,p,a9,rfl,h⟩;obtain ⟨b0,b1,rfl⟩:=h.form;exact oZ (sK 1 ae I I I I I sB)<|tZ<|rE<|ST.retCD 1 s (.inl I) results37 I aj ae I I uR ⟨I,t.trans<|d.trans<|a.trans p,_,I,h⟩
theorem dE (a b:Int)(c:0<b)(d:b≤1000):0≤bU a b∧bU a b<b:=by
 have e:a.tmod b<b:=Int.tmod_lt_of_pos a c;have f : -b<a.tmod b:=by
  have:=Int.lt_tmod_of_pos a c;omega
 unfold bU;rw[zl2 _ oM,Int.tmod_eq_emod_of_nonneg oM];exact⟨Int.emod_nonneg _ oM,Int.emod_lt_of_pos _ c⟩
def AB (y:Int):Int:=1+2 * bU (IntKind.i64.wrap<|y.tdiv 7) 3
def Fw (y:Int):Int:=bU (IntKind.i64.wrap<|y.tdiv 5) 4
def jy (t:Int)(x:Cl):Bool:=decide (t>1)&&decide (x.id.tmod t=1)
def jf (t:Int)(x:Cl)(q:Int):Bool:=(decide (t>1)&&decide (x.dim>1))&&decide (q.tmod t=1)
def uZ (b:Bool)(a:Int):Int:=if b then IntKind.i64.wrap (0 - a) else a
def bi (k t:Int)(x:Cl)(q:ak):ak:=⟨eJ q.cell k,uZ (jf t x q.cell)<|uZ (jy t x) q.sign⟩
def aK (k t:Int)(x:Cl):Cl:=⟨eJ x.id k,x.dim,x.sides.map<|bi k t x⟩
def FT (l:List Cl)(y:Int):List Cl:=aa (l.map<|aK (AB y)<|Fw y)
theorem xU {l:List Cl}(h:aJ l)(k t:Int):aJ (l.map<|aK k t):=by
 refine⟨by simpa using h.1,fun c a=>?_⟩;obtain ⟨x,b,rfl⟩:=zf4.1 a;simpa [aK] using h.2 x b
theorem kx (E:World)(g:PH)(s:Own)(v:Value)(l:List Cl)(y:Int)(hv:ai g v l)(hf:aJ l) :
  Ctr Tryz.prog E 39 #[.agg #[v],vi y] g s (fun r g' s'=>s=s'∧Le g g'∧∃ x,r = .agg #[x]∧ai g' x (FT l y)):=by
 obtain ⟨rs,J,H⟩:=hv;have el:=H.length;obtain ⟨p,c,rfl⟩:=J.form;have c2:=hf.1;have c3:=dE (IntKind.i64.wrap<|y.tdiv 7) 3 dC dC;have a3:=dE (IntKind.i64.wrap<|y.tdiv 5) 4 dC dC;refine zb2 (args:=[.agg #[.slice p rs.length c],vi y]) func39 I ntmps39 (bE I)<|rZ (bW (bO I) fun b2=>?_);refine bW (aL zl9) fun b4=>tZ<|sW I<|lU (SU.quo I I dC)<|lW (SO.call lQ I<|bB E g _ _ 3 dC) ?_;rintro _ _ _ ⟨rfl,rfl,rfl⟩;refine lU (SU.mul I I oM)<|yD I<|aT I<|sW I<|lU (SU.quo I I dC)<|lW (SO.call lQ I<|bB E g _ _ 4 dC) ?_;rintro _ _ _ ⟨rfl,rfl,rfl⟩;refine aT I (rZ<|bW (aL zl9) fun b7=>?_);refine tZ<|sQ<|rZ<|aT I<|bK<|zb6 56 3 ?_;have a4:1+2 * bU (IntKind.i64.wrap<|y.tdiv 7) 3=AB y:=rfl;have S:bU (IntKind.i64.wrap<|y.tdiv 5) 4=Fw y:=rfl;rw[S] at a3;unfold FT;simp only[a4,S];generalize AB y=k at *;generalize Fw y=t at *;refine oP (ι:=PH×Value×List Rc×Nat) (fun i=>[(2,pp b2 0),(4,pp b4 0),(5,vi k),(6,vi t),(7,pp b7 0),(8,vi i.2.2.2)]) (fun i=>i.1) (fun i=>rowA encCell 56 i.2.1 i.2.2.1::pt b7 (.cells #[i.2.1] 29 (0,0))::pt b4 (.cells #[.slice none 0 0] 29 (0,0))::pt b2 (.cells #[.slice p rs.length c] 29 (0,0))::s)
  (fun i=>Le g i.1∧i.2.2.2≤rs.length∧ax (an i.1) ((l.take i.2.2.2).map<|aK k t) i.2.2.1) (fun i=>rs.length - i.2.2.2)
  (g,.slice none 0 0,[],0) sB rfl rfl ⟨zb9 g,zf8 _,trivial⟩ ?_
 rintro ⟨g1,ov,d,i⟩ ⟨B,hi,m⟩;dsimp only at B hi m ⊢;have a5:=m.length;rw[ze8,ze6] at a5;refine sQ<|sW I<|lU (fA dn I cq I)<|SL.K (qL (v:=.slice p rs.length c) eh I<|cO 3 I I)<|lU (eN aB I)<|yL I<|tZ<|iP I (fun a9=>?_) (fun a9=>?_)
 ·have L:i<l.length:=oM;have T:i<rs.length:=oM;have b0:=J.based oM;have b1:=(H.get (List.getElem?_eq_getElem L)<|List.getElem?_eq_getElem T).mono B;have U:rs[((i:Nat):Int).toNat]?=some rs[i]:=List.getElem?_eq_getElem T;have M:=gO L<|aK k t;have c5:=hf.2 _<|gM L;generalize c6:l[i]=x at *;obtain ⟨xp,a,b3,F⟩:=eX b1;rw[b3] at U;refine kP (tN<|sQ<|bK<|rZ<|lU (fA dn I cq I)<|SL.K (qL (v:=.slice p rs.length c) eh I<|cO 3 I I)<|lM I<|lU (iA aB aw I I b0 oM sL)<|SL.K (SQ.elemA dT aw I (J.mono B).rd U)<|bW (aL zl7) fun b9=>?_);refine oZ (sK 0 aw I I I I I sB)<|tZ ?_;refine SC.to (fun w hw=>hw) (g':=g1) (s':=pt b9 (.cells #[vi x.id,vi x.dim,.slice xp x.sides.length a] 56 (0,0))::rowA encCell 56 ov d::pt b7 (.cells #[ov] 29 (0,0))::pt b4 (.cells #[.slice none 0 0] 29 (0,0))::pt b2 (.cells #[.slice p rs.length c] 29 (0,0))::s) ?_;refine SC.cut (ι:=Nat) (fun b=>[(2,pp b2 0),(4,pp b4 0),(5,vi k),(6,vi t),(7,pp b7 0),(8,vi i),(9,pp b9 0),(10,pp b 0)]) (fun _=>g1) (fun b=>pt b (.cells #[vi<|eJ x.id k,vi x.dim,.slice none 0 0] 56 (0,0))::pt b9 (.cells #[vi x.id,vi x.dim,.slice xp x.sides.length a] 56 (0,0))::rowA encCell 56 ov d::pt b7 (.cells #[ov] 29 (0,0))::pt b4 (.cells #[.slice none 0 0] 29 (0,0))::pt b2 (.cells #[.slice p rs.length c] 29 (0,0))::s) (fun _=>True) ?_ ?_
  ·refine SC.drawX [] ze5 kR ?_;refine SX.u (i:=0) I kR (fA ao I zT3 I) dC<|SX.q (i:=1) I kR (qL (v:=vi x.id) iT3 I<|cO 0 I I) dC<|SX.u (i:=2) I kR (mV I) dC<|SX.u (i:=4) I kR (fA ao I zT3 I) dC<|SX.q (i:=5) I kR (qL (v:=vi x.dim) iT3 I<|cO 0 I I) dC ?_
   repeat' (first
    | (refine SB.o (i:=3) I (SO.call call103 I<|kC E g1 _ x.id k) dC (.inr iR) ?_; rintro _ _ _ ⟨rfl,rfl,rfl⟩; refine SX.u (i:=6) I kD (za3 I<|buildC56 _ _) dC ?_)
    | (refine SB.o (i:=3) I (SO.call call103 I<|kC E g1 _ x.id k) dC (.inr iR) ?_; rintro _ _ _ ⟨rfl,rfl,rfl⟩; refine SX.u (i:=6) I kD (za3 I<|buildC56 _ _) dC ?_)
    | (refine SB.o (i:=7) I (aL zl7) dC (.inr iR) ?_; rintro _ _ _ ⟨b,rfl,rfl,rfl⟩)
    | (refine SB.on (i:=8) I (sK 0 aw I I I I I sB) (.inr iR) ?_; rintro _ _ _ ⟨rfl,rfl⟩)
    | refine zd8 3 7 kD ?_ ?_
    | refine zd7 7 kD ?_
    | refine zd7 8 kD ?_
    | refine zd7 3 kD ?_
    | (refine SX.nil kD ?_; exact za9 b sB I I trivial))
  rintro b -;try dsimp only
  refine zb6 75 2<|sQ<|rZ<|aT I<|bK<|oP (ι:=Value×Nat) (fun j=>[(2,pp b2 0),(4,pp b4 0),(5,vi k),(6,vi t),(7,pp b7 0),(8,vi i),(9,pp b9 0),(10,pp b 0),(11,vi j.2)]) (fun _=>g1) (fun j=>rowA encSide 75 j.1 ((x.sides.take j.2).map<|bi k t x)::pt b (.cells #[vi<|eJ x.id k,vi x.dim,j.1] 56 (0,0))::pt b9 (.cells #[vi x.id,vi x.dim,.slice xp x.sides.length a] 56 (0,0))::rowA encCell 56 ov d::pt b7 (.cells #[ov] 29 (0,0))::pt b4 (.cells #[.slice none 0 0] 29 (0,0))::pt b2 (.cells #[.slice p rs.length c] 29 (0,0))::s)
   (fun j=>j.2≤x.sides.length) (fun j=>x.sides.length - j.2) (.slice none 0 0,0) sB rfl rfl (zf8 _) ?_
  rintro ⟨sv,j⟩ hj;dsimp only at hj ⊢;refine sQ<|sW I<|lU (fA ao I aM I)<|SL.K (qL (v:=.slice xp x.sides.length a) br I<|cO 2 I I)<|lU (eN be I)<|yL I<|tZ<|iP I (fun V=>?_) (fun V=>?_)
  ·have W:j<x.sides.length:=oM;have A:=F.based oM;have N:x.sides[((j:Nat):Int).toNat]?=some x.sides[j]:=List.getElem?_eq_getElem W;have X:=gO W<|bi k t x;generalize x.sides[j]=z at *;refine kP<|tN<|sQ<|bK<|SC.cut (ι:=Nat) (fun f=>[(2,pp b2 0),(4,pp b4 0),(5,vi k),(6,vi t),(7,pp b7 0),(8,vi i),(9,pp b9 0),(10,pp b 0),(11,vi j),(12,pp f 0)]) (fun _=>g1) (fun f=>pt f (.cells #[vi<|eJ z.cell k,vi z.sign] 75 (0,0))::rowA encSide 75 sv ((x.sides.take j).map<|bi k t x)::pt b (.cells #[vi<|eJ x.id k,vi x.dim,sv] 56 (0,0))::pt b9 (.cells #[vi x.id,vi x.dim,.slice xp x.sides.length a] 56 (0,0))::rowA encCell 56 ov d::pt b7 (.cells #[ov] 29 (0,0))::pt b4 (.cells #[.slice none 0 0] 29 (0,0))::pt b2 (.cells #[.slice p rs.length c] 29 (0,0))::s) (fun _=>True) ?_ ?_
   ·refine SC.drawX [] ze5 kR ?_;refine SX.u (i:=0) I kR (fA ao I aM I) dC<|SX.q (i:=1) I kR (qL (v:=.slice xp x.sides.length a) br I<|cO 2 I I) dC<|SX.u (i:=2) I kR (mV I) dC<|SX.u (i:=3) I kR (iA be aY I I A oM sL) dC<|SX.u (i:=4) I kR (fC c4 I zT3 I A) dC<|SX.q (i:=5) I kR (aZ (e:=encSide) (o:=0) (u:=vi z.cell) iT3 I F.rd N I) dC<|SX.u (i:=6) I kR (mV I) dC<|SX.u (i:=8) I kR (fA ao I aM I) dC<|SX.q (i:=9) I kR (qL (v:=.slice xp x.sides.length a) br I<|cO 2 I I) dC<|SX.u (i:=10) I kR (mV I) dC<|SX.u (i:=11) I kR (iA be aY I I A oM sL) dC<|SX.u (i:=12) I kR (fC c4 I zT3 I A) dC<|SX.q (i:=13) I kR (aZ (e:=encSide) (o:=1) (u:=vi z.sign) iT3 I F.rd N I) dC ?_
    repeat' (first
     | (refine SB.o (i:=7) I (SO.call call103 I<|kC E g1 _ z.cell k) dC (.inr iR) ?_; rintro _ _ _ ⟨rfl,rfl,rfl⟩; refine SX.u (i:=14) I kD (za3 I<|buildS75 _ _) dC ?_)
     | (refine SB.o (i:=7) I (SO.call call103 I<|kC E g1 _ z.cell k) dC (.inr iR) ?_; rintro _ _ _ ⟨rfl,rfl,rfl⟩; refine SX.u (i:=14) I kD (za3 I<|buildS75 _ _) dC ?_)
     | (refine SB.o (i:=15) I (aL zm1) dC (.inr iR) ?_; rintro _ _ _ ⟨f,rfl,rfl,rfl⟩)
     | (refine SB.on (i:=16) I (sK 0 aY I I I I I sB) (.inr iR) ?_; rintro _ _ _ ⟨rfl,rfl⟩)
     | refine zd8 7 15 kD ?_ ?_
     | refine zd7 15 kD ?_
     | refine zd7 16 kD ?_
     | refine zd7 7 kD ?_
     | (refine SX.nil kD ?_; exact za9 f sB I I trivial))
   rintro f -;try dsimp only
   have e1:t>1→jy t x=decide (x.id.tmod t=1):=fun h=>by simp[jy,h]
   have e2:¬ t>1→jy t x=false:=fun h=>by simp only[jy,h,decide_false,Bool.false_and]
   have e3:t>1→x.dim>1→jf t x z.cell=decide (z.cell.tmod t=1):=fun h h'=>by simp[jf,h,h']
   have e4:t>1→¬ x.dim>1→jf t x z.cell=false:=fun h h'=>by simp only[jf,h',decide_false,Bool.and_false,Bool.false_and]
   have e5:¬ t>1→jf t x z.cell=false:=fun h=>by simp only[jf,h,decide_false,Bool.false_and]
   refine SC.cut (ι:=Int) (fun _=>[(2,pp b2 0),(4,pp b4 0),(5,vi k),(6,vi t),(7,pp b7 0),(8,vi i),(9,pp b9 0),(10,pp b 0),(11,vi j),(12,pp f 0)]) (fun _=>g1) (fun sg=>pt f (.cells #[vi<|eJ z.cell k,vi sg] 75 (0,0))::rowA encSide 75 sv ((x.sides.take j).map<|bi k t x)::pt b (.cells #[vi<|eJ x.id k,vi x.dim,sv] 56 (0,0))::pt b9 (.cells #[vi x.id,vi x.dim,.slice xp x.sides.length a] 56 (0,0))::rowA encCell 56 ov d::pt b7 (.cells #[ov] 29 (0,0))::pt b4 (.cells #[.slice none 0 0] 29 (0,0))::pt b2 (.cells #[.slice p rs.length c] 29 (0,0))::s) (fun sg=>sg=uZ (jy t x) z.sign) ?_ ?_
   ·refine SC.cutB 69 ((jy t x)) ?_ ?_
    ·refine rG<|lM I<|lU (gR I I)<|lM I<|sP ?_ ?_
     ·intro O;refine lY I I I (fA ao I zT3 I)<|SL.gq (gT I I I dC) (qL (v:=vi x.id) iT3 I<|cO 3 I I) dC<|yC I<|ze3 (gT I I I dC) (SO.call call104 I<|o5 E g1 _ x.id t oM) dC ?_;rintro _ _ _ ⟨rfl,rfl,rfl⟩;exact yP I<|SL.nil<|zb1 (by (rw[e1 O]; rfl)) mI
     ·intro O;exact yA I<|yA I<|yA I<|yA I<|yF I<|SL.nil<|zb1 (by (rw[e2 O]; rfl)) mI
    refine iQ I (fun P=>?_) (fun P=>?_)
    ·refine rG<|lU (fA c4 rfl zT3 rfl)<|SL.K (qL (v:=vi z.sign) iT3 rfl<|cO 0 rfl rfl)<|lU (SU.neg rfl)<|lU (fA c4 rfl zT3 rfl)<|oZ (SO.store1 0 zT3 rfl rfl rfl rfl (bE rfl)<|by rfl) ?_;refine SL.nil ?_;exact za9 (IntKind.i64.wrap<|0 - z.sign) sB I I (by rw[P]; rfl)
    ·exact kP<|za9 z.sign sB I I (by rw[P]; rfl)
   rintro s1 b5;try dsimp only
   refine SC.cut (ι:=Int) (fun _=>[(2,pp b2 0),(4,pp b4 0),(5,vi k),(6,vi t),(7,pp b7 0),(8,vi i),(9,pp b9 0),(10,pp b 0),(11,vi j),(12,pp f 0)]) (fun _=>g1) (fun sg=>pt f (.cells #[vi<|eJ z.cell k,vi sg] 75 (0,0))::rowA encSide 75 sv ((x.sides.take j).map<|bi k t x)::pt b (.cells #[vi<|eJ x.id k,vi x.dim,sv] 56 (0,0))::pt b9 (.cells #[vi x.id,vi x.dim,.slice xp x.sides.length a] 56 (0,0))::rowA encCell 56 ov d::pt b7 (.cells #[ov] 29 (0,0))::pt b4 (.cells #[.slice none 0 0] 29 (0,0))::pt b2 (.cells #[.slice p rs.length c] 29 (0,0))::s) (fun sg=>sg=uZ (jf t x z.cell) s1) ?_ ?_
   ·refine SC.cutB 90 ((jf t x z.cell)) ?_ ?_
    ·refine rG<|lM I<|lU (gR I I)<|lM I<|sP ?_ ?_
     ·intro G;refine lY I I I (fA ao I zT3 I)<|SL.gq (gT I I I dC) (qL (v:=vi x.dim) iT3 I<|cO 3 I I) dC<|lY I I I (gR I I)<|yP I<|lM I<|sP ?_ ?_
      ·intro Q;refine lY I I I (fA ao I aM I)<|SL.gq (gT I I I dC) (qL (v:=.slice xp x.sides.length a) br I<|cO 3 I I) dC<|yC I<|lY I I I (iA be aY I I A oM sL)<|lY I I I (fC c4 I zT3 I A)<|SL.gq (gT I I I dC) (aZ (e:=encSide) (o:=0) (u:=vi z.cell) iT3 I F.rd N I) dC<|yC I<|ze3 (gT I I I dC) (SO.call call104 I<|o5 E g1 _ z.cell t oM) dC ?_;rintro _ _ _ ⟨rfl,rfl,rfl⟩;exact yP I<|SL.nil<|zb1 (by (rw[e3 G Q]; rfl)) mI
      ·intro Q;exact yA I<|yA I<|yA I<|yA I<|yA I<|yA I<|yA I<|yA I<|yF I<|SL.nil<|zb1 (by (rw[e4 G Q]; rfl)) mI
     ·intro G;exact yA I<|yA I<|yA I<|yF I<|lM I<|yA I<|yA I<|yA I<|yA I<|yA I<|yA I<|yA I<|yA I<|yF I<|SL.nil<|zb1 (by (rw[e5 G]; rfl)) mI
    refine iQ I (fun R=>?_) (fun R=>?_)
    ·refine rG<|lU (fA c4 rfl zT3 rfl)<|SL.K (qL (v:=vi s1) iT3 rfl<|cO 0 rfl rfl)<|lU (SU.neg rfl)<|lU (fA c4 rfl zT3 rfl)<|oZ (SO.store1 0 zT3 rfl rfl rfl rfl (bE rfl)<|by rfl) ?_;refine SL.nil ?_;exact za9 (IntKind.i64.wrap<|0 - s1) sB I I (by rw[R]; rfl)
    ·exact kP<|za9 s1 sB I I (by rw[R]; rfl)
   rintro s2 C;try dsimp only
   have b6:bi k t x z=⟨eJ z.cell k,s2⟩:=by unfold bi; rw[C,b5]
   rw[b6] at X;have c7:((x.sides.take j).map<|bi k t x).length=j:=by rw[ze8,ze6]; omega
   refine rG<|lU (fA ao I aM I)<|SL.K (qL (v:=sv) br I<|cO 2 I I)<|SL.K (qV 0 jn aY I I I)<|lW (bS sty39 I I I (ab sB) dC) ?_;rintro _ _ _ ⟨c9,rfl,rfl,rfl⟩;refine lW (aP (e:=encSide) 1 ⟨eJ z.cell k,s2⟩ sty39 I I I I I oM oM) ?_;rintro sv' _ _ ⟨rfl,rfl⟩;rw[← X];refine zd4 fun ⟨w0,D⟩=>?_;obtain ⟨q6,d6,rfl⟩:=ag (i:=1) D rfl;clear D w0;refine lU (fA ao rfl aM rfl)<|oZ (SO.store1 2 aM rfl rfl rfl rfl (bE rfl)<|by rfl) ?_;refine SL.nil<|bN<|tN<|rG<|lM I<|yD I<|lA I<|SL.nil<|dR (s':=rowA encSide 75 (.slice q6 ((x.sides.take<|j+1).map<|bi k t x).length d6) ((x.sides.take<|j+1).map<|bi k t x)::pt b (.cells #[vi<|eJ x.id k,vi x.dim,(.slice q6 ((x.sides.take<|j+1).map<|bi k t x).length d6)] 56 (0,0))::pt b9 (.cells #[vi x.id,vi x.dim,.slice xp x.sides.length a] 56 (0,0))::rowA encCell 56 ov d::pt b7 (.cells #[ov] 29 (0,0))::pt b4 (.cells #[.slice none 0 0] 29 (0,0))::pt b2 (.cells #[.slice p rs.length c] 29 (0,0))::s) (.cons _<|.refl _) ?_;exact ST.again (_,j+1) sB I I lN lN
  ·have b8:x.sides.take j=x.sides:=tL oM;rw[b8];refine xI (tX<|tX<|bX<|tN<|fS fun g2 n C=>?_);have Y:SlA encSide g2 sv (x.sides.map<|bi k t x):=C;obtain ⟨q8,d8,rfl⟩:=za4 Y;obtain ⟨nc,Z⟩:∃ nc:Rc,nc=⟨eJ x.id k,x.dim,⟨q8,(x.sides.map<|bi k t x).length,d8⟩⟩:=⟨_,rfl⟩;refine rG<|lU (fA dn I cq I)<|SL.K (qL (v:=ov) eh I<|cO 3 I I)<|SL.K (qV 0 dT aw I I I)<|lW (bS sty27 I I I (ab sB) dC) ?_;rintro _ _ _ ⟨c1,rfl,rfl,rfl⟩;refine lW (aP (e:=encCell) 2 nc sty27 I I I I (by rw[Z]; rfl) oM oM) ?_;rintro v105 _ _ ⟨rfl,rfl⟩;refine zd4 fun ⟨w0,D⟩=>?_;obtain ⟨q9,d9,rfl⟩:=ag (i:=2) D rfl;clear D w0;refine lU (fA dn I cq I)<|oZ (sK 3 cq I I I I I sB)<|SL.nil<|bN<|tN<|rG<|lM I<|yD I<|lA I<|SL.nil<|dR (s':=rowA encCell 56 (.slice q9 (d++[nc]).length d9) (d++[nc])::pt b7 (.cells #[(.slice q9 (d++[nc]).length d9)] 29 (0,0))::pt b4 (.cells #[.slice none 0 0] 29 (0,0))::pt b2 (.cells #[.slice p rs.length c] 29 (0,0))::s) (.cons _<|.cons _<|.refl _)<|ST.again (g2,_,d++[nc],i+1) sB I I ⟨B.trans n,lN,?_⟩ lN;dsimp only;rw[M];exact (m.mono fun _ _=>an.mono n).append ⟨(by rw[Z]; exact⟨I,I,Y⟩),trivial⟩
 ·have c0:l.take i=l:=tL oM;rw[c0] at m;refine xI (tX<|tX<|bX<|tN<|sQ<|fS fun g2 n C=>?_);have a0:ai g2 ov (l.map<|aK k t):=⟨d,C,m.mono fun _ _=>an.mono n⟩;obtain ⟨qo,d0,rfl⟩:=a0.form;refine rG<|SL.K (qV 0 aj ae I I I)<|lW (SO.call call102 I<|bZ E g2 _ _ _ a0<|xU hf k t) ?_;rintro _ g3 _ ⟨rfl,a1,x3,rfl,a2⟩;obtain ⟨q3,d3,rfl⟩:=a2.form;exact oZ (sK 1 ae I I I I I sB)<|tZ<|rE<|ST.retCD 1 s (.inl I) results39 I aj ae I I uR ⟨I,B.trans<|n.trans a1,_,I,a2⟩
def wx (j:Int):List (List Int):=if j=0 then [[0,1]] else if j=1 then [[0,1],[1,2]] else [[0,1],[1,2],[0,2]]
def FsQ (j:Int)(a b c:Value):Value:=if j=0 then a else if j=1 then b else c
theorem xR {j:Int}(h:0≤j∧j<3)(a b c:Value) : #[a,b,c][0+j.toNat * 1]?=some (FsQ j a b c):=by
 rcases (by omega:j=0∨j=1∨j=2) with rfl | rfl | rfl <;> rfl
theorem o6 {g:PH}{j:Int}(h:0≤j∧j<3){a b c:Value}(d:cU g a [[0,1]])(hb:cU g b [[0,1],[1,2]])(e:cU g c [[0,1],[1,2],[0,2]]):cU g (FsQ j a b c) (wx j):=by
 rcases (by omega:j=0∨j=1∨j=2) with rfl | rfl | rfl
 ·exact d
 ·exact hb
 ·exact e
theorem ji (j:Int):(wx j).length≤3∧∀ x∈wx j,x.length≤2:=by
 unfold wx;split
 ·exact⟨by decide,by decide⟩
 ·split
  ·exact⟨by decide,by decide⟩
  ·exact⟨by decide,by decide⟩
theorem zr (y:Int):4≤(nk y).length∧(nk y).length≤14∧∀ x∈nk y,x.length≤3:=by
 unfold nk;split
 ·exact⟨by decide,by decide,by decide⟩
 ·split
  ·exact⟨by decide,by decide,by decide⟩
  ·refine⟨by rw[j7]; decide,by rw[j7]; decide,fun x a=>?_⟩;obtain ⟨i,_,a⟩:=List.mem_flatMap.1 a;simp at a
   rcases a with rfl | rfl <;> simp
def oy (m:Int)(ls:List (List Int))(y:Int):List Cl :=
 if m=3 then dy (nk y) else if m=4 then cX (dy<|wx<|bU y 3) (dy<|wx<|bU (IntKind.i64.wrap<|y.tdiv 3) 3)
 else if m=5 then wO (2+bU y 5).toNat else if m=6 then cX (cX (dy [[0,1]])<|dy [[0,1]]) (dy [[0,1]])
 else if m=7 then dy (ot ls++(nk y).take (2+bU y 2).toNat) else dy (ot ls)
theorem rP (m:Int)(ls:List (List Int))(y:Int):aJ (oy m ls y):=by
 unfold oy;have a:=dE y 5 dC dC
 repeat' split
 ·exact (ey _).1
 ·exact (fk _ _).1
 ·exact aA (nu oM).1
 ·exact (fk _ _).1
 ·exact (ey _).1
 ·exact (ey _).1
def qy (b:List Cl):List Cl:=if (b.length:Int)>45 then qq else b
def jR (kd:Int)(ls:List (List Int))(y:Int):List Cl:=FT (qy<|oy (bU kd 8) ls y) y
theorem CE {b:List Cl}(h:aJ b):aJ (qy b):=by
 unfold qy;split
 ·exact (fk _ _).1
 ·exact h
theorem rh (kd:Int)(ls:List (List Int))(y:Int):aJ (jR kd ls y):=aA (xU (CE<|rP _ _ _) _ _)
theorem Tryz.build88 (p1:Option Addr)(n1 c1:Nat)(p2:Option Addr)(n2 c2:Nat)(p3:Option Addr)(n3 c3:Nat)(w:World):(Instr.build 88 #[(0,.slice p1 n1 c1),(1,.slice p2 n2 c2),(2,.slice p3 n3 c3)]).run Tryz.prog w = .ok (.agg #[.slice p1 n1 c1,.slice p2 n2 c2,.slice p3 n3 c3]) w:=by
 have hz:(Value.agg #[Value.slice none 0 0,Value.slice none 0 0,Value.slice none 0 0]).cells = #[.slice none 0 0,.slice none 0 0,.slice none 0 0]:=rfl;have a:(Value.slice p1 n1 c1).cells = #[.slice p1 n1 c1]:=rfl;have b:(Value.slice p2 n2 c2).cells = #[.slice p2 n2 c2]:=rfl;have c:(Value.slice p3 n3 c3).cells = #[.slice p3 n3 c3]:=rfl;simp[Instr.build,Instr.fill,hz,a,b,c]
theorem Ca (E:World)(g:PH)(s:Own)(v:Value)(kd y:Int)(ls:List (List Int))(hv:cU g v ls) :
  Ctr Tryz.prog E 11 #[.agg #[vi kd,v,vi y]] g s (fun r g' s'=>s=s'∧Le g g'∧∃ x,r = .agg #[x]∧ai g' x (jR kd ls y)):=by
 obtain ⟨p,n,c,rfl⟩:∃ p n c,v = .slice p n c:=by
  obtain ⟨f8,b0,_⟩:=hv;obtain ⟨p,c,rfl⟩:=za4 b0;exact⟨_,_,_,I⟩
 have f9:=dE kd 8 dC dC;have b4:=dE y 3 dC dC;have a4:=dE (IntKind.i64.wrap<|y.tdiv 3) 3 dC dC;have h0:=dE y 5 dC dC;have h1:=dE y 2 dC dC;have Z:=zB ls;have b7:=zr y;unfold jR;have b8:=rP (bU kd 8) ls y;refine zb2 (args:=[.agg #[vi kd,.slice p n c,vi y]]) func11 I ntmps11 (bE I)<|rZ (bW (bO I) fun b1=>?_);refine bW (aL zl9) fun b2=>tZ (rZ<|bW (aL zl9) fun b3=>?_);refine tZ ?_;refine SC.to (fun w hw=>hw) (g':=g) (s':=pt b3 (.cells #[.slice none 0 0] 29 (0,0))::pt b2 (.cells #[.slice none 0 0] 29 (0,0))::pt b1 (.cells #[vi kd,.slice p n c,vi y] 24 (0,0))::s) ?_;refine SC.cut (ι:=PH×Value) (fun _=>[(1,pp b1 0),(2,pp b2 0),(3,pp b3 0)]) (fun i=>i.1) (fun i=>pt b3 (.cells #[i.2] 29 (0,0))::pt b2 (.cells #[.slice none 0 0] 29 (0,0))::pt b1 (.cells #[vi kd,.slice p n c,vi y] 24 (0,0))::s) (fun i=>Le g i.1∧ai i.1 i.2 (oy (bU kd 8) ls y)) ?_ ?_
 ·rcases (by omega:(bU kd 8=0∨bU kd 8=1∨bU kd 8=2)∨bU kd 8=3∨bU kd 8=4∨bU kd 8=5∨bU kd 8=6∨bU kd 8=7) with (hm | hm | hm) | hm | hm | hm | hm | hm
  ·refine rZ<|lU (fA mL I zT3 I)<|SL.K (qL (v:=vi kd) iT3 I<|cO 2 I I)<|lW (SO.call lQ I<|bB E g _ _ 8 dC) ?_;rintro _ _ _ ⟨rfl,rfl,rfl⟩;rw[hm];refine tZ<|bK<|sQ<|rZ<|yE I<|aT I<|za2 I<|kP<|tN<|za2 I<|rG<|lU (fA mL I sizeOf22 I)<|SL.K (qL (v:=.slice p n c) isAgg22 I<|cO 2 I I)<|lW (SO.call call34 I<|l6 E g _ _ ls hv) ?_;rintro v16 g1 _ ⟨R,rfl,f,j⟩;refine zd6 fun g2 b U=>?_;have D:cU g2 v16 (ot ls):=⟨R,U,j.mono fun _ _=>dU.mono b⟩;refine lW (SO.call call33 I<|aR E g2 _ _ _ D oM (fun x S=>by have:=Z.2 x S; omega)) ?_;rintro _ g3 _ ⟨rfl,a,u,rfl,F⟩;obtain ⟨q,d,rfl⟩:=F.form;exact oZ (sK 0 ae I I I I I sB)<|SL.nil<|bN<|za9 (g3,_) sB I I ⟨f.trans<|b.trans a,F⟩
  ·refine rZ<|lU (fA mL I zT3 I)<|SL.K (qL (v:=vi kd) iT3 I<|cO 2 I I)<|lW (SO.call lQ I<|bB E g _ _ 8 dC) ?_;rintro _ _ _ ⟨rfl,rfl,rfl⟩;rw[hm];refine tZ<|bK<|sQ<|rZ<|yE I<|aT I<|za1 I<|rZ<|yE I<|aT I<|za2 I<|kP<|tN<|za2 I<|rG<|lU (fA mL I sizeOf22 I)<|SL.K (qL (v:=.slice p n c) isAgg22 I<|cO 2 I I)<|lW (SO.call call34 I<|l6 E g _ _ ls hv) ?_;rintro v16 g1 _ ⟨R,rfl,f,j⟩;refine zd6 fun g2 b U=>?_;have D:cU g2 v16 (ot ls):=⟨R,U,j.mono fun _ _=>dU.mono b⟩;refine lW (SO.call call33 I<|aR E g2 _ _ _ D oM (fun x S=>by have:=Z.2 x S; omega)) ?_;rintro _ g3 _ ⟨rfl,a,u,rfl,F⟩;obtain ⟨q,d,rfl⟩:=F.form;exact oZ (sK 0 ae I I I I I sB)<|SL.nil<|bN<|za9 (g3,_) sB I I ⟨f.trans<|b.trans a,F⟩
  ·refine rZ<|lU (fA mL I zT3 I)<|SL.K (qL (v:=vi kd) iT3 I<|cO 2 I I)<|lW (SO.call lQ I<|bB E g _ _ 8 dC) ?_;rintro _ _ _ ⟨rfl,rfl,rfl⟩;rw[hm];refine tZ<|bK<|sQ<|rZ<|yE I<|aT I<|za1 I<|rZ<|yE I<|aT I<|za1 I<|rG<|yE I<|aT I<|za2 I<|rG<|lU (fA mL I sizeOf22 I)<|SL.K (qL (v:=.slice p n c) isAgg22 I<|cO 2 I I)<|lW (SO.call call34 I<|l6 E g _ _ ls hv) ?_;rintro v16 g1 _ ⟨R,rfl,f,j⟩;refine zd6 fun g2 b U=>?_;have D:cU g2 v16 (ot ls):=⟨R,U,j.mono fun _ _=>dU.mono b⟩;refine lW (SO.call call33 I<|aR E g2 _ _ _ D oM (fun x S=>by have:=Z.2 x S; omega)) ?_;rintro _ g3 _ ⟨rfl,a,u,rfl,F⟩;obtain ⟨q,d,rfl⟩:=F.form;exact oZ (sK 0 ae I I I I I sB)<|SL.nil<|bN<|za9 (g3,_) sB I I ⟨f.trans<|b.trans a,F⟩
  ·refine rZ<|lU (fA mL I zT3 I)<|SL.K (qL (v:=vi kd) iT3 I<|cO 2 I I)<|lW (SO.call lQ I<|bB E g _ _ 8 dC) ?_;rintro _ _ _ ⟨rfl,rfl,rfl⟩;rw[hm];refine tZ<|bK<|sQ<|rZ<|yE I<|aT I<|za1 I<|rZ<|yE I<|aT I<|za1 I<|rG<|yE I<|aT I<|za1 I<|rZ<|yE I<|aT I<|za2 I<|rG<|lU (fA mL I zT3 I)<|SL.K (qL (v:=vi y) iT3 I<|cO 2 I I)<|lW (SO.call call35 I<|ns E g _ y) ?_;rintro v22 g1 _ ⟨rfl,f,D⟩;refine lW (SO.call call33 I<|aR E g1 _ _ _ D oM (fun x S=>by have:=b7.2.2 x S; omega)) ?_;rintro _ g3 _ ⟨rfl,a,u,rfl,F⟩;obtain ⟨q,d,rfl⟩:=F.form;exact oZ (sK 0 ae I I I I I sB)<|SL.nil<|bN<|za9 (g3,_) sB I I ⟨f.trans a,F⟩
  ·refine rZ<|lU (fA mL I zT3 I)<|SL.K (qL (v:=vi kd) iT3 I<|cO 2 I I)<|lW (SO.call lQ I<|bB E g _ _ 8 dC) ?_;rintro _ _ _ ⟨rfl,rfl,rfl⟩;rw[hm];refine tZ<|bK<|sQ<|rZ<|yE I<|aT I<|za1 I<|rZ<|yE I<|aT I<|za1 I<|rG<|yE I<|aT I<|za1 I<|rZ<|yE I<|aT I<|za1 I<|rZ<|yE I<|aT I<|za2 I<|rZ<|lU (fA mL I zT3 I)<|SL.K (qL (v:=vi y) iT3 I<|cO 2 I I)<|lW (SO.call lQ I<|bB E g _ _ 3 dC) ?_;rintro _ _ _ ⟨rfl,rfl,rfl⟩;refine aT I<|rZ<|lW (bS sty52 I I I (ab sB) dC) ?_;rintro _ _ _ ⟨d6,rfl,rfl,rfl⟩;refine zb5 fun g1 f b9=>?_;refine lW (bS sty22 I I I (ab ⟨I,trivial⟩) dC) ?_;rintro _ _ _ ⟨a0,rfl,rfl,rfl⟩;refine zb5 fun g2 b c0=>?_;have O:cU g2 (.slice (some ⟨a0,0,none⟩) 1 1) [[0,1]]:=⟨[jD<|.slice (some ⟨d6,0,none⟩) 2 2],SlA.lit c0 rfl rfl,⟨SlA.lit (b _ _ b9) rfl rfl,trivial⟩⟩;refine lW (bS sty52 I I I (ab sB) dC) ?_;rintro _ _ _ ⟨d7,rfl,rfl,rfl⟩;refine zb5 fun g3 a c1=>?_;refine lW (bS sty52 I I I (ab sB) dC) ?_;rintro _ _ _ ⟨d8,rfl,rfl,rfl⟩;refine zb5 fun g4 t c2=>?_;refine lW (bS sty22 I I I (ab sB) dC) ?_;rintro _ _ _ ⟨a1,rfl,rfl,rfl⟩;refine zb5 fun g5 G c3=>?_;have P:cU g5 (.slice (some ⟨a1,0,none⟩) 2 2) [[0,1],[1,2]]:=⟨[jD<|.slice (some ⟨d7,0,none⟩) 2 2,jD<|.slice (some ⟨d8,0,none⟩) 2 2],SlA.lit c3 rfl rfl,⟨SlA.lit (G _ _<|t _ _ c1) rfl rfl,SlA.lit (G _ _ c2) rfl rfl,trivial⟩⟩;refine lW (bS sty52 I I I (ab sB) dC) ?_;rintro _ _ _ ⟨d9,rfl,rfl,rfl⟩;refine zb5 fun g6 H c5=>?_;refine lW (bS sty52 I I I (ab sB) dC) ?_;rintro _ _ _ ⟨e0,rfl,rfl,rfl⟩;refine zb5 fun g7 C c6=>?_;refine lW (bS sty52 I I I (ab sB) dC) ?_;rintro _ _ _ ⟨e1,rfl,rfl,rfl⟩;refine zb5 fun g8 z c7=>?_;refine lW (bS sty22 I I I (ab sB) dC) ?_;rintro _ _ _ ⟨a2,rfl,rfl,rfl⟩;refine zb5 fun g9 k c9=>?_;have Q:cU g9 (.slice (some ⟨a2,0,none⟩) 3 3) [[0,1],[1,2],[0,2]]:=⟨[jD<|.slice (some ⟨d9,0,none⟩) 2 2,jD<|.slice (some ⟨e0,0,none⟩) 2 2,jD<|.slice (some ⟨e1,0,none⟩) 2 2],SlA.lit c9 rfl rfl,⟨SlA.lit (k _ _<|z _ _<|C _ _ c5) rfl rfl,SlA.lit (k _ _<|z _ _ c6) rfl rfl,SlA.lit (k _ _ c7) rfl rfl,trivial⟩⟩;refine lU (za3 I<|build88 _ _ _ _ _ _ _ _ _) (bW (aL zeroValue88) fun b5=>?_);refine oZ (sK 0 sizeOf88 I I I I I sB)<|tZ ?_;have e2:=o6 b4 (O.mono<|a.trans<|t.trans<|G.trans<|H.trans<|C.trans<|z.trans k) (P.mono<|H.trans<|C.trans<|z.trans k) Q;have e4:=o6 a4 (O.mono<|a.trans<|t.trans<|G.trans<|H.trans<|C.trans<|z.trans k) (P.mono<|H.trans<|C.trans<|z.trans k) Q;refine SC.to (fun w hw=>hw) (g':=g9) (s':=pt b5 (.cells #[.slice (some ⟨a0,0,none⟩) 1 1,.slice (some ⟨a1,0,none⟩) 2 2,.slice (some ⟨a2,0,none⟩) 3 3] 88 (0,0))::pt b3 (.cells #[.slice none 0 0] 29 (0,0))::pt b2 (.cells #[.slice none 0 0] 29 (0,0))::pt b1 (.cells #[vi kd,.slice p n c,vi y] 24 (0,0))::s) ?_;refine dW [12] [(0,2),(1,2),(2,1),(4,2),(5,1),(6,2),(3,0),(7,0),(8,2),(9,1),(10,0),(11,0),(12,0)] ze5 kR<|yM I<|pU I (iB underlying88 sizeOf22 I I oM oM)<|pK I (qL (v:=FsQ (bU y 3) (.slice (some ⟨a0,0,none⟩) 1 1) (.slice (some ⟨a1,0,none⟩) 2 2)<|.slice (some ⟨a2,0,none⟩) 3 3) isAgg22 I<|cO 0 I<|xR b4 _ _ _)<|pU I (fA mL I zT3 I)<|pK I (qL (v:=vi y) iT3 I<|cO 3 I I)<|pU I (SU.quo I I dC)<|SP.o I (SO.call call33 I<|aR E g9 _ _ _ e2 (by have:=(ji<|bU y 3).1; omega) (fun x S=>by have:=(ji<|bU y 3).2 x S; omega)) dC (.inr iR) ?_;rintro _ ga _ ⟨rfl,J,ua,rfl,M⟩;obtain ⟨qa,da,rfl⟩:=M.form;refine SP.o I (SO.call lQ I<|bB E ga _ _ 3 dC) dC (.inr iR) ?_;rintro _ _ _ ⟨rfl,rfl,rfl⟩;refine pU I (iB underlying88 sizeOf22 I I oM oM)<|pK I (qL (v:=FsQ (bU (IntKind.i64.wrap<|y.tdiv 3) 3) (.slice (some ⟨a0,0,none⟩) 1 1) (.slice (some ⟨a1,0,none⟩) 2 2)<|.slice (some ⟨a2,0,none⟩) 3 3) isAgg22 I<|cO 0 I<|xR a4 _ _ _)<|SP.o I (SO.call call33 I<|aR E ga _ _ _ (e4.mono J) (by have:=(ji<|bU (IntKind.i64.wrap<|y.tdiv 3) 3).1; omega) (fun x S=>by have:=(ji<|bU (IntKind.i64.wrap<|y.tdiv 3) 3).2 x S; omega)) dC (.inr (by rintro _ gb _ ⟨rfl,A,ub,rfl,T⟩; exact⟨by exact Le.trans (by assumption) (by assumption),(by exact .refl _)⟩)) ?_;rintro _ gb _ ⟨rfl,A,ub,rfl,T⟩;obtain ⟨qb,db,rfl⟩:=T.form;have e9:=J.trans A;refine SP.o rfl (SO.call call36 rfl<|fo E gb _ _ _ _ _ (M.mono A) T (ey _).1 (ey _).1) dC (.inr (by rintro _ gc _ ⟨rfl,L,uc,rfl,N⟩; exact⟨by exact Le.trans (by assumption) (by assumption),(by exact .refl _)⟩)) ?_;rintro _ gc _ ⟨rfl,L,uc,rfl,N⟩;obtain ⟨qc,dc,rfl⟩:=N.form;refine SP.on I (sK 1 ae I I I I I sB) (.inl dC) ?_;rintro _ _ _ ⟨rfl,rfl⟩;refine pN<|bN<|dR (s':=pt b3 (.cells #[(Value.slice qc _ dc)] 29 (0,0))::pt b2 (.cells #[.slice none 0 0] 29 (0,0))::pt b1 (.cells #[vi kd,.slice p n c,vi y] 24 (0,0))::s) (.cons _<|.refl _) ?_;exact za9 (gc,_) sB I I ⟨(f.trans<|b.trans<|a.trans<|t.trans<|G.trans<|H.trans<|C.trans<|z.trans k).trans<|J.trans<|A.trans L,N⟩
  ·refine rZ<|lU (fA mL I zT3 I)<|SL.K (qL (v:=vi kd) iT3 I<|cO 2 I I)<|lW (SO.call lQ I<|bB E g _ _ 8 dC) ?_;rintro _ _ _ ⟨rfl,rfl,rfl⟩;rw[hm];refine tZ<|bK<|sQ<|rZ<|yE I<|aT I<|za1 I<|rZ<|yE I<|aT I<|za1 I<|rG<|yE I<|aT I<|za1 I<|rZ<|yE I<|aT I<|za1 I<|rZ<|yE I<|aT I<|za1 I<|rZ<|yE I<|aT I<|za2 I<|rG<|lU (fA mL I zT3 I)<|SL.K (qL (v:=vi y) iT3 I<|cO 2 I I)<|lW (SO.call lQ I<|bB E g _ _ 5 dC) ?_;rintro _ _ _ ⟨rfl,rfl,rfl⟩;refine lU (SU.eq (v':=vi (((2+bU y 5).toNat:Nat):Int)) (aD I I oM)<|ze4 vi oM)<|lW (SO.call call37 I<|vA E g _ (2+bU y 5).toNat oM oM) ?_;rintro _ g3 _ ⟨rfl,a,u,rfl,F⟩;obtain ⟨q,d,rfl⟩:=F.form;exact oZ (sK 0 ae I I I I I sB)<|SL.nil<|bN<|za9 (g3,_) sB I I ⟨a,F⟩
  ·refine rZ<|lU (fA mL I zT3 I)<|SL.K (qL (v:=vi kd) iT3 I<|cO 2 I I)<|lW (SO.call lQ I<|bB E g _ _ 8 dC) ?_;rintro _ _ _ ⟨rfl,rfl,rfl⟩;rw[hm];refine tZ<|bK<|sQ<|rZ<|yE I<|aT I<|za1 I<|rZ<|yE I<|aT I<|za1 I<|rG<|yE I<|aT I<|za1 I<|rZ<|yE I<|aT I<|za1 I<|rZ<|yE I<|aT I<|za1 I<|rZ<|yE I<|aT I<|za1 I<|rZ<|yE I<|aT I<|za2 I<|rZ<|lW (bS sty52 I I I (ab sB) dC) ?_;rintro _ _ _ ⟨f1,rfl,rfl,rfl⟩;refine zb5 fun g1 f d0=>?_;refine lW (bS sty22 I I I (ab ⟨I,trivial⟩) dC) ?_;rintro _ _ _ ⟨f2,rfl,rfl,rfl⟩;refine zb5 fun g2 b d1=>?_;have a3:cU g2 (.slice (some ⟨f2,0,none⟩) 1 1) [[0,1]]:=⟨[jD<|.slice (some ⟨f1,0,none⟩) 2 2],SlA.lit d1 rfl rfl,⟨SlA.lit (b _ _ d0) rfl rfl,trivial⟩⟩;refine lW (SO.call call33 I<|aR E g2 _ _ _ a3 dC dC) ?_;rintro _ ga _ ⟨rfl,J,ua,rfl,M⟩;obtain ⟨qa,da,rfl⟩:=M.form;refine bW (aL zl9) fun b6=>oZ (sK 0 ae I I I I I sB)<|tZ ?_;refine SC.to (fun w hw=>hw) (g':=ga) (s':=pt b6 (.cells #[.slice qa (dy [[0,1]]).length da] 29 (0,0))::pt b3 (.cells #[.slice none 0 0] 29 (0,0))::pt b2 (.cells #[.slice none 0 0] 29 (0,0))::pt b1 (.cells #[vi kd,.slice p n c,vi y] 24 (0,0))::s) ?_;refine dW [5] [(0,1),(1,1),(3,1),(2,0),(4,0),(5,0)] ze5 kR<|pK I (qV 0 aj ae I I I)<|pK I (qV 0 aj ae I I I)<|pK I (qV 0 aj ae I I I)<|SP.o I (SO.call call36 I<|fo E ga _ _ _ _ _ M M (ey _).1 (ey _).1) dC (.inr iR) ?_;rintro _ gb _ ⟨rfl,A,ub,rfl,T⟩;obtain ⟨qb,db,rfl⟩:=T.form;refine SP.o rfl (SO.call call36 rfl<|fo E gb _ _ _ _ _ T (M.mono A) (fk _ _).1 (ey _).1) dC (.inr (by rintro _ gc _ ⟨rfl,L,uc,rfl,N⟩; exact⟨by exact Le.trans (by assumption) (by assumption),(by exact .refl _)⟩)) ?_;rintro _ gc _ ⟨rfl,L,uc,rfl,N⟩;obtain ⟨qc,dc,rfl⟩:=N.form;refine SP.on I (sK 1 ae I I I I I sB) (.inl dC) ?_;rintro _ _ _ ⟨rfl,rfl⟩;refine pN<|bN<|dR (s':=pt b3 (.cells #[(Value.slice qc _ dc)] 29 (0,0))::pt b2 (.cells #[.slice none 0 0] 29 (0,0))::pt b1 (.cells #[vi kd,.slice p n c,vi y] 24 (0,0))::s) (.cons _<|.refl _) ?_;exact za9 (gc,_) sB I I ⟨(f.trans b).trans<|J.trans<|A.trans L,N⟩
  ·refine rZ<|lU (fA mL I zT3 I)<|SL.K (qL (v:=vi kd) iT3 I<|cO 2 I I)<|lW (SO.call lQ I<|bB E g _ _ 8 dC) ?_;rintro _ _ _ ⟨rfl,rfl,rfl⟩;rw[hm];refine tZ<|bK<|sQ<|rZ<|yE I<|aT I<|za1 I<|rZ<|yE I<|aT I<|za1 I<|rG<|yE I<|aT I<|za1 I<|rZ<|yE I<|aT I<|za1 I<|rZ<|yE I<|aT I<|za1 I<|rZ<|yE I<|aT I<|za1 I<|rZ<|yE I<|aT I<|za1 I<|rZ<|yE I<|aT I<|za2 I<|dW [13] [(0,2),(1,1),(3,2),(4,1),(6,2),(7,1),(2,0),(5,0),(8,0),(9,2),(10,2),(11,0),(12,0),(13,0)] ze5 kR<|pU I (fA mL I sizeOf22 I)<|pK I (qL (v:=.slice p n c) isAgg22 I<|cO 2 I I)<|pU I (fA mL I zT3 I)<|pK I (qL (v:=vi y) iT3 I<|cO 2 I I)<|pU I (fA mL I zT3 I)<|pK I (qL (v:=vi y) iT3 I<|cO 2 I I)<|SP.o I (SO.call call34 I<|l6 E g _ _ ls hv) dC (.inr iR) ?_;rintro v72 g1 _ ⟨R,rfl,f,j⟩;refine SP.o rfl (SO.call call35 rfl<|ns E g1 _ y) dC (.inr (by rintro v75 g2 _ ⟨rfl,b,d4⟩; exact⟨by exact Le.trans (by assumption) (by assumption),(by exact .cons _<|.refl _)⟩)) ?_;rintro v75 g2 _ ⟨rfl,b,d4⟩;obtain ⟨h2,V,W⟩:=d4;have f6:=W.length;have f7:=j.length;obtain ⟨q2,d2,rfl⟩:=za4 V;have f3:=(SlA.cap V).2;have a5:=SlA.cut V (l:=0) (m:=(2+bU y 2).toNat) (zf8 _) oM;rw[List.drop_zero,Nat.sub_zero] at a5;refine SP.o rfl (SO.call lQ rfl<|bB E g2 _ _ 2 dC) dC (.inr (by rintro _ _ _ ⟨rfl,rfl,rfl⟩; exact⟨by exact Le.trans (by assumption) (by assumption),(by exact .cons _<|.refl _)⟩)) ?_;rintro _ _ _ ⟨rfl,rfl,rfl⟩;refine pU I (aD I I oM)<|pU I (SU.sliceH eL fY I I oM oM)<|SP.o I (aQ (e:=dL) 0 sty22 I I I a5 (by rw[ze6]; omega) (by rw[ze6]; omega)) dC (.inr (by rintro v81 _ _ ⟨rfl,rfl⟩; exact⟨by exact Le.trans (by assumption) (by assumption),(by exact .cons _<|.refl _)⟩)) ?_;rintro v81 _ _ ⟨rfl,rfl⟩;refine SP.freezeRow fun g3 a f4=>?_;have D:cU g3 v81 (ot ls++(nk y).take (2+bU y 2).toNat):=⟨_,f4,(j.mono fun _ _=>dU.mono<|b.trans a).append ((ax.take _ W).mono fun _ _=>dU.mono a)⟩;have f5:=f.trans<|b.trans a;refine SP.o I (SO.call call33 I<|aR E g3 _ _ _ D (by rw[ze7,ze6]; omega) (fun x S=>by rcases zf5.1 S with h | h; (have:=Z.2 x h; omega); (have:=b7.2.2 x<|List.mem_of_mem_take h; omega))) dC (.inr (by rintro _ g4 _ ⟨rfl,t,u,rfl,F⟩; exact⟨by exact Le.trans (by assumption) (by assumption),(by exact .refl _)⟩)) ?_;rintro _ g4 _ ⟨rfl,t,u,rfl,F⟩;obtain ⟨q,d,rfl⟩:=F.form;refine SP.on I (sK 0 ae I I I I I sB) (.inl dC) ?_;rintro _ _ _ ⟨rfl,rfl⟩;refine pN<|bN ?_;exact za9 (g4,_) sB I I ⟨f.trans<|b.trans<|a.trans t,F⟩
 rintro ⟨g1,bv⟩ ⟨f,a9⟩;dsimp only at f a9 ⊢;generalize hB:oy (bU kd 8) ls y=B at *;obtain ⟨qb,db,rfl⟩:=a9.form;refine sQ<|rZ<|lU (fA dn I cq I)<|SL.K (qL (v:=.slice qb B.length db) eh I<|cO 0 I I)<|lU (eN aB I)<|lU (gR I I)<|tZ<|iP I (fun X=>?_) (fun X=>?_)
 ·refine rG<|lW (SO.call call38 I<|zk E g1 _) ?_;rintro _ g2 _ ⟨rfl,b,ut,rfl,d5⟩;obtain ⟨qt,dt,rfl⟩:=d5.form;refine oZ (sK 0 ae I I I I I sB)<|tZ<|sQ ?_;refine SC.to (fun w hw=>hw) (g':=g2) (s':=pt b3 (.cells #[(Value.slice qt qq.length dt)] 29 (0,0))::pt b2 (.cells #[.slice none 0 0] 29 (0,0))::pt b1 (.cells #[vi kd,.slice p n c,vi y] 24 (0,0))::s) ?_;refine rG<|SL.K (qV 0 aj ae I I I)<|lU (fA mL I zT3 I)<|SL.K (qL (v:=vi y) iT3 I<|cO 2 I I)<|lW (SO.call call39 I<|kx E g2 _ _ qq y d5 (fk _ _).1) ?_;rintro _ g3 _ ⟨rfl,a,x3,rfl,Y⟩;obtain ⟨q3,d3,rfl⟩:=Y.form;exact oZ (sK 1 ae I I I I I sB)<|tZ<|rE<|ST.retCD 1 s (.inl I) results11 I aj ae I I uR ⟨I,f.trans<|b.trans a,_,I,by unfold qy; rw[zg3 X]; exact Y⟩
 ·refine kP<|tN<|sQ ?_;refine SC.to (fun w hw=>hw) (g':=g1) (s':=pt b3 (.cells #[(Value.slice qb B.length db)] 29 (0,0))::pt b2 (.cells #[.slice none 0 0] 29 (0,0))::pt b1 (.cells #[vi kd,.slice p n c,vi y] 24 (0,0))::s) ?_;refine rG<|SL.K (qV 0 aj ae I I I)<|lU (fA mL I zT3 I)<|SL.K (qL (v:=vi y) iT3 I<|cO 2 I I)<|lW (SO.call call39 I<|kx E g1 _ _ B y a9 b8) ?_;rintro _ g3 _ ⟨rfl,a,x3,rfl,Y⟩;obtain ⟨q3,d3,rfl⟩:=Y.form;exact oZ (sK 1 ae I I I I I sB)<|tZ<|rE<|ST.retCD 1 s (.inl I) results11 I aj ae I I uR ⟨I,f.trans a,_,I,by unfold qy; rw[zg2 X]; exact Y⟩
theorem wV (a b:Int)(c:0<b)(d:b≤1099511627776):0≤bU a b∧bU a b<b:=by
 have e:a.tmod b<b:=Int.tmod_lt_of_pos a c;have f : -b<a.tmod b:=by
  have:=Int.lt_tmod_of_pos a c;omega
 unfold bU;rw[zl2 _ oM,Int.tmod_eq_emod_of_nonneg oM];exact⟨Int.emod_nonneg _ oM,Int.emod_lt_of_pos _ c⟩
theorem sI (a:Int)(n:Nat)(b:0<n)(c:n≤1099511627776):bU a n=(((bU a n).toNat:Nat):Int)∧(bU a n).toNat<n:=by
 have:=wV a n oM oM;omega
open Go.ChangeShapes Go.WideShapes Go.ChangeAt Go.RowKit
set_option maxRecDepth 100000
def tj (W:World):PH:=fun b=>W.heap[b]?
def E0 (W:World):World:={ W with drawn:=0 }
theorem D2 (W:World):At (E0 W) (tj W) [] W:=⟨rfl,⟨rfl,zf8 _⟩,rfl,fun _ _ h=>h,by simp,by simp,List.Pairwise.nil⟩
theorem D3 {W W':World}{g:PH}{s:Own}(h:At (E0 W) g s W')(hl:Le (tj W) g):Below W.heap.size W W':=by
 have hb:∀ k,k<W.heap.size→W'.heap[k]?=W.heap[k]?:=fun k b=>by
  have a:W.heap[k]?=some W.heap[k]:=Array.getElem?_eq_getElem b;rw[a];exact h.known k _<|hl k _ a
 refine⟨h.os,h.tape.1,h.output,?_,hb⟩;refine zh2 fun c=>?_;have a:=hb W'.heap.size oM;rw[Array.getElem?_eq_none<|Nat.le_refl _,Array.getElem?_eq_getElem oM] at a;cases a
theorem Eg {W:World}{a:Addr}{len cap:Nat}{xs:List Value}(hl:len≤cap)(t:xs.length=len)(g:∀ i x,xs[i]?=some x→W.cell? (a.add i)=some x):Sl (tj W) 1 (.slice (some a) len cap) len xs:=by
 refine⟨some a,cap,I,⟨oM,hl⟩,fun h=>?_⟩;obtain ⟨b,o,sp⟩:=a;have m:0<xs.length:=List.length_pos_iff.2 h;have k:=g 0 xs[0] (List.getElem?_eq_getElem m);have l:sp=none:=by simpa [Addr.add] using World.cell?_spot k
 subst l;have d:∀ i,(⟨b,o,none⟩:Addr).add i=⟨b,o+i,none⟩:=fun i=>by unfold Addr.add; split <;> simp_all
 simp only[d] at g;have c:∀ i x,xs[i]?=some x→∃ cs T fr,W.heap[b]?=some (.cells cs T fr)∧cs[o+i]?=some x:=fun i x n=>by
  have f:=g i x n;unfold World.cell? at f;split at f
  ·rename_i cs T fr p;exact⟨cs,T,fr,p,by simpa using f⟩
  ·cases f
 obtain ⟨cs,T,fr,hb,_⟩:=c 0 xs[0] (List.getElem?_eq_getElem m);refine⟨b,o,cs,T,fr,I,hb,fun j x q=>?_⟩;obtain ⟨cs',T',r,e,s⟩:=c j x q;rw[hb] at e;cases e;exact s
section
variable {H:Type}{enc:TypeId×Value→H}{W:World}{base:Nat}{spare:Nat→Bool}{hd:Bool}
theorem Tryz.cells3:Tryz.prog.cellsOf 3=1:=by kernel_rfl
theorem Tryz.cells52:Tryz.prog.cellsOf 52=1:=by kernel_rfl
theorem Tryz.cells24:Tryz.prog.cellsOf 24=3:=by kernel_rfl
theorem Fl {fuel:Nat}{v:Value}{x:DataW H×List MemPlace}(h:DataW.trod enc Tryz.prog W base spare hd fuel 52 [v]=some x):∃ (l:List Int) (r:Sv),v = .slice r.p r.n r.c∧dp (tj W) v l:=by
 rcases open_ints az uT3 cells3 h with ⟨b,_⟩ | ⟨a,len,cap,zs,b,_,hl,_,hz,_,e,_⟩
 ·simp at b;subst b;exact⟨[],⟨none,0,0⟩,I,zc1 _ _⟩
 ·simp at b;subst b;have k:len≤zs.length:=by rw[hz]; split <;> omega
  have d:(zs.take len).length=len:=by rw[ze6]; omega
  have m:(zs.take len).flatMap encInt.enc=(zs.take len).map vi:=by
   rw[List.flatMap_def];induction zs.take len with
   | nil=>rfl
   | cons y t ih=>simp[encInt] at ih ⊢; exact ih
  refine⟨zs.take len,⟨some a,len,cap⟩,I,?_⟩;show Sl (tj W) 1 _ (zs.take len).length ((zs.take len).flatMap encInt.enc);rw[m,d];refine Eg hl (by rw[ze8,d]) fun i y g=>?_;rw[zi2] at g;cases f:(zs.take len)[i]? with
  | none=>rw[f] at g; cases g
  | some z =>
   rw[f] at g;cases g;have o:i<(zs.take len).length:=(zf7.1 f).1;have j:i<zs.length:=oM;rw[e i j];have:zs.getD i 0=z:=by
    rw[zi3] at f;split at f
    ·rw[zh3,f]; rfl
    ·cases f
   rw[this]
theorem yW {α β γ:Type}{R:α→β→Prop}{f:γ→α}{k:γ→β}:∀ {l:List γ},(∀ i∈l,R (f i)<|k i)→ax R (l.map f) (l.map k)
 | [],_=>trivial
 | x::l,h=>⟨h x (by simp),yW fun i a=>h i (by simp[a])⟩
instance:Inhabited (List Int×Sv):=⟨([],⟨none,0,0⟩)⟩
theorem DI {fuel:Nat}{v:Value}{x:DataW H×List MemPlace}(h:DataW.trod enc Tryz.prog W base spare hd fuel 22 [v]=some x):∃ ls,cU (tj W) v ls:=by
 rcases Go.Deep.open_slice1 eL cells52 h with ⟨d,_⟩ | ⟨a,len,cap,m,n,V,D,Pl,d,_,hl,_,g,_,o⟩
 ·simp at d;subst d;exact⟨[],[],zc1 _ _,trivial⟩
 ·simp at d;subst d;have u:len≤m:=by rw[g]; split <;> omega
  obtain ⟨f,q⟩:=Go.Deep.choose_lt (α:=List Int×Sv) (n:=len) (p:=fun i y=>V i = .slice y.2.p y.2.n y.2.c∧dp (tj W) (V i) y.1) fun i b=>by
   obtain ⟨l,r,j,e⟩:=Fl (o i oM).2;exact⟨(l,r),j,e⟩
  refine⟨(List.range len).map fun i=>(f i).1,(List.range len).map fun i=>(f i).2,?_,yW fun i b=>?_⟩
  ·show Sl (tj W) 1 _ ((List.range len).map fun i=>(f i).2).length (((List.range len).map fun i=>(f i).2).flatMap dL.enc);have w:((List.range len).map fun i=>(f i).2).flatMap dL.enc=(List.range len).map fun i=>V i:=by
    have:∀ l:List Nat,(∀ i∈l,i<len)→(l.map fun i=>(f i).2).flatMap dL.enc=l.map fun i=>V i:=by
     intro l;induction l with
     | nil=>intro _; rfl
     | cons y t ih =>
      intro s;rw[zg6,zh7,ih fun i b=>s i (by simp[b]),zg6,(q y<|s y<|by simp).1];rfl
    exact this _ fun i b=>List.mem_range.1 b
   rw[w,ze8,zi6];refine Eg hl (by simp) fun i y b=>?_;rw[zi2] at b;cases k:(List.range len)[i]? with
   | none=>rw[k] at b; cases b
   | some z =>
    rw[k] at b;cases b;obtain ⟨j,e⟩:=zf7.1 k;simp at j e;subst e;exact (o i oM).1
  ·have:=q i<|List.mem_range.1 b;unfold dU;rw[← this.1];exact this.2
theorem Dh {r:Reach}{b0:Nat}{v:Value}{d:DataW H}{p:List MemPlace}(e:Value.okWide Tryz.prog W r b0 24 v)(h:DataW.Trod enc Tryz.prog W base spare hd 24 v d p):∃ (k y:Int) (u:Value) (ls:List (List Int)),v = .agg #[vi k,u,vi y]∧cU (tj W) u ls:=by
 obtain ⟨c0,c1,c2,y0,y1,y2,n,rfl,_,_,f,g,i⟩:=Go.Joins.open_agg3 mL kR cells24 e h;obtain ⟨a,e0,_,_⟩:=DataW.trod_int uT3 f;obtain ⟨c,e2,_,_⟩:=DataW.trod_int uT3 i;obtain ⟨ls,b⟩:=DI g;simp at e0 e2;subst e0;subst e2;exact⟨a,c,c1,ls,I,b⟩
end
end Go.Proofs.YtbbppeihhkhkcaaGreatDoor
namespace Go.Sy
open Go
section
variable {P:Program}{N:Nat}{E:World}{f:Fr}{g:PH}{s s1:Own}{dst:Option Tmp}{ty:TypeId}{pos:String}{af:Array Edge}{gd:Option (Nat×Bool)}{α:Type}{k:Nat}{e:Enc α k}
end
end Go.Sy
namespace Go.Proofs.YtbbppeihhkhkcaaGreatDoor
open _root_.Go.Proofs.Tryz _root_.Go.Proofs.YtbbppeihhkhkcaaGreatDoor.Tryz
open Go Go.Sy Go.Pl Go.Proofs
def mN (A:List Cl)(k:Int):Option (List Int):=(ah A k).map fun c=>c.sides.map ak.cell
theorem qU (A:List Cl):∀ (n:Nat) (id:Int) (vis:List Int),ee A n id vis=dfs (mN A) n id vis
 | 0,_,_=>rfl
 | n+1,id,vis=>by
  rw[pz,jX];unfold mN;cases ah A id with
  | none=>rfl
  | some c =>
   simp only[Option.map_some,List.foldl_map];congr 2;funext v x;exact qU A n x.cell v
theorem CK {A:List Cl}{k:Int}{l:List Int}(h:mN A k=some l):∃ c,ah A k=some c∧c.sides.map ak.cell=l:=by
 unfold mN at h;cases a:ah A k with
 | none=>rw[a] at h; cases h
 | some c=>rw[a] at h; injection h with h; exact⟨c,I,h⟩
theorem xl (A:List Cl):∀ v k l,mN A k=some l→l≠[]→v.contains k=false→qe A (v++[k])<qe A v:=by
 intro v k l hl _ a;obtain ⟨c,b,_⟩:=CK hl;obtain ⟨hm,rfl⟩:=aG b;exact Bl hm a
def v2 (A:List Cl)(v:List Int):Prop:=∀ x∈v,∀ l,mN A x=some l→∀ y∈l,mN A y≠none→y∈v
theorem uH (A:List Cl):∀ (ids v:List Int),v2 A v→v2 A (ids.foldl (fun v id=>ee A (A.length+1) id v) v)∧(∀ x∈v,x∈ids.foldl (fun v id=>ee A (A.length+1) id v) v) ∧
  (∀ id∈ids,mN A id≠none→id∈ids.foldl (fun v id=>ee A (A.length+1) id v) v)∧∀ x∈ids.foldl (fun v id=>ee A (A.length+1) id v) v,x∈v∨∃ id∈ids,Rch (mN A) id x
 | [],v,h=>⟨h,fun _ h=>h,by simp,fun _ h=>.inl h⟩
 | id::ids,v,h=>by
  have c:=ku (mN A) (qe A) (fun v v' h=>oS h) (xl A) (A.length+1) id v<|zl1<|Bm _ _;have d:=rY (mN A) (A.length+1) id v;have hd:=oO (mN A) (A.length+1) id v;rw[← qU] at c d hd;have e:v2 A (ee A (A.length+1) id v):=by
   intro x a l hl y i hn;by_cases j:x∈v
   ·exact d y<|h x j l hl y i hn
   ·exact c.2 x a j l hl y i hn
  obtain ⟨m,k,n,o⟩:=uH A ids _ e;simp only[zj1];refine⟨m,fun x a=>k x<|d x a,fun q b hn=>?_,fun x a=>?_⟩
  ·rcases zf3.1 b with rfl | b
   ·exact k _<|c.1 hn
   ·exact n q b hn
  ·rcases o x a with f | ⟨q,b,f⟩
   ·rcases hd x f with g | g
    ·exact .inl g
    ·exact .inr ⟨id,by simp,g⟩
   ·exact .inr ⟨q,by simp[b],f⟩
theorem B6 (A:List Cl)(ids:List Int)(x:Int):x∈qm A ids↔∃ id∈ids,Rch (mN A) id x:=by
 obtain ⟨e,_,f,g⟩:=uH A ids [] (fun x i=>absurd i<|by simp);refine⟨fun h=>(g x h).resolve_left (by simp),fun ⟨id,d,hr⟩=>?_⟩;have key:∀ a b,Rch (mN A) a b→a∈qm A ids→b∈qm A ids:=by
  intro a b hr;induction hr with
  | refl a _=>exact fun h=>h
  | step a b c l hl hb r ih=>exact fun h=>ih<|e a h l hl b hb r.node
 exact key id x hr<|f id d hr.node
def FL (A:List Cl)(m:List Int):Nat:=((A.filter fun c=>!m.contains c.id).map fun c=>c.sides.length).sum
structure Wide (A:List Cl)(ids left m:List Int):Prop where
 sound:∀ x∈m,∃ id∈ids,Rch (mN A) id x
 todo:∀ x∈left,mN A x≠none→∃ id∈ids,Rch (mN A) id x
 start:∀ x∈ids,mN A x≠none→x∈left∨x∈m
 sides:∀ x∈m,∀ l,mN A x=some l→∀ y∈l,mN A y≠none→y∈left∨y∈m
 few:left.length+FL A m≤ids.length+FL A []
def wY (A B:List Cl)(id:Int):Bool:=match ah B id with
 | some y=>decide ((ah A id).getD aH=y)
 | none=>false
def vd (A B:List Cl)(c:Cl):Bool:=(qm A [c.id]).all (wY A B)
def mB (A B:List Cl):List Cl:=A.filter (vd A B)
theorem Rch.last {adj:Int→Option (List Int)}{a b:Int}(h:Rch adj a b):adj b≠none:=by
 induction h with
 | refl _ h=>exact h
 | step _ _ _ _ _ _ _ ih=>exact ih
theorem D0 {A:List Cl}{ids:List Int}{x:Int}(h:x∈qm A ids):∃ c,ah A x=some c:=by
 obtain ⟨id,_,hr⟩:=(B6 A ids x).1 h;have:=hr.last;unfold mN at this;cases a:ah A x with
 | none=>rw[a] at this; simp at this
 | some c=>exact⟨c,rfl⟩
end Go.Proofs.YtbbppeihhkhkcaaGreatDoor
