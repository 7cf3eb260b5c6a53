/- 8 -/
import Derived.Test.YtpmoadbbfobbcaaGreatDoorMe07
import Derived.Test.YtpmoadbbfobbcaaGreatDoorRows
import Derived.WalkKit
import Derived.ProofKit
import Derived.OpenShut
import Derived.ShutString
import Derived.ChangeOld
import Derived.Deep.Slices
import Derived.Lib.SmallJoins
import Derived.Laws.IdiomArrays
set_option linter.unusedSimpArgs false
set_option linter.unusedVariables false
set_option linter.defProp false
namespace Go.Proofs.YtpmoadbbfobbcaaGreatDoor
open _root_.Go.Proofs.Tryz _root_.Go.Proofs.YtpmoadbbfobbcaaGreatDoor.Tryz
open Go Go.Sy Go.Pl Go.Proofs
set_option maxRecDepth 100000
set_option maxHeartbeats 2000000
theorem ew {l:List Cl}(h:(aH l).2=0):l.length≤4000∧(aa l).Pairwise (fun a b=>a.id<b.id)∧am l=aa l∧∀ x∈aa l,dj (am l) x=0:=by
 unfold aH at h;split at h
 ·exact absurd h dC
 ·rename_i hl;cases hc:iZ (am l) (aa l) 0 with
  | some p=>rw[hc] at h;exact absurd h<|xC hc
  | none =>
   have c:=(l5 hc).2;exact⟨oM,c,bH c,mR hc⟩
theorem zY:∀ {l:List Int} {k:Nat} (h:k<l.length),l.Pairwise (· < ·)→lbI l l[k]=k:=by
 intro l;induction l with
 | nil=>intro k h;simp at h
 | cons a r ih =>
  intro k h f;obtain ⟨d,g⟩:=zk4.1 f;cases k with
  | zero =>
   unfold lbI;rw[List.length_eq_zero_iff,List.filter_eq_nil_iff];intro y b
   rcases zf2.1 b with rfl | b
   ·simp
   ·have:=d y b;simp;omega
  | succ k =>
   have e:k<r.length:=by simpa using h
   have c:=d r[k]<|gM e;have:=ih e g;unfold lbI at this ⊢;simp[c,this]
theorem Ap {tl:List Cl}(d:(tl.map Cl.id).Pairwise (· ≤ ·)){id:Int}(h:(ah tl id).isSome=true):atC tl id=lbI (tl.map Cl.id) id:=by
 obtain ⟨c,hc⟩:=zh9.1 h;have hm:(tl.map Cl.id).contains id=true:=by
  obtain ⟨a,b⟩:=aC hc;simp;exact⟨c,a,b⟩
 unfold atC;rw[zg2 hm]
def de (a b:List Cl):Bool:=!decide ((aH a).2=0) || !decide ((aH b).2=0)||decide (((am a).length:Int) * (am b).length>4000)
def dp (a b:List Cl):List Cl:=if de a b then [] else if (aH<|ef a b).2=0 then aa (ef a b) else []
theorem nJ {α β:Type}{l:List α}{i:Nat}(h:i<l.length)(f:α→List β):(l.take<|i+1).flatMap f=(l.take i).flatMap f++f l[i]:=by
 rw[tS h,H4];simp
theorem fG (E:World)(g:PH)(s:Own)(v u:Value)(a b:List Cl)(hv:ai g v a)(hu:ai g u b)(ha:aM a)(hb:aM b) :
  Ctr Tryz.prog E 66 #[.agg #[v],.agg #[u]] g s fun r g' s'=>s=s'∧Le g g'∧∃ x,r = .agg #[x]∧ai g' x (dp a b):=by
 obtain ⟨u1,u2,u3⟩:=hv.form;obtain ⟨u4,u5,u6⟩:=hu.form;have a0:¬ (aH a).2=0→de a b=true:=fun h=>by simp[de,h]
 have a1:(aH a).2=0→¬ (aH b).2=0→de a b=true:=fun h Z=>by simp[de,Z]
 have a2:(aH a).2=0→(aH b).2=0→de a b=decide (((am a).length:Int) * (am b).length>4000):=fun h Z=>by simp[de,h,Z]
 have n5:=jC a;have n6:=jC b;have i0:(aH a).2=0→(aH b).2=0→((am a).length:Int) * (am b).length≤16000000∧0≤((am a).length:Int) * (am b).length:=fun h Z=>yx (zk8 n5 (ew h).1)<|zk8 n6 (ew Z).1;refine zb2 (args:=[.agg #[v],.agg #[u]]) func66 I ntmps66 (bE I)<|rZ (bW (bO I) fun S=>?_);refine bW (bO I) fun T=>bW (aL zl9) fun U=>tZ<|rZ<|lK (qV 2 aj ae I I I)<|lW (bt call39 I<|cY E g _ _ a hv ha) ?_;rintro _ g1 _ ⟨rfl,rfl,D⟩;refine aT I<|rZ<|lK (qV 1 aj ae I I I)<|lW (bt call39 I<|cY E g1 _ _ b (hu.mono D) hb) ?_;rintro _ g2 _ ⟨rfl,rfl,H⟩;refine aT I<|rZ<|lK (qV 2 aj ae I I I)<|lW (bt call41 I<|bA E g2 _ _ a (hv.mono<|D.trans H) ha) ?_;rintro v24 g3 _ ⟨rfl,V,hA⟩;refine aT I<|rZ<|lK (qV 1 aj ae I I I)<|lW (bt call41 I<|bA E g3 _ _ b (hu.mono<|D.trans<|H.trans V) hb) ?_;rintro v26 g4 _ ⟨rfl,J,hB⟩;obtain ⟨O,L,b7⟩:=hA;have b8:=L.mono J;have P:=b7.mono fun _ _=>an.mono J;obtain ⟨n,b9,Q⟩:=hB;have eal:=P.length;have ebl:=Q.length;obtain ⟨pa,ca,rfl⟩:=b8.form;obtain ⟨pb,cb,rfl⟩:=b9.form;refine aT I<|sQ<|BY 40 ((de a b)) ?_ ?_
 ·refine rG<|lM I<|lU (IN I)<|lM I<|sP ?_ ?_
  ·intro a3;exact yA I<|yA I<|yP I<|lM I<|yA I<|yA I<|yA I<|yA I<|yA I<|yA I<|yP I<|cp<|zb1 (by (rw[a0 a3];rfl)) mI
  ·intro a3;refine yC I<|lY I I I (IN I)<|yF I<|lM I<|sP ?_ ?_
   ·intro c0;exact yA I<|yA I<|yA I<|yA I<|yA I<|yA I<|yP I<|cp<|zb1 (by (rw[a1 (zh1 a3) c0];rfl)) mI
   ·intro c0;refine yC I<|lY I I I (eN aB I)<|yC I<|lY I I I (eN aB I)<|lY I I I (Iz I I<|by have:=i0 (zh1 a3)<|zh1 c0;rw[eal,ebl] at this;omega) ?_;refine lY I I I (gR I I)<|yF I<|cp ?_;exact zb1 (by (rw[a2 (zh1 a3)<|zh1 c0,eal,ebl];rfl)) mI
 refine iQ I (fun p=>?_) (fun p=>?_)
 ·exact rZ<|lU (za3 I<|buildE29)<|oZ (sK 0 ae I I I I I sB)<|tZ<|rE<|tR<|kn 0 s (.inl I) results66 I aj ae I I uR ⟨I,D.trans<|H.trans<|V.trans J,_,I,by unfold dp;rw[zg2 p];exact⟨[],zc1 _ _,trivial⟩⟩
 ·have L:(aH a).2=0:=zh1 fun h=>by rw[a0 h] at p;cases p
  have c6:(aH b).2=0:=zh1 fun h=>by rw[a1 L h] at p;cases p
  have a4:((am a).length:Int) * (am b).length≤4000:=by rw[a2 L c6] at p;simp at p;omega
  obtain ⟨u7,a5,i1,e2⟩:=ew L;obtain ⟨u8,a9,i2,e4⟩:=ew c6;rw[← i1] at a5 e2;rw[← i2] at a9 e4;have c7:=eL a;have c9:=eL b;have n7:((am a).map Cl.id).Pairwise (· < ·):=zk5.2 a5;have n8:((am b).map Cl.id).Pairwise (· < ·):=zk5.2 a9;have e9:am a=aa a→am b=aa b→ef a b=(am a).flatMap fun x=>(am b).map (eu (am a) (am b) x):=fun h Z=>by unfold ef;rw[← h,← Z]
  have R:=e9 i1 i2;have o1:ai g4 (.slice pa O.length ca)<|am a:=⟨O,b8,P⟩;have o2:ai g4 (.slice pb n.length cb)<|am b:=⟨n,b9,Q⟩;refine kP (tN<|sW I<|lU (eN aB I)<|aT I<|rZ<|bW (aL zl9) fun B=>?_);refine tZ<|sQ<|rZ<|aT I<|bK<|zb6 61 3<|oP (ι:=PH×Value×List Rc×Nat) (fun i=>[(2,pp S 0),(3,pp T 0),(4,pp U 0),(7,.slice pa O.length ca),(8,.slice pb n.length cb),(9,vi n.length),(10,pp B 0),(11,vi i.2.2.2)]) (fun i=>i.1) (fun i=>rowA encCell 61 i.2.1 i.2.2.1::pt B (bY #[i.2.1] 29)::pt U (bY #[.slice none 0 0] 29)::pt T (bY #[u] 29)::pt S (bY #[v] 29)::s)
   (fun i=>Le g4 i.1∧i.2.2.2≤O.length∧ay (an i.1) (((am a).take i.2.2.2).flatMap fun x=>(am b).map<|eu (am a) (am b) x) i.2.2.1) (fun i=>O.length - i.2.2.2)
   (g4,.slice none 0 0,[],0) sB rfl rfl ⟨zb9 g4,zf7 _,trivial⟩ ?_
  rintro ⟨g5,ov,i3,i⟩ ⟨t,hi,W⟩;dsimp only at t hi W ⊢;refine sQ<|sW I<|lM I<|lU (eN aB I)<|yL I<|tZ<|iP I (fun p0=>?_) (fun p0=>?_)
  ·have c1:i<(am a).length:=oM;have j0:i<O.length:=oM;have M:=b8.based oM;have p1:=P.get (bd c1)<|bd j0;have d0:O[((i:Nat):Int).toNat]?=some O[i]:=bd j0;have p2:=gM c1;have j1:lbI ((am a).map Cl.id) (am a)[i].id=i:=by
    have:=zY (l:=(am a).map Cl.id) (k:=i) (by simpa using c1) n7;simpa using this
   have f7:=nJ c1 fun x=>(am b).map<|eu (am a) (am b) x;generalize u9:(am a)[i]=x at *;obtain ⟨xp,d1,p3,p4⟩:=cG p1;rw[p3] at d0;have c2:=d0;have f8:=e2 x p2;have p5:=z8 f8;have v0:=jr f8;have j2:=nt f8;refine kP<|tN<|sQ<|bK<|rZ<|aT I<|bK<|oP (ι:=PH×Value×List Rc×Nat) (fun k=>[(2,pp S 0),(3,pp T 0),(4,pp U 0),(7,.slice pa O.length ca),(8,.slice pb n.length cb),(9,vi n.length),(10,pp B 0),(11,vi i),(12,vi k.2.2.2)]) (fun k=>k.1) (fun k=>rowA encCell 61 k.2.1 k.2.2.1::pt B (bY #[k.2.1] 29)::pt U (bY #[.slice none 0 0] 29)::pt T (bY #[u] 29)::pt S (bY #[v] 29)::s)
    (fun k=>Le g5 k.1∧k.2.2.2≤n.length∧ay (an k.1) ((((am a).take i).flatMap fun x=>(am b).map<|eu (am a) (am b) x)++((am b).take k.2.2.2).map (eu (am a) (am b) x)) k.2.2.1) (fun k=>n.length - k.2.2.2)
    (g5,ov,i3,0) sB rfl rfl ⟨zb9 g5,zf7 _,by simpa using W⟩ ?_
   rintro ⟨g6,A,d,k⟩ ⟨f,hk,C⟩;dsimp only at f hk C ⊢;refine sQ<|sW I<|lM I<|yL I<|tZ<|iP I (fun l0=>?_) (fun l0=>?_)
   ·have c3:k<(am b).length:=oM;have l1:k<n.length:=oM;have Y:=b9.based oM;have p6:=Q.get (bd c3)<|bd l1;have d2:n[((k:Nat):Int).toNat]?=some n[k]:=bd l1;have p7:=gM c3;have l2:lbI ((am b).map Cl.id) (am b)[k].id=k:=by
     have:=zY (l:=(am b).map Cl.id) (k:=k) (by simpa using c3) n8;simpa using this
    have p9:((am b).take<|k+1).map (eu (am a) (am b) x)=((am b).take k).map (eu (am a) (am b) x)++[eu (am a) (am b) x (am b)[k]]:=by rw[tS c3,zg6];rfl
    generalize v1:(am b)[k]=y at *;obtain ⟨yp,d3,q0,q1⟩:=cG p6;rw[q0] at d2;have g9:=d2;have h0:=e4 y p7;have v2:=z8 h0;have q2:=jr h0;have l3:=nt h0;have h5:=C.length;have t4:(i:Int) * n.length≤4000:=by
     have h1:(i:Int) * n.length≤(O.length:Int) * n.length:=Int.mul_le_mul_of_nonneg_right oM oM;rw[eal,ebl] at a4;omega
    have q3:0≤(i:Int) * n.length:=Int.mul_nonneg oM oM;have t5:d.length≤4000:=by
     have h1:d.length=i * n.length+k:=by
      rw[← h5,ze6,ze7,ze5,jD,ze5,← ebl];rw[Nat.min_eq_left oM,Nat.min_eq_left oM]
     have Z:i * n.length+k≤O.length * n.length:=by
      have h3:(i+1) * n.length≤O.length * n.length:=Nat.mul_le_mul_right _ oM;rw[Nat.succ_mul] at h3;omega
     have h4:((O.length * n.length:Nat):Int)≤4000:=by rw[eal,ebl] at a4;rw[Iw];exact a4
     omega
    have q4:bc (am a) (am b) x.id y.id=(i:Int) * n.length+k+1:=by unfold bc;rw[j1,l2,ebl]
    have X:=b8.mono<|t.trans f;have b0:=b9.mono<|t.trans f;have d4:=p4.mono<|t.trans f;have d5:=q1.mono<|t.trans f;refine kP<|tN<|sQ<|bK<|sQ<|dW [] [(0,2),(1,2),(2,2),(3,2),(4,2),(5,2),(6,2),(7,2),(8,2),(9,2),(10,1),(11,2),(12,2),(13,2),(14,2),(15,1),(16,2),(17,2),(18,0),(19,0)] ze4 kR<|yM I<|yM I<|pU I (Iz I I oM)<|yM I<|pU I (aD I I oM)<|pU I (aD I I oM)<|yM I<|yM I<|pU I (iA aB ar I I M oM sL)<|pU I (fC ap I zT3 I M)<|gB I (aZ (e:=encCell) (o:=1) (u:=vi x.dim) iT3 I X.rd c2 I)<|yM I<|yM I<|pU I (iA aB ar I I Y oM sL)<|pU I (fC ap I zT3 I Y)<|gB I (aZ (e:=encCell) (o:=1) (u:=vi y.dim) iT3 I b0.rd g9 I)<|pU I (aD I I oM)<|pU I (za3 I<|buildC61 _ _)<|mf I (aL zl6) dC (.inr iR) ?_;rintro _ _ _ ⟨G,rfl,rfl,rfl⟩;refine H8 I (sK 0 ar I I I I I sB) (.inr iR) ?_;rintro _ _ _ ⟨rfl,rfl⟩;refine du<|tN<|sQ<|rZ<|aT I<|bK ?_;refine SC.to (fun w hw=>?_) (g':=g6) (s':=pt G (bY #[vi<|bc (am a) (am b) x.id y.id,vi<|x.dim+y.dim,.slice none 0 0] 61)::rowA encCell 61 A d::pt B (bY #[A] 29)::pt U (bY #[.slice none 0 0] 29)::pt T (bY #[u] 29)::pt S (bY #[v] 29)::s) ?_
    ·rw[q4];exact hw
    refine zb6 87 2<|oP (ι:=Value×Nat) (fun j=>[(2,pp S 0),(3,pp T 0),(4,pp U 0),(7,.slice pa O.length ca),(8,.slice pb n.length cb),(9,vi n.length),(10,pp B 0),(11,vi i),(12,vi k),(13,pp G 0),(14,vi j.2)]) (fun _=>g6)
     (fun j=>rowA encSide 87 j.1 ((x.sides.take j.2).map fun q=>(⟨bc (am a) (am b) q.cell y.id,q.sign⟩:ak))::pt G (bY #[vi<|bc (am a) (am b) x.id y.id,vi<|x.dim+y.dim,j.1] 61)::rowA encCell 61 A d::pt B (bY #[A] 29)::pt U (bY #[.slice none 0 0] 29)::pt T (bY #[u] 29)::pt S (bY #[v] 29)::s)
     (fun j=>j.2≤x.sides.length) (fun j=>x.sides.length - j.2) (.slice none 0 0,0) sB rfl rfl (zf7 _) ?_
    rintro ⟨sv,j⟩ hj;dsimp only at hj ⊢;refine sQ<|sW I<|lM I<|lM I<|lU (iA aB ar I I M oM sL)<|lU (fC ap I aI I M)<|lK (aZ (e:=encCell) (o:=2) (u:=.slice xp x.sides.length d1) bg I X.rd c2 I)<|lU (eN aW I)<|yL I<|tZ<|iP I (fun l4=>?_) (fun l4=>?_)
    ·have h6:j<x.sides.length:=oM;have h7:=d4.based oM;have q5:x.sides[((j:Nat):Int).toNat]?=some x.sides[j]:=bd h6;have r0:(x.sides.take<|j+1).map (fun q=>(⟨bc (am a) (am b) q.cell y.id,q.sign⟩:ak))=(x.sides.take j).map (fun q=>(⟨bc (am a) (am b) q.cell y.id,q.sign⟩:ak))++[⟨bc (am a) (am b) x.sides[j].cell y.id,x.sides[j].sign⟩]:=by rw[tS h6,zg6];rfl
     have h8:=j2 _<|gM h6;generalize x.sides[j]=z at *;have b1:=Ap c7 h8;have b5:=FG ((am a).map Cl.id) z.cell;rw[ze7] at b5;have b6:bc (am a) (am b) z.cell y.id=((lbI ((am a).map Cl.id) z.cell:Nat):Int) * n.length+k+1:=by unfold bc;rw[l2,ebl]
     have v3:((lbI ((am a).map Cl.id) z.cell:Nat):Int) * n.length≤4000:=by
      have h1:((lbI ((am a).map Cl.id) z.cell:Nat):Int) * n.length≤(O.length:Int) * n.length:=Int.mul_le_mul_of_nonneg_right oM oM;rw[eal,ebl] at a4;omega
     have t6:0≤((lbI ((am a).map Cl.id) z.cell:Nat):Int) * n.length:=Int.mul_nonneg oM oM;refine kP (tN<|sQ<|bK<|sW I<|lM I<|lU (iA aB ar I I M oM sL)<|lU (fC ap I aI I M)<|lK (aZ (e:=encCell) (o:=2) (u:=.slice xp x.sides.length d1) bg I X.rd c2 I)<|lM I<|lU (iA aW aV I I h7 oM sL)<|lK (iN iV aV I d4.rd q5)<|bW (aL zm1) fun r1=>?_);refine oZ (sK 0 aV I I I I I sB)<|tZ ?_;refine SC.to (fun w hw=>hw) (g':=g6) (s':=pt r1 (bY #[vi z.cell,vi z.sign] 87)::rowA encSide 87 sv ((x.sides.take j).map fun q=>(⟨bc (am a) (am b) q.cell y.id,q.sign⟩:ak))::pt G (bY #[vi<|bc (am a) (am b) x.id y.id,vi<|x.dim+y.dim,sv] 61)::rowA encCell 61 A d::pt B (bY #[A] 29)::pt U (bY #[.slice none 0 0] 29)::pt T (bY #[u] 29)::pt S (bY #[v] 29)::s) ?_;refine dW [15,16,17] [(0,2),(1,1),(2,2),(3,2),(4,1),(6,2),(8,2),(11,2),(12,1),(5,0),(7,2),(9,2),(10,2),(13,2),(14,0),(15,0),(16,0),(17,0)] ze4 kR<|pU I (bj ap I aI I)<|gB I (qL (v:=sv) bg I<|cO 2 I I)<|yM I<|pU I (bj dh I zT3 I)<|gB I (qL (v:=vi z.cell) iT3 I<|cO 0 I I)<|yM I<|yM I<|pU I (bj dh I zT3 I)<|gB I (qL (v:=vi z.sign) iT3 I<|cO 0 I I)<|mf I (bt call93 I<|fp E g6 _ _ (am a) z.cell (o1.mono<|t.trans f) oM c7) dC (.inr iR) ?_;rintro _ _ _ ⟨rfl,rfl,rfl⟩;rw[b1];refine pU I (Iz I I oM)<|pU I (aD I I oM)<|pU I (SU.eq (v':=vi<|bc (am a) (am b) z.cell y.id) (aD I I oM)<|ze3 vi b6.symm)<|pU I (za3 I<|buildS87 _ _)<|mf I (bS sty45 I I I (ab sB) dC) dC (.inr iR) ?_;rintro _ _ _ ⟨t7,rfl,rfl,rfl⟩;refine mf I (aP (e:=encSide) 1 ⟨bc (am a) (am b) z.cell y.id,z.sign⟩ sty45 I I I I I (by simp;omega)<|by simp;omega) dC (.inl dC) ?_;rintro sv' _ _ ⟨rfl,rfl⟩;rw[← r0];refine zd3 fun ⟨w0,N⟩=>?_;obtain ⟨q6,d6,rfl⟩:=ag (i:=1) N rfl;clear N w0;refine oU rfl (bj ap rfl aI rfl) dC (.inl dC)<|H8 rfl (oi 2 aI rfl rfl rfl rfl (bE rfl)<|by rfl) (.inl dC) ?_;rintro _ _ _ ⟨rfl,rfl⟩;refine du<|bN<|tN<|rG<|lM I<|yD I<|lA I<|cp<|dR (s':=rowA encSide 87 (.slice q6 ((x.sides.take<|j+1).map fun q=>(⟨bc (am a) (am b) q.cell y.id,q.sign⟩:ak)).length d6) ((x.sides.take<|j+1).map fun q=>(⟨bc (am a) (am b) q.cell y.id,q.sign⟩:ak))::pt G (bY #[vi<|bc (am a) (am b) x.id y.id,vi<|x.dim+y.dim,.slice q6 ((x.sides.take<|j+1).map fun q=>(⟨bc (am a) (am b) q.cell y.id,q.sign⟩:ak)).length d6] 61)::rowA encCell 61 A d::pt B (bY #[A] 29)::pt U (bY #[.slice none 0 0] 29)::pt T (bY #[u] 29)::pt S (bY #[v] 29)::s) (.cons _<|.refl _) ?_;exact ct (_,j+1) sB I I lN lN
    ·have r2:x.sides.take j=x.sides:=tL oM;rw[r2];generalize e0:x.sides.map (fun q=>(⟨bc (am a) (am b) q.cell y.id,q.sign⟩:ak))=fl1 at *;have r3:fl1.length=x.sides.length:=by rw[← e0,ze7]
     refine xI<|tX<|tX<|bX<|tN<|sQ<|rZ<|aT I<|bK<|oP (ι:=Value×Nat) (fun m=>[(2,pp S 0),(3,pp T 0),(4,pp U 0),(7,.slice pa O.length ca),(8,.slice pb n.length cb),(9,vi n.length),(10,pp B 0),(11,vi i),(12,vi k),(13,pp G 0),(16,vi m.2)]) (fun _=>g6)
      (fun m=>rowA encSide 87 m.1 (fl1++(y.sides.take m.2).map fun q=>(⟨bc (am a) (am b) x.id q.cell,dK x.dim * q.sign⟩:ak))::pt G (bY #[vi<|bc (am a) (am b) x.id y.id,vi<|x.dim+y.dim,m.1] 61)::rowA encCell 61 A d::pt B (bY #[A] 29)::pt U (bY #[.slice none 0 0] 29)::pt T (bY #[u] 29)::pt S (bY #[v] 29)::s)
      (fun m=>m.2≤y.sides.length) (fun m=>y.sides.length - m.2) (sv,0) sB rfl dO (zf7 _) ?_
     rintro ⟨c4,m⟩ hm;dsimp only at hm ⊢;refine sQ<|sW I<|lM I<|lM I<|lU (iA aB ar I I Y oM sL)<|lU (fC ap I aI I Y)<|lK (aZ (e:=encCell) (o:=2) (u:=.slice yp y.sides.length d3) bg I b0.rd g9 I)<|lU (eN aW I)<|yL I<|tZ<|iP I (fun m1=>?_) (fun m1=>?_)
     ·have c5:m<y.sides.length:=oM;have h7:=d5.based oM;have r4:y.sides[((m:Nat):Int).toNat]?=some y.sides[m]:=bd c5;have r5:fl1++(y.sides.take<|m+1).map (fun q=>(⟨bc (am a) (am b) x.id q.cell,dK x.dim * q.sign⟩:ak))=fl1++(y.sides.take m).map (fun q=>(⟨bc (am a) (am b) x.id q.cell,dK x.dim * q.sign⟩:ak))++[⟨bc (am a) (am b) x.id y.sides[m].cell,dK x.dim * y.sides[m].sign⟩]:=by rw[tS c5,zg6];simp
      have h8:=l3 _<|gM c5;have r6:=q2.2 _<|gM c5;generalize y.sides[m]=z at *;have b1:=Ap c9 h8;have b5:=FG ((am b).map Cl.id) z.cell;rw[ze7] at b5;have b6:bc (am a) (am b) x.id z.cell=(i:Int) * n.length+((lbI ((am b).map Cl.id) z.cell:Nat):Int)+1:=by unfold bc;rw[j1,ebl]
      have m2:z.sign * dK x.dim=dK x.dim * z.sign:=Int.mul_comm _ _;have m3:=ya x.dim;have h9:x.dim.tmod 2=x.dim % 2:=Int.tmod_eq_emod_of_nonneg p5.1;have r7 : -1≤z.sign * dK x.dim∧z.sign * dK x.dim≤1:=by rcases r6 with h | h <;> rcases m3 with Z | Z <;> rw[h,Z] <;> decide
      refine kP (tN<|sQ<|bK<|sW I<|lM I<|lU (iA aB ar I I Y oM sL)<|lU (fC ap I aI I Y)<|lK (aZ (e:=encCell) (o:=2) (u:=.slice yp y.sides.length d3) bg I b0.rd g9 I)<|lM I<|lU (iA aW aV I I h7 oM sL)<|lK (iN iV aV I d5.rd r4)<|bW (aL zm1) fun r8=>?_);refine oZ (sK 0 aV I I I I I sB)<|tZ ?_;refine SC.to (fun w hw=>hw) (g':=g6) (s':=pt r8 (bY #[vi z.cell,vi z.sign] 87)::rowA encSide 87 c4 (fl1++(y.sides.take m).map fun q=>(⟨bc (am a) (am b) x.id q.cell,dK x.dim * q.sign⟩:ak))::pt G (bY #[vi<|bc (am a) (am b) x.id y.id,vi<|x.dim+y.dim,c4] 61)::rowA encCell 61 A d::pt B (bY #[A] 29)::pt U (bY #[.slice none 0 0] 29)::pt T (bY #[u] 29)::pt S (bY #[v] 29)::s) ?_;refine dW [24,25,26] [(0,2),(1,1),(2,2),(3,2),(4,2),(5,2),(6,2),(7,1),(11,2),(12,1),(13,2),(14,2),(15,2),(16,2),(17,1),(18,2),(19,2),(20,2),(21,2),(8,0),(9,2),(10,2),(22,2),(23,0),(24,0),(25,0),(26,0)] ze4 kR<|pU I (bj ap I aI I)<|gB I (qL (v:=c4) bg I<|cO 2 I I)<|yM I<|yM I<|pU I (Iz I I oM)<|yM I<|pU I (bj dh I zT3 I)<|gB I (qL (v:=vi z.cell) iT3 I<|cO 0 I I)<|pU I (bj dh I zT3 I)<|gB I (qL (v:=vi z.sign) iT3 I<|cO 0 I I)<|yM I<|yM I<|pU I (iA aB ar I I M oM sL)<|pU I (fC ap I zT3 I M)<|gB I (aZ (e:=encCell) (o:=1) (u:=vi x.dim) iT3 I X.rd c2 I)<|pU I (SU.eq (v':=vi<|x.dim % 2) (zd9 I I dC)<|ze3 vi h9)<|pU I (Iz I I oM)<|pU I (SU.eq (v':=vi<|dK x.dim) (sU I I oM) I)<|pU I (SU.eq (v':=vi<|dK x.dim * z.sign) (Iz I I oM)<|ze3 vi m2)<|mf I (bt call93 I<|fp E g6 _ _ (am b) z.cell (o2.mono<|t.trans f) oM c9) dC (.inr iR) ?_;rintro _ _ _ ⟨rfl,rfl,rfl⟩;rw[b1];refine pU I (aD I I oM)<|pU I (SU.eq (v':=vi<|bc (am a) (am b) x.id z.cell) (aD I I oM)<|ze3 vi b6.symm)<|pU I (za3 I<|buildS87 _ _)<|mf I (bS sty45 I I I (ab sB) dC) dC (.inr iR) ?_;rintro _ _ _ ⟨t8,rfl,rfl,rfl⟩;refine mf I (aP (e:=encSide) 1 ⟨bc (am a) (am b) x.id z.cell,dK x.dim * z.sign⟩ sty45 I I I I I (by simp;omega)<|by simp;omega) dC (.inl dC) ?_;rintro sv3 _ _ ⟨rfl,rfl⟩;rw[← r5];refine zd3 fun ⟨w0,N⟩=>?_;obtain ⟨q7,d7,rfl⟩:=ag (i:=1) N rfl;clear N w0;refine oU rfl (bj ap rfl aI rfl) dC (.inl dC)<|H8 rfl (oi 2 aI rfl rfl rfl rfl (bE rfl)<|by rfl) (.inl dC) ?_;rintro _ _ _ ⟨rfl,rfl⟩;refine du<|bN<|tN<|rG<|lM I<|yD I<|lA I<|cp<|dR (s':=rowA encSide 87 (.slice q7 (fl1++(y.sides.take<|m+1).map fun q=>(⟨bc (am a) (am b) x.id q.cell,dK x.dim * q.sign⟩:ak)).length d7) (fl1++(y.sides.take<|m+1).map fun q=>(⟨bc (am a) (am b) x.id q.cell,dK x.dim * q.sign⟩:ak))::pt G (bY #[vi<|bc (am a) (am b) x.id y.id,vi<|x.dim+y.dim,.slice q7 (fl1++(y.sides.take<|m+1).map fun q=>(⟨bc (am a) (am b) x.id q.cell,dK x.dim * q.sign⟩:ak)).length d7] 61)::rowA encCell 61 A d::pt B (bY #[A] 29)::pt U (bY #[.slice none 0 0] 29)::pt T (bY #[u] 29)::pt S (bY #[v] 29)::s) (.cons _<|.refl _) ?_;exact ct (_,m+1) sB I I lN lN
     ·have r9:y.sides.take m=y.sides:=tL oM;rw[r9];have s2:eu (am a) (am b) x y=⟨bc (am a) (am b) x.id y.id,x.dim+y.dim,fl1++y.sides.map fun q=>(⟨bc (am a) (am b) x.id q.cell,dK x.dim * q.sign⟩:ak)⟩:=by unfold eu;rw[e0]
      generalize t9:(fl1++y.sides.map fun q=>(⟨bc (am a) (am b) x.id q.cell,dK x.dim * q.sign⟩:ak))=m4 at *;refine xI (tX<|tX<|bX<|tN<|rG<|zd6 fun g7 F t0=>?_);have n0:SlA encSide g7 c4 m4:=t0;obtain ⟨q8,d8,rfl⟩:=za4 n0;obtain ⟨nc,n1⟩:∃ nc:Rc,nc=⟨bc (am a) (am b) x.id y.id,x.dim+y.dim,⟨q8,m4.length,d8⟩⟩:=⟨_,rfl⟩;refine lU (bj dw I cg I)<|lK (qL ei I<|cO 2 I I)<|lK (qV 0 dT ar I I I)<|lW (bS sty27 I I I (ab sB) dC) ?_;rintro _ _ _ ⟨u0,rfl,rfl,rfl⟩;refine lW (aP (e:=encCell) 1 nc sty27 I I I I (by rw[n1];rfl) oM oM) ?_;rintro v156 _ _ ⟨rfl,rfl⟩;refine zd4 fun ⟨w0,N⟩=>?_;obtain ⟨q9,d9,rfl⟩:=ag (i:=1) N rfl;clear N w0;refine lU (bj dw I cg I)<|oZ (sK 2 cg I I I I I sB)<|cp<|bN<|tN<|rG<|lM I<|yD I<|lA I<|cp<|dR (s':=rowA encCell 61 (.slice q9 (d++[nc]).length d9) (d++[nc])::pt B (.cells #[(.slice q9 (d++[nc]).length d9)] 29 (0,0))::pt U (bY #[.slice none 0 0] 29)::pt T (bY #[u] 29)::pt S (bY #[v] 29)::s) (.cons _<|.refl _)<|ct (g7,_,d++[nc],k+1) sB I I ⟨f.trans F,lN,?_⟩ lN;dsimp only;rw[p9,← zg9];exact (C.mono fun _ _=>an.mono F).append ⟨(by rw[s2,n1];exact⟨I,I,n0⟩),trivial⟩
   ·have t1:(am b).take k=am b:=tL oM;rw[t1] at C;exact xI<|tX<|tX<|bX<|bN<|tN<|rG<|lM I<|yD I<|lA I<|cp<|ct (g6,A,d,i+1) sB I I ⟨t.trans f,lN,by dsimp only;rw[f7];exact C⟩ lN
  ·have t2:(am a).take i=am a:=tL oM;rw[t2,← R] at W;have v4:(ef a b).length≤4000:=by
    rw[R,jD];have h4:(((am a).length * (am b).length:Nat):Int)≤4000:=by rw[Iw];exact a4
    omega
   have e1:aM<|ef a b:=by
    refine⟨oM,fun c hc=>?_⟩;rw[R] at hc;obtain ⟨x,hx,hc⟩:=List.mem_flatMap.1 hc;obtain ⟨y,hy,rfl⟩:=zf3.1 hc;have h1:=(jr<|e2 x hx).1;have Z:=(jr<|e4 y hy).1;simp[eu];omega
   refine xI (tX<|tX<|bX<|tN<|sQ<|fS fun g6 f t3=>?_);have n2:ai g6 ov<|ef a b:=⟨i3,t3,W.mono fun _ _=>an.mono f⟩;refine rG<|lK (qV 0 aj ae I I I)<|lW (bt call39 I<|cY E g6 _ _ (ef a b) n2 e1) ?_;rintro _ g7 _ ⟨rfl,rfl,F⟩;refine aT I<|sQ<|sW I<|lU (IN I)<|tZ<|iP I (fun hr=>?_) (fun hr=>?_)
   ·exact rZ<|lU (za3 I<|buildE29)<|oZ (sK 1 ae I I I I I sB)<|tZ<|rE<|tR<|kn 1 s (.inl I) results66 I aj ae I I uR ⟨I,D.trans<|H.trans<|V.trans<|J.trans<|t.trans<|f.trans F,_,I,by unfold dp;rw[zg1<|by rw[p];simp,zg1 hr];exact⟨[],zc1 _ _,trivial⟩⟩
   ·refine kP<|tN<|rZ<|lK (qV 0 aj ae I I I)<|lW (bt call70 I<|co E g7 _ _ (ef a b) (n2.mono F) e1) ?_;rintro _ g8 _ ⟨rfl,n3,x8,rfl,n4⟩;obtain ⟨q8,d8,rfl⟩:=n4.form;exact oZ (sK 1 ae I I I I I sB)<|tZ<|rE<|kn 1 s (.inl I) results66 I aj ae I I uR ⟨I,D.trans<|H.trans<|V.trans<|J.trans<|t.trans<|f.trans<|F.trans n3,_,I,by unfold dp;rw[zg1<|by rw[p];simp,zg2<|zh1 hr];exact n4⟩
end Go.Proofs.YtpmoadbbfobbcaaGreatDoor
namespace Go.Sy
open Go
section
variable {P:Program}{N:Nat}{E:World}{ops:Array Oper}{Q:Exit→Act→World→Prop}{g0:PH}{s0:Own}{tail:List Nat}{f:Fr}{g g':PH}{s s':Own}{L:Array Bool}{n:Nat}
theorem SX.to (h:∀ w,At E g s w→At E g' s' w)(hc:SX P N E ops Q g0 s0 tail L n f g' s'):SX P N E ops Q g0 s0 tail L n f g s:=fun a w c b d e hb=>hc a w c b d (h w e) hb
theorem SX.facts (h:(∃ w,At E g s w)→SX P N E ops Q g0 s0 tail L n f g s):SX P N E ops Q g0 s0 tail L n f g s:=fun a w d b e c hb=>h ⟨w,c⟩ a w d b e c hb
theorem SX.freezeRow {T:TypeId}{k m:Nat}{v:Value}{xs:List Value}(h:∀ g',Le g g'→Sl g' k v m xs→SX P N E ops Q g0 s0 tail L n f g' s):SX P N E ops Q g0 s0 tail L n f g<|row T k v m xs::s:=fun a w c b d e hb=>by
 obtain ⟨g',i,j,l⟩:=e.freezeRow;exact h g' i l a w c b d j hb
end
def I9:=@SX.to
def Ic:=@SX.freezeRow
end Go.Sy
namespace Go.Proofs.YtpmoadbbfobbcaaGreatDoor
open _root_.Go.Proofs.Tryz _root_.Go.Proofs.YtpmoadbbfobbcaaGreatDoor.Tryz
open Go Go.Sy Go.Pl Go.Proofs
set_option maxRecDepth 100000
def oX (ls:List<|List Int):List<|List Int:=(ls.take 5).map fun l=>(l.take 4).map fun x=>ci x 7
theorem il {α β:Type}{l:List α}{i:Nat}(h:i<l.length)(f:α→β):(l.take<|i+1).map f=(l.take i).map f++[f l[i]]:=by
 rw[tS h,zg6];rfl
variable (E:World)(g:PH)(s:Own)
theorem mF (v:Value)(ls:List<|List Int)(X:dn g v ls) :
  Ctr Tryz.prog E 64 #[v] g s fun r g' s'=>∃ rs,s'=rowA ec 43 r rs::s∧Le g g'∧ay (ep g') (oX ls) rs:=by
 obtain ⟨a,b,f⟩:=X;have K:=f.length;obtain ⟨p,c,rfl⟩:=za4 b;refine zb2 (args:=[.slice p a.length c]) func64 I ntmps64 (bE I)<|rZ<|aT I<|rZ<|aT I<|sQ<|rZ<|aT I<|bK<|zb6 43 1<|oP (ι:=PH×Value×List Sv×Nat) (fun i=>[(0,.slice p a.length c),(2,.slice none 0 0),(3,i.2.1),(4,vi i.2.2.2)]) (fun i=>i.1)
  (fun i=>rowA ec 43 i.2.1 i.2.2.1::s)
  (fun i=>Le g i.1∧i.2.2.2≤a.length∧i.2.2.2≤5∧ay (ep i.1) ((ls.take i.2.2.2).map fun l=>(l.take 4).map fun x=>ci x 7) i.2.2.1) (fun i=>a.length - i.2.2.2)
  (g,.slice none 0 0,[],0) sB rfl rfl ⟨zb9 g,zf7 _,zf7 _,trivial⟩ ?_
 rintro ⟨g1,L,rs,i⟩ ⟨d,Y,M,j⟩;dsimp only at d Y M j ⊢;have N:=j.length;rw[ze7,ze5] at N;have f1:(i:Int)<(a.length:Int)→(decide ((i:Int)<(a.length:Int))&&decide ((i:Int)<5))=decide ((i:Int)<5):=fun h=>by simp[h]
 have f2:¬ (i:Int)<(a.length:Int)→(decide ((i:Int)<(a.length:Int))&&decide ((i:Int)<5))=false:=fun h=>by simp only[h,decide_false,Bool.false_and]
 refine sQ<|BY 14 ((decide ((i:Int)<(a.length:Int))&&decide ((i:Int)<5))) ?_ ?_
 ·refine rG<|lM I<|lM I<|lU (eN fe I)<|yL I<|lM I<|sP ?_ ?_
  ·intro n;exact yC I<|lY I I I (lS I I)<|yP I<|cp<|zb1 (by (rw[f1 n];rfl)) mI
  ·intro n;exact yA I<|yA I<|yF I<|cp<|zb1 (by (rw[f2 n];rfl)) mI
 refine iQ I (fun hc=>?_) (fun hc=>?_)
 ·rw[zj4,zj7,zj7] at hc;have z:i<ls.length:=oM;have A:i<a.length:=oM;have B:=b.based oM;have V:=(f.get (bd z)<|bd A).mono d;have C:=V.len;have o:=il z fun l=>(l.take 4).map fun x=>ci x 7;generalize hx:ls[i]=x at *;generalize hr:a[i]=r at *;obtain ⟨J,rn,rc⟩:=r;dsimp only at C;subst C;have D:dA g1 (.slice J x.length rc) x:=V;have F:a[((i:Nat):Int).toNat]?=some ⟨J,x.length,rc⟩:=by rw[← hr];exact bd A
  refine kP<|tN<|sQ<|bK<|rZ<|aT I<|sQ<|rZ<|aT I<|bK<|zb6 3 1<|oP (ι:=Value×Nat) (fun k=>[(0,.slice p a.length c),(2,.slice none 0 0),(3,L),(4,vi i),(5,k.1),(6,vi k.2)]) (fun _=>g1)
   (fun k=>rowA encInt 3 k.1 ((x.take k.2).map fun x=>ci x 7)::rowA ec 43 L rs::s)
   (fun k=>k.2≤x.length∧k.2≤4) (fun k=>x.length - k.2) (.slice none 0 0,0) sB rfl rfl ⟨zf7 _,zf7 _⟩ ?_
  rintro ⟨Z,k⟩ ⟨hk,O⟩;dsimp only at hk O ⊢;have f3:(k:Int)<(x.length:Int)→(decide ((k:Int)<(x.length:Int))&&decide ((k:Int)<4))=decide ((k:Int)<4):=fun h=>by simp[h]
  have f4:¬ (k:Int)<(x.length:Int)→(decide ((k:Int)<(x.length:Int))&&decide ((k:Int)<4))=false:=fun h=>by simp only[h,decide_false,Bool.false_and]
  refine sQ<|BY 27 ((decide ((k:Int)<(x.length:Int))&&decide ((k:Int)<4))) ?_ ?_
  ·refine rG<|lM I<|lM I<|lM I<|lU (iA fe gy I I B oM sL)<|lK (eB (u:=.slice J x.length rc) iE I (b.mono d).rd F I)<|lU (eN aA I)<|yL I<|lM I<|sP ?_ ?_
   ·intro q;exact yC I<|lY I I I (lS I I)<|yP I<|cp<|zb1 (by (rw[f3 q];rfl)) mI
   ·intro q;exact yA I<|yA I<|yF I<|cp<|zb1 (by (rw[f4 q];rfl)) mI
  refine iQ I (fun t=>?_) (fun t=>?_)
  ·rw[zj4,zj7,zj7] at t;have G:k<x.length:=oM;have P:=za6 D oM;have Q:=il G fun x=>ci x 7;have R:x[((k:Nat):Int).toNat]?=some x[k]:=bd G;generalize x[k]=y at *;refine kP<|tN<|sQ<|bK<|rG<|lM I<|lM I<|lM I<|lU (iA fe gy I I B oM sL)<|lK (eB (u:=.slice J x.length rc) iE I (b.mono d).rd F I)<|lM I<|lU (iA aA zT3 I I P oM sL)<|lK (eB iT3 I (za7 D) R I)<|lW (bt my I<|bL E g1 _ y 7 dC) ?_;rintro _ _ _ ⟨rfl,rfl,rfl⟩;refine lW (bS sty43 I I I (ab sB) dC) ?_;rintro _ _ _ ⟨a0,rfl,rfl,rfl⟩;refine lW (aP (e:=encInt) 0 (ci y 7) sty43 I I I I I (by rw[ze7,ze5];omega)<|by rw[ze7,ze5];omega) ?_;rintro iv' _ _ ⟨rfl,rfl⟩;refine lA I<|cp<|bN<|tN<|rG<|lM I<|yD I<|lA I<|cp ?_;refine ST.to (fun w hw=>?_) (g':=g1) (s':=rowA encInt 3 iv' ((x.take<|k+1).map fun x=>ci x 7)::rowA ec 43 L rs::s) ?_
   ·rw[Q];exact hw
   exact ct (iv',k+1) sB I I ⟨lN,lN⟩ lN
  ·have S:x.take k=x.take 4:=by
    rw[Bool.and_eq_false_iff,hP,hP] at t;by_cases h4:k=4
    ·rw[h4]
    ·rw[tL oM,tL oM]
   rw[S];refine xI (tX<|tX<|bX<|tN<|fS fun g2 m T=>?_);have H:dA g2 Z ((x.take 4).map fun x=>ci x 7):=T;obtain ⟨W,d2,rfl⟩:=za4 H;obtain ⟨nl,a1⟩:∃ nl,nl=((x.take 4).map fun x=>ci x 7).length:=⟨_,rfl⟩;refine rG<|lM I<|lM I<|lW (bS sty22 I I I (ab sB) dC) ?_;rintro _ _ _ ⟨a2,rfl,rfl,rfl⟩;refine lW (aP (e:=ec) 0 ⟨W,((x.take 4).map fun x=>ci x 7).length,d2⟩ sty22 I I I I I oM oM) ?_;rintro ov' _ _ ⟨rfl,rfl⟩;refine lA I<|cp<|bN<|tN<|rG<|lM I<|yD I<|lA I<|cp<|ct (g2,ov',rs++[⟨W,((x.take 4).map fun x=>ci x 7).length,d2⟩],i+1) sB I I ⟨d.trans m,lN,lN,?_⟩ lN;dsimp only;rw[o];exact (j.mono fun _ _=>ep.mono m).append ⟨H,trivial⟩
 ·have U:ls.take i=ls.take 5:=by
   rw[Bool.and_eq_false_iff,hP,hP] at hc;by_cases h5:i=5
   ·rw[h5]
   ·rw[tL oM,tL oM]
  rw[U] at j;exact xI<|tX<|tX<|bX<|tN<|sW I<|aT I<|rE<|za8 (.inl I) results64 I ⟨rs,I,d,j⟩
def e8 (id k:Int):Int:=if k=1 then id else IntKind.i64.wrap<|(IntKind.i64.wrap<|id * k).tmod 211+1
theorem kW (a k:Int):Ctr Tryz.prog E 112 #[vi a,vi k] g s
  (fun r g' s'=>r=vi (e8 a k)∧g=g'∧s=s'):=by
 refine zb2 (args:=[vi a,vi k]) func112 I ntmps112 (bE I)<|rZ<|aT I<|sQ<|sW I<|yE I<|tZ<|iP I (fun b=>?_) (fun b=>?_)
 ·exact sW I<|aT I<|rE<|tR<|za8 (.inl I) results112 I ⟨by simp[e8,b],I,I⟩
 ·exact kP<|tN<|sW I<|lM I<|lU (SU.mulW I I)<|lU (zd9 I I dC)<|lU (ze2 I I)<|aT I<|rE<|za8 (.inl I) results112 I ⟨by simp[e8,b],I,I⟩
theorem qh (a k:Int)(b:k≠0):Ctr Tryz.prog E 113 #[vi a,vi k] g s
  (fun r g' s'=>r=vb (decide<|a.tmod k=1)∧g=g'∧s=s'):=by
 exact zb2 (args:=[vi a,vi k]) func113 I ntmps113 (bE I)<|rZ<|aT I<|sW I<|lM I<|lU (zd9 I I oM)<|yE I<|aT I<|rE<|za8 (.inl I) results113 I ⟨I,I,I⟩
theorem jK:∀ (all ls:List<|List Int),all.length≤4000→(∀ x∈all,x.length≤9)→∀ r,a8 all ls=some r→r.length≤4000∧∀ x∈r,x.length≤9
 | all,[],d,c,r,h=>by cases h;exact⟨d,c⟩
 | all,t::ls,d,c,r,h=>by
  unfold a8 at h;split at h
  ·exact jK all ls d c r h
  ·rename_i hb;split at h
   ·cases h
   ·rename_i hl;refine jK _ ls oM (fun x b=>?_) r h
    rcases l7 b with b | b
    ·exact c x b
    ·refine i7 ?_ x b;cases e:dM t with
     | nil=>simp
     | cons a r =>
      rw[e] at hb;simp only[jO,zj5,zj7,not_or] at hb;omega
theorem eV (ls:List<|List Int):aM (dJ ls)∧(dJ ls).length≤4000:=by
 unfold dJ;cases h:a8 [] ls with
 | none=>exact⟨⟨by simp,by simp⟩,by simp⟩
 | some all =>
  obtain ⟨a,b⟩:=jK [] ls dO dO all h;have c:(aa<|bi all).length≤4000:=by rw[ax,bT];exact a
  exact⟨aF<|li a b,c⟩
theorem fE (a b:List Cl):aM (dp a b)∧(dp a b).length≤4000:=by
 unfold dp;split
 ·exact⟨⟨by simp,by simp⟩,by simp⟩
 ·rename_i d;split
  ·have n:(aH a).2=0:=zh1 fun h=>d (by simp[de,h]);have hb:(aH b).2=0:=zh1 fun h=>d (by simp[de,h]);have l:((am a).length:Int) * (am b).length≤4000:=by
    refine zh1 fun h=>d ?_;have:((am a).length:Int) * (am b).length>4000:=oM;simp[de,this]
   obtain ⟨_,_,f,g⟩:=ew n;obtain ⟨_,_,i,j⟩:=ew hb;rw[← f] at g;rw[← i] at j;have e:ef a b=(am a).flatMap fun x=>(am b).map (eu (am a) (am b) x):=by unfold ef;rw[← f,← i]
   have m:(ef a b).length≤4000:=by
    rw[e,jD];have q:(((am a).length * (am b).length:Nat):Int)≤4000:=by rw[Iw];exact l
    omega
   have k:aM<|ef a b:=by
    refine⟨oM,fun c hc=>?_⟩;rw[e] at hc;obtain ⟨x,o,hc⟩:=List.mem_flatMap.1 hc;obtain ⟨y,p,rfl⟩:=zf3.1 hc;have r:=(jr<|g x o).1;have s:=(jr<|j y p).1;simp[eu];omega
   exact⟨aF k,by rw[ax];exact m⟩
  ·exact⟨⟨by simp,by simp⟩,by simp⟩
def rf:List Cl:=dp (dJ [[0,1],[1,2],[0,2]])<|dJ [[0,1],[1,2],[0,2]]
theorem AJ:Ctr Tryz.prog E 68 #[] g s fun r g' s'=>s=s'∧Le g g'∧∃ u,r = .agg #[u]∧ai g' u rf:=by
 have p:=(eV [[0,1],[1,2],[0,2]]).1;refine zb2 (args:=[]) func68 I ntmps68 (bE I)<|rZ (bW (aL zl9) fun A=>?_);refine tZ<|rZ<|lW (bS sty43 I I I (ab sB) dC) ?_;rintro _ _ _ ⟨v,rfl,rfl,rfl⟩;refine zb5 fun g1 e k=>?_;refine lW (bS sty43 I I I (ab sB) dC) ?_;rintro _ _ _ ⟨w,rfl,rfl,rfl⟩;refine zb5 fun g2 c l=>?_;refine lW (bS sty43 I I I (ab sB) dC) ?_;rintro _ _ _ ⟨y,rfl,rfl,rfl⟩;refine zb5 fun g3 b m=>?_;refine lW (bS sty22 I I I (ab sB) dC) ?_;rintro _ _ _ ⟨z,rfl,rfl,rfl⟩;refine zb5 fun g4 a n=>?_;have f:dn g4 (.slice (some ⟨z,0,none⟩) 3 3) [[0,1],[1,2],[0,2]]:=⟨[jQ<|.slice (some ⟨v,0,none⟩) 2 2,jQ<|.slice (some ⟨w,0,none⟩) 2 2,jQ<|.slice (some ⟨y,0,none⟩) 2 2],kb n rfl rfl,⟨kb (a _ _<|b _ _<|c _ _ k) rfl rfl,kb (a _ _<|b _ _ l) rfl rfl,kb (a _ _ m) rfl rfl,trivial⟩⟩;refine lW (bt call63 I<|a6 E g4 _ _ _ f dC dC) ?_;rintro _ g5 _ ⟨rfl,i,u,rfl,o⟩;obtain ⟨q,d,rfl⟩:=o.form;refine bW (aL zl9) fun B=>oZ (sK 0 ae I I I I I sB)<|tZ<|rZ<|lK (qV 0 aj ae I I I)<|lK (qV 0 aj ae I I I)<|lW (bt call66 I<|fG E g5 _ _ _ _ _ o o p p) ?_;rintro _ g6 _ ⟨rfl,j,x,rfl,t⟩;obtain ⟨C,d6,rfl⟩:=t.form;exact oZ (sK 1 ae I I I I I sB)<|tZ<|rE<|kn 1 s (.inl I) results68 I aj ae I I uR ⟨I,e.trans<|c.trans<|b.trans<|a.trans<|i.trans j,_,I,t⟩
theorem AS (ls:List<|List Int):(oX ls).length≤5∧∀ x∈oX ls,x.length≤4:=by
 refine⟨by simp[oX];omega,fun x a=>?_⟩;obtain ⟨l,_,rfl⟩:=zf3.1 a;simp;omega
def GX:List<|List Int:=[[0,1,2],[0,1,3],[0,2,3],[1,2,3]]
def GW:List<|List Int:=[[0,1,2],[0,2,3],[0,3,4],[0,4,5],[0,1,5],[1,2,4],[2,3,5],[1,3,4],[2,4,5],[1,3,5]]
def wy (k:Nat):List<|List Int:=(List.range k).flatMap fun (i:Nat)=>[[(i:Int),((i:Int)+1).tmod 7,((i:Int)+3).tmod 7],[(i:Int),((i:Int)+2).tmod 7,((i:Int)+3).tmod 7]]
def nM (n:Int):List<|List Int:=if ci n 3=0 then GX else if ci n 3=1 then GW else wy 7
theorem rV (k:Nat):wy (k+1)=wy k++[[(k:Int),((k:Int)+1).tmod 7,((k:Int)+3).tmod 7],[(k:Int),((k:Int)+2).tmod 7,((k:Int)+3).tmod 7]]:=by
 simp[wy,wb,H4]
theorem kH (k:Nat):(wy k).length=2 * k:=by
 induction k with
 | zero=>rfl
 | succ k ih=>rw[rV,ze6,ih];simp;omega
theorem nU (n:Int):Ctr Tryz.prog E 65 #[vi n] g s fun r g' s'=>s=s'∧Le g g'∧dn g' r (nM n):=by
 refine zb2 (args:=[vi n]) func65 I ntmps65 (bE I)<|rZ<|aT I<|sQ<|sW I<|lW (bt my I<|bL E g _ n 3 dC) ?_;rintro _ _ _ ⟨rfl,rfl,rfl⟩;refine tZ<|bK<|rZ<|yE I<|aT I<|iP I (fun S=>?_) (fun S=>?_)
 ·refine rZ<|lW (bS sty43 I I I (ab sB) dC) ?_;rintro _ _ _ ⟨b9,rfl,rfl,rfl⟩;refine zb5 fun g1 q T=>?_;refine lW (bS sty43 I I I (ab sB) dC) ?_;rintro _ _ _ ⟨U,rfl,rfl,rfl⟩;refine zb5 fun g2 d v=>?_;refine lW (bS sty43 I I I (ab sB) dC) ?_;rintro _ _ _ ⟨V,rfl,rfl,rfl⟩;refine zb5 fun g3 f w=>?_;refine lW (bS sty43 I I I (ab sB) dC) ?_;rintro _ _ _ ⟨W,rfl,rfl,rfl⟩;refine zb5 fun g4 b x=>?_;refine lW (bS sty22 I I I (ab sB) dC) ?_;rintro _ _ _ ⟨X,rfl,rfl,rfl⟩;refine zb5 fun g5 j y=>?_;have p:dn g5 (.slice (some ⟨X,0,none⟩) 4 4) GX:=⟨[jQ<|.slice (some ⟨b9,0,none⟩) 3 3,jQ<|.slice (some ⟨U,0,none⟩) 3 3,jQ<|.slice (some ⟨V,0,none⟩) 3 3,jQ<|.slice (some ⟨W,0,none⟩) 3 3],kb y rfl rfl,⟨kb (j _ _<|b _ _<|f _ _<|d _ _ T) rfl rfl,kb (j _ _<|b _ _<|f _ _ v) rfl rfl,kb (j _ _<|b _ _ w) rfl rfl,kb (j _ _ x) rfl rfl,trivial⟩⟩;exact aT I<|rE<|bR<|tR<|za8 (.inl I) results65 I ⟨I,(q.trans<|d.trans<|f.trans<|b.trans j),by unfold nM;rw[zg2 S];exact p⟩
 ·refine rZ<|yE I<|aT I<|iP I (fun Y=>?_) (fun Y=>?_)
  ·refine rZ<|lW (bS sty43 I I I (ab sB) dC) ?_;rintro _ _ _ ⟨Z,rfl,rfl,rfl⟩;refine zb5 fun g1 q z=>?_;refine lW (bS sty43 I I I (ab sB) dC) ?_;rintro _ _ _ ⟨a0,rfl,rfl,rfl⟩;refine zb5 fun g2 d A=>?_;refine lW (bS sty43 I I I (ab sB) dC) ?_;rintro _ _ _ ⟨a1,rfl,rfl,rfl⟩;refine zb5 fun g3 f B=>?_;refine lW (bS sty43 I I I (ab sB) dC) ?_;rintro _ _ _ ⟨a2,rfl,rfl,rfl⟩;refine zb5 fun g4 b C=>?_;refine lW (bS sty43 I I I (ab sB) dC) ?_;rintro _ _ _ ⟨a3,rfl,rfl,rfl⟩;refine zb5 fun g5 j D=>?_;refine lW (bS sty43 I I I (ab sB) dC) ?_;rintro _ _ _ ⟨a4,rfl,rfl,rfl⟩;refine zb5 fun g6 o F=>?_;refine lW (bS sty43 I I I (ab sB) dC) ?_;rintro _ _ _ ⟨a5,rfl,rfl,rfl⟩;refine zb5 fun g7 m G=>?_;refine lW (bS sty43 I I I (ab sB) dC) ?_;rintro _ _ _ ⟨a9,rfl,rfl,rfl⟩;refine zb5 fun g8 l H=>?_;refine lW (bS sty43 I I I (ab sB) dC) ?_;rintro _ _ _ ⟨b0,rfl,rfl,rfl⟩;refine zb5 fun g9 k J=>?_;refine lW (bS sty43 I I I (ab sB) dC) ?_;rintro _ _ _ ⟨b1,rfl,rfl,rfl⟩;refine zb5 fun g10 c K=>?_;refine lW (bS sty22 I I I (ab sB) dC) ?_;rintro _ _ _ ⟨b2,rfl,rfl,rfl⟩;refine zb5 fun g11 a L=>?_;have p:dn g11 (.slice (some ⟨b2,0,none⟩) 10 10) GW:=⟨[jQ<|.slice (some ⟨Z,0,none⟩) 3 3,jQ<|.slice (some ⟨a0,0,none⟩) 3 3,jQ<|.slice (some ⟨a1,0,none⟩) 3 3,jQ<|.slice (some ⟨a2,0,none⟩) 3 3,jQ<|.slice (some ⟨a3,0,none⟩) 3 3,jQ<|.slice (some ⟨a4,0,none⟩) 3 3,jQ<|.slice (some ⟨a5,0,none⟩) 3 3,jQ<|.slice (some ⟨a9,0,none⟩) 3 3,jQ<|.slice (some ⟨b0,0,none⟩) 3 3,jQ<|.slice (some ⟨b1,0,none⟩) 3 3],kb L rfl rfl,⟨kb (a _ _<|c _ _<|k _ _<|l _ _<|m _ _<|o _ _<|j _ _<|b _ _<|f _ _<|d _ _ z) rfl rfl,kb (a _ _<|c _ _<|k _ _<|l _ _<|m _ _<|o _ _<|j _ _<|b _ _<|f _ _ A) rfl rfl,kb (a _ _<|c _ _<|k _ _<|l _ _<|m _ _<|o _ _<|j _ _<|b _ _ B) rfl rfl,kb (a _ _<|c _ _<|k _ _<|l _ _<|m _ _<|o _ _<|j _ _ C) rfl rfl,kb (a _ _<|c _ _<|k _ _<|l _ _<|m _ _<|o _ _ D) rfl rfl,kb (a _ _<|c _ _<|k _ _<|l _ _<|m _ _ F) rfl rfl,kb (a _ _<|c _ _<|k _ _<|l _ _ G) rfl rfl,kb (a _ _<|c _ _<|k _ _ H) rfl rfl,kb (a _ _<|c _ _ J) rfl rfl,kb (a _ _ K) rfl rfl,trivial⟩⟩;exact aT I<|rE<|bR<|tR<|za8 (.inl I) results65 I ⟨I,(q.trans<|d.trans<|f.trans<|b.trans<|j.trans<|o.trans<|m.trans<|l.trans<|k.trans<|c.trans a),by unfold nM;rw[zg1 S,zg2 Y];exact p⟩
  ·refine kP<|bN<|tN<|rZ<|aT I<|sQ<|rZ<|aT I<|bK<|zb6 43 1<|oP (ι:=PH×Value×List Sv×Nat) (fun i=>[(3,i.2.1),(4,vi i.2.2.2)]) (fun i=>i.1)
    (fun i=>rowA ec 43 i.2.1 i.2.2.1::s)
    (fun i=>Le g i.1∧i.2.2.2≤7∧ay (ep i.1) (wy i.2.2.2) i.2.2.1) (fun i=>7 - i.2.2.2)
    (g,.slice none 0 0,[],0) sB rfl rfl ⟨zb9 g,zf7 _,trivial⟩ ?_
   rintro ⟨g1,ov,rs,i⟩ ⟨u,hi,t⟩;dsimp only at u hi t ⊢;have b3:=t.length;rw[kH] at b3;refine sQ<|sW I<|yL I<|tZ<|iP I (fun b4=>?_) (fun b4=>?_)
   ·have M:i<7:=oM;refine kP<|tN<|sQ<|bK<|rG<|lM I<|lM I<|lM I<|yD I<|lU (zd9 I I dC)<|lM I<|yD I<|lU (zd9 I I dC)<|lW (bS sty43 I I I (ab sB) dC) ?_;rintro _ _ _ ⟨N,rfl,rfl,rfl⟩;refine zb5 fun g2 d O=>?_;refine lM I<|lM I<|yD I<|lU (zd9 I I dC)<|lM I<|yD I<|lU (zd9 I I dC)<|lW (bS sty43 I I I (ab sB) dC) ?_;rintro _ _ _ ⟨P,rfl,rfl,rfl⟩;refine zb5 fun g3 f Q=>?_;refine lW (bS sty22 I I I (ab sB) dC) ?_;rintro _ _ _ ⟨b5,rfl,rfl,rfl⟩;refine zb5 fun g4 b R=>?_;have p:SlA ec g4 (.slice (some ⟨b5,0,none⟩) 2 2) [⟨some ⟨N,0,none⟩,3,3⟩,⟨some ⟨P,0,none⟩,3,3⟩]:=kb R rfl rfl;refine lW (aQ (e:=ec) 0 sty22 I I I p lN lN) ?_;rintro ov' _ _ ⟨rfl,rfl⟩;refine lA I<|cp<|bN<|tN<|rG<|lM I<|yD I<|lA I<|cp<|ct (g4,ov',rs++[⟨some ⟨N,0,none⟩,3,3⟩,⟨some ⟨P,0,none⟩,3,3⟩],i+1) sB I I ⟨u.trans<|d.trans<|f.trans b,lN,?_⟩ lN;dsimp only;rw[rV];exact (t.mono fun _ _=>ep.mono<|d.trans<|f.trans b).append ⟨kb (b _ _<|f _ _ O) I I,kb (b _ _ Q) I I,trivial⟩
   ·have M:i=7:=oM;subst M;refine xI (tX<|tX<|bX<|tN<|sQ<|fS fun g2 d b6=>?_);have b7:dn g2 ov<|wy 7:=⟨rs,b6,t.mono fun _ _=>ep.mono d⟩;exact rG<|lM I<|aT I<|rE<|za8 (.inl I) results65 I ⟨I,u.trans d,by unfold nM;rw[zg1 S,zg1 Y];exact b7⟩
set_option maxHeartbeats 1000000
def m5 (k:Nat):List Cl:=(List.range k).map fun (i:Nat)=>⟨(i:Int)+1,0,[]⟩
def nO (n k:Nat):List Cl:=(List.range k).map fun (i:Nat)=>⟨(n:Int)+i+1,1,[⟨(i:Int)+1,-1⟩,⟨((i:Int)+1).tmod n+1,1⟩]⟩
def ik (n k:Nat):List ak:=(List.range k).map fun (i:Nat)=>⟨(n:Int)+i+1,1⟩
def fo (n:Nat):List Cl:=m5 n++nO n n++[⟨2 * (n:Int)+1,2,ik n n⟩]++(if (n:Int).tmod 2=0 then [⟨2 * (n:Int)+2,2,ik n n⟩] else [])
def yr (n:Nat):List Cl:=aa<|fo n
theorem A6 (k:Nat):m5 (k+1)=m5 k++[⟨(k:Int)+1,0,[]⟩]:=by simp[m5,wb]
theorem A8 (n k:Nat):nO n (k+1)=nO n k++[⟨(n:Int)+k+1,1,[⟨(k:Int)+1,-1⟩,⟨((k:Int)+1).tmod n+1,1⟩]⟩]:=by simp[nO,wb]
theorem A7 (n k:Nat):ik n (k+1)=ik n k++[⟨(n:Int)+k+1,1⟩]:=by simp[ik,wb]
theorem kK (n k:Nat):(ik n k).length=k:=by simp[ik]
theorem nW {n:Nat}(h:n≤6):aM (fo n)∧(fo n).length≤14:=by
 have hl:(fo n).length≤14:=by
  unfold fo;split <;> simp[m5,nO] <;> omega
 refine⟨⟨oM,fun c hc=>?_⟩,hl⟩;unfold fo at hc
 rcases zf4.1 hc with hc | hc
 ·rcases zf4.1 hc with hc | hc
  ·rcases zf4.1 hc with hc | hc
   ·obtain ⟨i,_,rfl⟩:=zf3.1 hc;simp
   ·obtain ⟨i,_,rfl⟩:=zf3.1 hc;simp
  ·simp at hc;subst hc;simp[kK];omega
 ·split at hc
  ·simp at hc;subst hc;simp[kK];omega
  ·simp at hc
theorem Tryz.buildD61 (x:Int)(w:World):(Instr.build 61 #[(0,vi x)]).run Tryz.prog w = .ok (.agg #[vi x,vi 0,.slice none 0 0]) w:=by
 have hz:(Value.agg #[vi 0,vi 0,Value.slice none 0 0]).cells = #[vi 0,vi 0,.slice none 0 0]:=rfl;have a:∀ z:Int,(vi z).cells = #[vi z]:=fun _=>rfl;simp[Instr.build,Instr.fill,hz,a]
theorem wR (n:Nat)(h2:2≤n)(h6:n≤6) :
  Ctr Tryz.prog E 67 #[vi n] g s fun r g' s'=>s=s'∧Le g g'∧∃ x,r = .agg #[x]∧ai g' x (yr n):=by
 have S:((n:Nat):Int)≠0:=oM;refine zb2 (args:=[vi n]) func67 I ntmps67 (bE I)<|rZ (bW (aL zl9) fun P=>?_);refine tZ (rZ<|bW (aL zl9) fun Q=>?_);refine tZ<|sQ<|rZ<|aT I<|bK<|zb6 61 3<|oP (ι:=Value×List Rc×Nat) (fun i=>[(0,vi n),(2,pp P 0),(3,pp Q 0),(4,vi i.2.2)]) (fun _=>g)
  (fun i=>rowA encCell 61 i.1 i.2.1::pt Q (bY #[i.1] 29)::pt P (bY #[.slice none 0 0] 29)::s)
  (fun i=>i.2.2≤n∧ay (an g) (m5 i.2.2) i.2.1) (fun i=>n - i.2.2)
  (.slice none 0 0,[],0) sB rfl rfl ⟨zf7 _,trivial⟩ ?_
 rintro ⟨ov,T,i⟩ ⟨hi,t⟩;dsimp only at hi t ⊢;have Z:=t.length;simp only[m5,ze7,zi5] at Z;refine sQ<|sW I<|lM I<|yL I<|tZ<|iP I (fun a0=>?_) (fun a0=>?_)
 ·refine kP<|tN<|sQ<|bK<|rG<|lU (bj dw I cg I)<|lK (qL (v:=ov) ei I<|cO 1 I I)<|lM I<|yD I<|lU (za3 I<|buildD61 _)<|lW (bS sty27 I I I (ab sB) dC) ?_;rintro _ _ _ ⟨b5,rfl,rfl,rfl⟩;refine lW (aP (e:=encCell) 0 ⟨(i:Int)+1,0,⟨none,0,0⟩⟩ sty27 I I I I I oM oM) ?_;rintro v20 _ _ ⟨rfl,rfl⟩;refine zd4 fun ⟨L,c⟩=>?_;obtain ⟨R,d9,rfl⟩:=ag (i:=0) c rfl;clear c L;refine lU (bj dw I cg I)<|oZ (sK 1 cg I I I I I sB)<|cp<|bN<|tN<|rG<|lM I<|yD I<|lA I<|cp<|ct (_,T++[⟨(i:Int)+1,0,⟨none,0,0⟩⟩],i+1) sB I I ⟨lN,?_⟩ lN;dsimp only;rw[A6];exact t.append ⟨⟨I,I,zc1 _ _⟩,trivial⟩
 ·have a1:i=n:=oM;subst a1;refine xI<|tX<|tX<|bX<|tN<|rZ<|aT I<|sQ<|rZ<|aT I<|bK<|zb6 87 2<|oP (ι:=PH×Value×List Rc×Value×Nat) (fun k=>[(0,vi i),(2,pp P 0),(3,pp Q 0),(5,k.2.2.2.1),(6,vi k.2.2.2.2)]) (fun k=>k.1)
   (fun k=>rowA encSide 87 k.2.2.2.1 (ik i k.2.2.2.2)::rowA encCell 61 k.2.1 k.2.2.1::pt Q (bY #[k.2.1] 29)::pt P (bY #[.slice none 0 0] 29)::s)
   (fun k=>Le g k.1∧k.2.2.2.2≤i∧ay (an k.1) (m5 i++nO i k.2.2.2.2) k.2.2.1) (fun k=>i - k.2.2.2.2)
   (g,ov,T,.slice none 0 0,0) sB rfl rfl ⟨zb9 g,zf7 _,by simpa [nO] using t⟩ ?_
  rintro ⟨g1,G,b,sv,k⟩ ⟨u,hk,f⟩;dsimp only at u hk f ⊢;have U:=f.length;simp only[m5,nO,ze6,ze7,zi5] at U;have b6:=kK i k;refine sQ<|sW I<|lM I<|yL I<|tZ<|iP I (fun V=>?_) (fun V=>?_)
  ·have b9:0≤((k:Int)+1).tmod i∧((k:Int)+1).tmod i<i:=by
    rw[Int.tmod_eq_emod_of_nonneg oM];exact⟨Int.emod_nonneg _ S,Int.emod_lt_of_pos _ oM⟩
   refine kP (tN<|sQ<|bK<|sW I<|yD I<|lU (za3 I<|buildS87 _ _)<|bW (aL zm1) fun b7=>?_);refine oZ (sK 0 aV I I I I I sB)<|tZ (sW I<|yD I<|lM I<|lU (zd9 I I S)<|yD I<|lU (za3 I<|buildS87 _ _)<|bW (aL zm1) fun b8=>?_);refine oZ (sK 0 aV I I I I I sB)<|tZ<|sQ ?_;refine SC.to (fun w hw=>hw) (g':=g1) (s':=pt b8 (bY #[vi<|((k:Int)+1).tmod i+1,vi 1] 87)::pt b7 (bY #[vi<|(k:Int)+1,vi<|-1] 87)::rowA encSide 87 sv (ik i k)::rowA encCell 61 G b::pt Q (bY #[G] 29)::pt P (bY #[.slice none 0 0] 29)::s) ?_;refine rG<|lU (bj dw I cg I)<|lK (qL (v:=G) ei I<|cO 4 I I)<|lM I<|lM I<|yD I<|yD I<|lK (qV 1 iV aV I I I)<|lK (qV 0 iV aV I I I)<|lW (bS sty45 I I I (ab sB) dC) ?_;rintro _ _ _ ⟨y,rfl,rfl,rfl⟩;refine zb5 fun g2 d W=>?_;have z:SlA encSide g2 (.slice (some ⟨y,0,none⟩) 2 2) [⟨(k:Int)+1,-1⟩,⟨((k:Int)+1).tmod i+1,1⟩]:=kb W rfl rfl;refine lU (za3 I<|buildF61 _ _ _ I)<|lW (bS sty27 I I I (ab sB) dC) ?_;rintro _ _ _ ⟨c0,rfl,rfl,rfl⟩;refine lW (aP (e:=encCell) 3 ⟨(i:Int)+k+1,1,⟨some ⟨y,0,none⟩,2,2⟩⟩ sty27 I I I I I oM oM) ?_;rintro v47 _ _ ⟨rfl,rfl⟩;refine zd4 fun ⟨L,c⟩=>?_;obtain ⟨R,d9,rfl⟩:=ag (i:=3) c rfl;clear c L;refine lU (bj dw I cg I)<|oZ (sK 4 cg I I I I I sB)<|tZ<|rG<|lM I<|lM I<|lM I<|yD I<|yD I<|lU (za3 I<|buildS87 _ _)<|lW (bS sty45 I I I (ab sB) dC) ?_;rintro _ _ _ ⟨c1,rfl,rfl,rfl⟩;refine lW (aP (e:=encSide) 2 ⟨(i:Int)+k+1,1⟩ sty45 I I I I I oM oM) ?_;rintro v56 _ _ ⟨rfl,rfl⟩;refine lA I<|cp<|bN<|tN<|rG<|lM I<|yD I<|lA I<|cp<|dR (s':=rowA encSide 87 v56 (ik i k++[⟨(i:Int)+k+1,1⟩])::rowA encCell 61 (.slice R (b++[(⟨(i:Int)+k+1,1,⟨some ⟨y,0,none⟩,2,2⟩⟩:Rc)]).length d9) (b++[⟨(i:Int)+k+1,1,⟨some ⟨y,0,none⟩,2,2⟩⟩])::pt Q (.cells #[.slice R (b++[(⟨(i:Int)+k+1,1,⟨some ⟨y,0,none⟩,2,2⟩⟩:Rc)]).length d9] 29 (0,0))::pt P (bY #[.slice none 0 0] 29)::s) (.cons _<|.cons _<|.refl _) ?_;rw[← A7];refine ct (g2,_,b++[⟨(i:Int)+k+1,1,⟨some ⟨y,0,none⟩,2,2⟩⟩],v56,k+1) sB I I ⟨u.trans d,lN,?_⟩ lN;dsimp only;rw[A8,← zg9];exact (f.mono fun _ _=>an.mono d).append ⟨⟨I,I,z⟩,trivial⟩
  ·have a2:k=i:=oM;subst a2;refine xI (tX<|tX<|bX<|tN<|sQ<|fS fun g2 d a3=>?_);have z:SlA encSide g2 sv<|ik k k:=a3;obtain ⟨qs,ds,rfl⟩:=za4 z;have M:=f.mono fun _ _=>an.mono d;refine rG<|lU (bj dw I cg I)<|lK (qL (v:=G) ei I<|cO 1 I I)<|lM I<|lU (Iz I I oM)<|yD I<|lM I<|lU (za3 I<|buildF61 _ _ _ I)<|lW (bS sty27 I I I (ab sB) dC) ?_;rintro _ _ _ ⟨c2,rfl,rfl,rfl⟩;refine lW (aP (e:=encCell) 0 ⟨2 * (k:Int)+1,2,⟨qs,(ik k k).length,ds⟩⟩ sty27 I I I I I oM oM) ?_;rintro v65 _ _ ⟨rfl,rfl⟩;refine zd4 fun ⟨L,c⟩=>?_;obtain ⟨R,d9,rfl⟩:=ag (i:=0) c rfl;clear c L;refine lU (bj dw I cg I)<|oZ (sK 1 cg I I I I I sB)<|tZ<|sQ<|sW I<|lU (zd9 I I dC)<|yE I<|tZ ?_;have m:ay (an g2) (m5 k++nO k k++[⟨2 * (k:Int)+1,2,ik k k⟩])<|b++[⟨2 * (k:Int)+1,2,⟨qs,(ik k k).length,ds⟩⟩]:=M.append ⟨⟨rfl,rfl,z⟩,trivial⟩;obtain ⟨p,H⟩:∃ p,p=b++[(⟨2 * (k:Int)+1,2,⟨qs,(ik k k).length,ds⟩⟩:Rc)]:=⟨_,rfl⟩;have a4:p.length=b.length+1:=by rw[H];simp
   rw[← H] at m ⊢;have J:=(nW h6).1;refine iP I (fun N=>?_) (fun N=>?_)
   ·have A:fo k=m5 k++nO k k++[⟨2 * (k:Int)+1,2,ik k k⟩]++[⟨2 * (k:Int)+2,2,ik k k⟩]:=by unfold fo;rw[zg2 N]
    refine dW [10,11,12] [(0,2),(1,1),(2,2),(3,2),(4,2),(6,2),(5,0),(7,0),(8,2),(9,0),(10,0),(11,0),(12,0)] ze4 kR<|pU I (bj dw I cg I)<|gB I (qL (v:=.slice R p.length d9) ei I<|cO 1 I I)<|yM I<|pU I (Iz I I oM)<|pU I (aD I I oM)<|yM I<|mf I (bS sty45 I I I (ab trivial) dC) dC (.inr iR) ?_;rintro _ _ _ ⟨a5,rfl,rfl,rfl⟩;refine JJ (fun w hw=>(hw.sublist<|List.Sublist.cons _<|.refl _).emptyRow 87 2<|some ⟨a5,0,none⟩)<|mf I (aQ (e:=encSide) (l:=[]) 0 sty45 I I I z lN lN) dC (.inr iR) ?_;rintro v77 _ _ ⟨rfl,rfl⟩;refine Jb fun a9 B X=>?_;have C:SlA encSide a9 v77<|[]++ik k k:=X;rw[Ix] at C;obtain ⟨Y,d77,rfl⟩:=za4 C;refine pU I (za3 I<|buildF61 _ _ _ I)<|mf I (bS sty27 I I I (ab sB) dC) dC (.inr iR) ?_;rintro _ _ _ ⟨c3,rfl,rfl,rfl⟩;refine mf I (aP (e:=encCell) (l:=p) 0 ⟨2 * (k:Int)+2,2,⟨Y,(ik k k).length,d77⟩⟩ sty27 I I I I I oM oM) dC (.inl dC) ?_;rintro v80 _ _ ⟨rfl,rfl⟩;refine zd3 fun ⟨L,c⟩=>?_;obtain ⟨b0,d10,rfl⟩:=ag (i:=0) c rfl;clear c L;refine oU I (bj dw I cg I) dC (.inl dC)<|H8 I (sK 1 cg I I I I I sB) (.inl dC) ?_;rintro _ _ _ ⟨rfl,rfl⟩;refine du (tN<|sQ<|fS fun D a F=>?_);have O:ai D (.slice b0 (p++[(⟨2 * (k:Int)+2,2,⟨Y,(ik k k).length,d77⟩⟩:Rc)]).length d10)<|fo k:=(by rw[A];exact⟨_,F,(m.mono fun _ _=>an.mono<|B.trans a).append ⟨⟨I,I,C.mono a⟩,trivial⟩⟩);refine rG<|lK (qV 0 aj ae I I I)<|lW (bt call70 I<|co E D _ _ (fo k) O J) ?_;rintro _ g79 _ ⟨rfl,q,b1,rfl,j⟩;obtain ⟨b4,d79,rfl⟩:=j.form;refine oZ (sK 1 ae I I I I I sB) ?_;refine tZ<|rE ?_;exact kn 1 s (.inl I) results67 I aj ae I I uR ⟨I,u.trans<|d.trans<|B.trans<|a.trans q,_,I,j⟩
   ·have A:fo k=m5 k++nO k k++[⟨2 * (k:Int)+1,2,ik k k⟩]:=by unfold fo;rw[zg1 N,zc7]
    refine kP (tN<|sQ<|fS fun D a F=>?_);have O:ai D (.slice R p.length d9)<|fo k:=(by rw[A];exact⟨_,F,m.mono fun _ _=>an.mono a⟩);refine rG<|lK (qV 0 aj ae I I I)<|lW (bt call70 I<|co E D _ _ (fo k) O J) ?_;rintro _ g79 _ ⟨rfl,q,b1,rfl,j⟩;obtain ⟨b4,d79,rfl⟩:=j.form;exact oZ (sK 1 ae I I I I I sB)<|tZ<|rE<|kn 1 s (.inl I) results67 I aj ae I I uR ⟨I,u.trans<|d.trans<|a.trans q,_,I,j⟩
theorem dS (a b:Int)(c:0<b)(d:b≤1000):0≤ci a b∧ci a b<b:=by
 have e:a.tmod b<b:=Int.tmod_lt_of_pos a c;have f : -b<a.tmod b:=by
  have:=Int.lt_tmod_of_pos a c;omega
 unfold ci;rw[zl1 _ oM,Int.tmod_eq_emod_of_nonneg oM];exact⟨Int.emod_nonneg _ oM,Int.emod_lt_of_pos _ c⟩
def BU (y:Int):Int:=1+2 * ci (IntKind.i64.wrap<|y.tdiv 7) 3
def GQ (y:Int):Int:=ci (IntKind.i64.wrap<|y.tdiv 5) 4
def jM (t:Int)(x:Cl):Bool:=decide (t>1)&&decide (x.id.tmod t=1)
def jy (t:Int)(x:Cl)(q:Int):Bool:=(decide (t>1)&&decide (x.dim>1))&&decide (q.tmod t=1)
def wz (b:Bool)(a:Int):Int:=if b then IntKind.i64.wrap (0 - a) else a
def br (k t:Int)(x:Cl)(q:ak):ak:=⟨e8 q.cell k,wz (jy t x q.cell)<|wz (jM t x) q.sign⟩
def aR (k t:Int)(x:Cl):Cl:=⟨e8 x.id k,x.dim,x.sides.map<|br k t x⟩
def Hc (l:List Cl)(y:Int):List Cl:=aa<|l.map<|aR (BU y)<|GQ y
theorem zM {l:List Cl}(h:aM l)(k t:Int):aM<|l.map<|aR k t:=by
 refine⟨by simpa using h.1,fun c hc=>?_⟩;obtain ⟨x,a,rfl⟩:=zf3.1 hc;simpa [aR] using h.2 x a
theorem kQ (v:Value)(l:List Cl)(y:Int)(hv:ai g v l)(hf:aM l) :
  Ctr Tryz.prog E 69 #[.agg #[v],vi y] g s fun r g' s'=>s=s'∧Le g g'∧∃ x,r = .agg #[x]∧ai g' x (Hc l y):=by
 obtain ⟨rs,P,O⟩:=hv;have el:=O.length;obtain ⟨p,c,rfl⟩:=P.form;have c9:=hf.1;have d0:=dS (IntKind.i64.wrap<|y.tdiv 7) 3 dC dC;have b3:=dS (IntKind.i64.wrap<|y.tdiv 5) 4 dC dC;refine zb2 (args:=[.agg #[.slice p rs.length c],vi y]) func69 I ntmps69 (bE I)<|rZ (bW (bO I) fun B=>?_);refine bW (aL zl9) fun C=>tZ<|sW I<|lU (IZ I I dC)<|lW (bt my I<|bL E g _ _ 3 dC) ?_;rintro _ _ _ ⟨rfl,rfl,rfl⟩;refine lU (Iz I I oM)<|yD I<|aT I<|sW I<|lU (IZ I I dC)<|lW (bt my I<|bL E g _ _ 4 dC) ?_;rintro _ _ _ ⟨rfl,rfl,rfl⟩;refine aT I (rZ<|bW (aL zl9) fun D=>?_);refine tZ<|sQ<|rZ<|aT I<|bK<|zb6 61 3 ?_;have b5:1+2 * ci (IntKind.i64.wrap<|y.tdiv 7) 3=BU y:=rfl;have Y:ci (IntKind.i64.wrap<|y.tdiv 5) 4=GQ y:=rfl;rw[Y] at b3;unfold Hc;simp only[b5,Y];generalize BU y=k at *;generalize GQ y=t at *;refine oP (ι:=PH×Value×List Rc×Nat) (fun i=>[(2,pp B 0),(4,pp C 0),(5,vi k),(6,vi t),(7,pp D 0),(8,vi i.2.2.2)]) (fun i=>i.1) (fun i=>rowA encCell 61 i.2.1 i.2.2.1::pt D (bY #[i.2.1] 29)::pt C (bY #[.slice none 0 0] 29)::pt B (bY #[.slice p rs.length c] 29)::s)
  (fun i=>Le g i.1∧i.2.2.2≤rs.length∧ay (an i.1) ((l.take i.2.2.2).map<|aR k t) i.2.2.1) (fun i=>rs.length - i.2.2.2)
  (g,.slice none 0 0,[],0) sB rfl rfl ⟨zb9 g,zf7 _,trivial⟩ ?_
 rintro ⟨g1,A,d,i⟩ ⟨H,hi,m⟩;dsimp only at H hi m ⊢;have b6:=m.length;rw[ze7,ze5] at b6;refine sQ<|sW I<|lU (bj dw I cg I)<|lK (qL (v:=.slice p rs.length c) ei I<|cO 3 I I)<|lU (eN aB I)<|yL I<|tZ<|iP I (fun b8=>?_) (fun b8=>?_)
 ·have Q:i<l.length:=oM;have Z:i<rs.length:=oM;have c0:=P.based oM;have c1:=(O.get (bd Q)<|bd Z).mono H;have a0:rs[((i:Nat):Int).toNat]?=some rs[i]:=bd Z;have R:=il Q<|aR k t;have d1:=hf.2 _<|gM Q;generalize d2:l[i]=x at *;obtain ⟨J,a,c2,M⟩:=cG c1;rw[c2] at a0;refine kP (tN<|sQ<|bK<|rZ<|lU (bj dw I cg I)<|lK (qL (v:=.slice p rs.length c) ei I<|cO 3 I I)<|lM I<|lU (iA aB ar I I c0 oM sL)<|lK (iN dT ar I (P.mono H).rd a0)<|bW (aL zl6) fun G=>?_);refine oZ (sK 0 ar I I I I I sB)<|tZ<|SC.to (fun w hw=>hw) (g':=g1) (s':=pt G (bY #[vi x.id,vi x.dim,.slice J x.sides.length a] 61)::rowA encCell 61 A d::pt D (bY #[A] 29)::pt C (bY #[.slice none 0 0] 29)::pt B (bY #[.slice p rs.length c] 29)::s) ?_;refine lu (ι:=Nat) (fun b=>[(2,pp B 0),(4,pp C 0),(5,vi k),(6,vi t),(7,pp D 0),(8,vi i),(9,pp G 0),(10,pp b 0)]) (fun _=>g1) (fun b=>pt b (bY #[vi<|e8 x.id k,vi x.dim,.slice none 0 0] 61)::pt G (bY #[vi x.id,vi x.dim,.slice J x.sides.length a] 61)::rowA encCell 61 A d::pt D (bY #[A] 29)::pt C (bY #[.slice none 0 0] 29)::pt B (bY #[.slice p rs.length c] 29)::s) (fun _=>True) ?_ ?_
  ·refine C1 [] ze4 kR ?_;refine iO (i:=0) I kR (bj ap I zT3 I) dC<|Ie (i:=1) I kR (qL (v:=vi x.id) iT3 I<|cO 0 I I) dC<|iO (i:=2) I kR (mV I) dC<|iO (i:=4) I kR (bj ap I zT3 I) dC<|Ie (i:=5) I kR (qL (v:=vi x.dim) iT3 I<|cO 0 I I) dC ?_
   repeat' (first
    | (refine SB.o (i:=3) I (bt call112 I<|kW E g1 _ x.id k) dC (.inr iR) ?_;rintro _ _ _ ⟨rfl,rfl,rfl⟩;refine iO (i:=6) I kD (za3 I<|buildC61 _ _) dC ?_)
    | (refine SB.o (i:=3) I (bt call112 I<|kW E g1 _ x.id k) dC (.inr iR) ?_;rintro _ _ _ ⟨rfl,rfl,rfl⟩;refine iO (i:=6) I kD (za3 I<|buildC61 _ _) dC ?_)
    | (refine SB.o (i:=7) I (aL zl6) dC (.inr iR) ?_;rintro _ _ _ ⟨b,rfl,rfl,rfl⟩)
    | (refine SB.on (i:=8) I (sK 0 ar I I I I I sB) (.inr iR) ?_;rintro _ _ _ ⟨rfl,rfl⟩)
    | refine zd8 3 7 kD ?_ ?_
    | refine zd7 7 kD ?_
    | refine zd7 8 kD ?_
    | refine zd7 3 kD ?_
    | (refine H5 kD ?_;exact za9 b sB I I trivial))
  rintro b -;try dsimp only
  refine zb6 87 2<|sQ<|rZ<|aT I<|bK<|oP (ι:=Value×Nat) (fun j=>[(2,pp B 0),(4,pp C 0),(5,vi k),(6,vi t),(7,pp D 0),(8,vi i),(9,pp G 0),(10,pp b 0),(11,vi j.2)]) (fun _=>g1) (fun j=>rowA encSide 87 j.1 ((x.sides.take j.2).map<|br k t x)::pt b (bY #[vi<|e8 x.id k,vi x.dim,j.1] 61)::pt G (bY #[vi x.id,vi x.dim,.slice J x.sides.length a] 61)::rowA encCell 61 A d::pt D (bY #[A] 29)::pt C (bY #[.slice none 0 0] 29)::pt B (bY #[.slice p rs.length c] 29)::s)
   (fun j=>j.2≤x.sides.length) (fun j=>x.sides.length - j.2) (.slice none 0 0,0) sB rfl rfl (zf7 _) ?_
  rintro ⟨sv,j⟩ hj;dsimp only at hj ⊢;refine sQ<|sW I<|lU (bj ap I aI I)<|lK (qL (v:=.slice J x.sides.length a) bg I<|cO 2 I I)<|lU (eN aW I)<|yL I<|tZ<|iP I (fun a1=>?_) (fun a1=>?_)
  ·have a2:j<x.sides.length:=oM;have F:=M.based oM;have S:x.sides[((j:Nat):Int).toNat]?=some x.sides[j]:=bd a2;have a3:=il a2<|br k t x;generalize x.sides[j]=z at *;refine kP<|tN<|sQ<|bK<|lu (ι:=Nat) (fun f=>[(2,pp B 0),(4,pp C 0),(5,vi k),(6,vi t),(7,pp D 0),(8,vi i),(9,pp G 0),(10,pp b 0),(11,vi j),(12,pp f 0)]) (fun _=>g1) (fun f=>pt f (bY #[vi<|e8 z.cell k,vi z.sign] 87)::rowA encSide 87 sv ((x.sides.take j).map<|br k t x)::pt b (bY #[vi<|e8 x.id k,vi x.dim,sv] 61)::pt G (bY #[vi x.id,vi x.dim,.slice J x.sides.length a] 61)::rowA encCell 61 A d::pt D (bY #[A] 29)::pt C (bY #[.slice none 0 0] 29)::pt B (bY #[.slice p rs.length c] 29)::s) (fun _=>True) ?_ ?_
   ·refine C1 [] ze4 kR ?_;refine iO (i:=0) I kR (bj ap I aI I) dC<|Ie (i:=1) I kR (qL (v:=.slice J x.sides.length a) bg I<|cO 2 I I) dC<|iO (i:=2) I kR (mV I) dC<|iO (i:=3) I kR (iA aW aV I I F oM sL) dC<|iO (i:=4) I kR (fC dh I zT3 I F) dC<|Ie (i:=5) I kR (aZ (e:=encSide) (o:=0) (u:=vi z.cell) iT3 I M.rd S I) dC<|iO (i:=6) I kR (mV I) dC<|iO (i:=8) I kR (bj ap I aI I) dC<|Ie (i:=9) I kR (qL (v:=.slice J x.sides.length a) bg I<|cO 2 I I) dC<|iO (i:=10) I kR (mV I) dC<|iO (i:=11) I kR (iA aW aV I I F oM sL) dC<|iO (i:=12) I kR (fC dh I zT3 I F) dC<|Ie (i:=13) I kR (aZ (e:=encSide) (o:=1) (u:=vi z.sign) iT3 I M.rd S I) dC ?_
    repeat' (first
     | (refine SB.o (i:=7) I (bt call112 I<|kW E g1 _ z.cell k) dC (.inr iR) ?_;rintro _ _ _ ⟨rfl,rfl,rfl⟩;refine iO (i:=14) I kD (za3 I<|buildS87 _ _) dC ?_)
     | (refine SB.o (i:=7) I (bt call112 I<|kW E g1 _ z.cell k) dC (.inr iR) ?_;rintro _ _ _ ⟨rfl,rfl,rfl⟩;refine iO (i:=14) I kD (za3 I<|buildS87 _ _) dC ?_)
     | (refine SB.o (i:=15) I (aL zm1) dC (.inr iR) ?_;rintro _ _ _ ⟨f,rfl,rfl,rfl⟩)
     | (refine SB.on (i:=16) I (sK 0 aV I I I I I sB) (.inr iR) ?_;rintro _ _ _ ⟨rfl,rfl⟩)
     | refine zd8 7 15 kD ?_ ?_
     | refine zd7 15 kD ?_
     | refine zd7 16 kD ?_
     | refine zd7 7 kD ?_
     | (refine H5 kD ?_;exact za9 f sB I I trivial))
   rintro f -;try dsimp only
   have e1:t>1→jM t x=decide (x.id.tmod t=1):=fun h=>by simp[jM,h]
   have e2:¬ t>1→jM t x=false:=fun h=>by simp only[jM,h,decide_false,Bool.false_and]
   have e3:t>1→x.dim>1→jy t x z.cell=decide (z.cell.tmod t=1):=fun h h'=>by simp[jy,h,h']
   have e4:t>1→¬ x.dim>1→jy t x z.cell=false:=fun h h'=>by simp only[jy,h',decide_false,Bool.and_false,Bool.false_and]
   have e5:¬ t>1→jy t x z.cell=false:=fun h=>by simp only[jy,h,decide_false,Bool.false_and]
   refine lu (ι:=Int) (fun _=>[(2,pp B 0),(4,pp C 0),(5,vi k),(6,vi t),(7,pp D 0),(8,vi i),(9,pp G 0),(10,pp b 0),(11,vi j),(12,pp f 0)]) (fun _=>g1) (fun sg=>pt f (bY #[vi<|e8 z.cell k,vi sg] 87)::rowA encSide 87 sv ((x.sides.take j).map<|br k t x)::pt b (bY #[vi<|e8 x.id k,vi x.dim,sv] 61)::pt G (bY #[vi x.id,vi x.dim,.slice J x.sides.length a] 61)::rowA encCell 61 A d::pt D (bY #[A] 29)::pt C (bY #[.slice none 0 0] 29)::pt B (bY #[.slice p rs.length c] 29)::s) (fun sg=>sg=wz (jM t x) z.sign) ?_ ?_
   ·refine BY 69 ((jM t x)) ?_ ?_
    ·refine rG<|lM I<|lU (gR I I)<|lM I<|sP ?_ ?_
     ·intro T;refine lY I I I (bj ap I zT3 I)<|lR (gT I I I dC) (qL (v:=vi x.id) iT3 I<|cO 3 I I) dC<|yC I<|IQ (gT I I I dC) (bt call113 I<|qh E g1 _ x.id t oM) dC ?_;rintro _ _ _ ⟨rfl,rfl,rfl⟩;exact yP I<|cp<|zb1 (by (rw[e1 T];rfl)) mI
     ·intro T;exact yA I<|yA I<|yA I<|yA I<|yF I<|cp<|zb1 (by (rw[e2 T];rfl)) mI
    refine iQ I (fun U=>?_) (fun U=>?_)
    ·refine rG<|lU (bj dh rfl zT3 rfl)<|lK (qL (v:=vi z.sign) iT3 rfl<|cO 0 rfl rfl)<|lU (SU.neg rfl)<|lU (bj dh rfl zT3 rfl)<|oZ (oi 0 zT3 rfl rfl rfl rfl (bE rfl)<|by rfl) ?_;refine cp ?_;exact za9 (IntKind.i64.wrap<|0 - z.sign) sB I I (by rw[U];rfl)
    ·exact kP<|za9 z.sign sB I I (by rw[U];rfl)
   rintro s1 c3;try dsimp only
   refine lu (ι:=Int) (fun _=>[(2,pp B 0),(4,pp C 0),(5,vi k),(6,vi t),(7,pp D 0),(8,vi i),(9,pp G 0),(10,pp b 0),(11,vi j),(12,pp f 0)]) (fun _=>g1) (fun sg=>pt f (bY #[vi<|e8 z.cell k,vi sg] 87)::rowA encSide 87 sv ((x.sides.take j).map<|br k t x)::pt b (bY #[vi<|e8 x.id k,vi x.dim,sv] 61)::pt G (bY #[vi x.id,vi x.dim,.slice J x.sides.length a] 61)::rowA encCell 61 A d::pt D (bY #[A] 29)::pt C (bY #[.slice none 0 0] 29)::pt B (bY #[.slice p rs.length c] 29)::s) (fun sg=>sg=wz (jy t x z.cell) s1) ?_ ?_
   ·refine BY 90 ((jy t x z.cell)) ?_ ?_
    ·refine rG<|lM I<|lU (gR I I)<|lM I<|sP ?_ ?_
     ·intro N;refine lY I I I (bj ap I zT3 I)<|lR (gT I I I dC) (qL (v:=vi x.dim) iT3 I<|cO 3 I I) dC<|lY I I I (gR I I)<|yP I<|lM I<|sP ?_ ?_
      ·intro V;refine lY I I I (bj ap I aI I)<|lR (gT I I I dC) (qL (v:=.slice J x.sides.length a) bg I<|cO 3 I I) dC<|yC I<|lY I I I (iA aW aV I I F oM sL)<|lY I I I (fC dh I zT3 I F)<|lR (gT I I I dC) (aZ (e:=encSide) (o:=0) (u:=vi z.cell) iT3 I M.rd S I) dC<|yC I<|IQ (gT I I I dC) (bt call113 I<|qh E g1 _ z.cell t oM) dC ?_;rintro _ _ _ ⟨rfl,rfl,rfl⟩;exact yP I<|cp<|zb1 (by (rw[e3 N V];rfl)) mI
      ·intro V;exact yA I<|yA I<|yA I<|yA I<|yA I<|yA I<|yA I<|yA I<|yF I<|cp<|zb1 (by (rw[e4 N V];rfl)) mI
     ·intro N;exact yA I<|yA I<|yA I<|yF I<|lM I<|yA I<|yA I<|yA I<|yA I<|yA I<|yA I<|yA I<|yA I<|yF I<|cp<|zb1 (by (rw[e5 N];rfl)) mI
    refine iQ I (fun W=>?_) (fun W=>?_)
    ·refine rG<|lU (bj dh rfl zT3 rfl)<|lK (qL (v:=vi s1) iT3 rfl<|cO 0 rfl rfl)<|lU (SU.neg rfl)<|lU (bj dh rfl zT3 rfl)<|oZ (oi 0 zT3 rfl rfl rfl rfl (bE rfl)<|by rfl) ?_;refine cp ?_;exact za9 (IntKind.i64.wrap<|0 - s1) sB I I (by rw[W];rfl)
    ·exact kP<|za9 s1 sB I I (by rw[W];rfl)
   rintro s2 K;try dsimp only
   have c4:br k t x z=⟨e8 z.cell k,s2⟩:=by unfold br;rw[K,c3]
   rw[c4] at a3;have d4:((x.sides.take j).map<|br k t x).length=j:=by rw[ze7,ze5];omega
   refine rG<|lU (bj ap I aI I)<|lK (qL (v:=sv) bg I<|cO 2 I I)<|lK (qV 0 iV aV I I I)<|lW (bS sty45 I I I (ab sB) dC) ?_;rintro _ _ _ ⟨d5,rfl,rfl,rfl⟩;refine lW (aP (e:=encSide) 1 ⟨e8 z.cell k,s2⟩ sty45 I I I I I oM oM) ?_;rintro sv' _ _ ⟨rfl,rfl⟩;rw[← a3];refine zd4 fun ⟨w0,L⟩=>?_;obtain ⟨q6,d6,rfl⟩:=ag (i:=1) L rfl;clear L w0;refine lU (bj ap rfl aI rfl)<|oZ (oi 2 aI rfl rfl rfl rfl (bE rfl)<|by rfl) ?_;refine cp<|bN<|tN<|rG<|lM I<|yD I<|lA I<|cp<|dR (s':=rowA encSide 87 (.slice q6 ((x.sides.take<|j+1).map<|br k t x).length d6) ((x.sides.take<|j+1).map<|br k t x)::pt b (bY #[vi<|e8 x.id k,vi x.dim,(.slice q6 ((x.sides.take<|j+1).map<|br k t x).length d6)] 61)::pt G (bY #[vi x.id,vi x.dim,.slice J x.sides.length a] 61)::rowA encCell 61 A d::pt D (bY #[A] 29)::pt C (bY #[.slice none 0 0] 29)::pt B (bY #[.slice p rs.length c] 29)::s) (.cons _<|.refl _) ?_;exact ct (_,j+1) sB I I lN lN
  ·have c5:x.sides.take j=x.sides:=tL oM;rw[c5];refine xI (tX<|tX<|bX<|tN<|fS fun g2 n K=>?_);have a4:SlA encSide g2 sv<|x.sides.map<|br k t x:=K;obtain ⟨q8,d8,rfl⟩:=za4 a4;obtain ⟨X,a5⟩:∃ X:Rc,X=⟨e8 x.id k,x.dim,⟨q8,(x.sides.map<|br k t x).length,d8⟩⟩:=⟨_,rfl⟩;refine rG<|lU (bj dw I cg I)<|lK (qL (v:=A) ei I<|cO 3 I I)<|lK (qV 0 dT ar I I I)<|lW (bS sty27 I I I (ab sB) dC) ?_;rintro _ _ _ ⟨c7,rfl,rfl,rfl⟩;refine lW (aP (e:=encCell) 2 X sty27 I I I I (by rw[a5];rfl) oM oM) ?_;rintro v105 _ _ ⟨rfl,rfl⟩;refine zd4 fun ⟨w0,L⟩=>?_;obtain ⟨q9,d9,rfl⟩:=ag (i:=2) L rfl;clear L w0;refine lU (bj dw I cg I)<|oZ (sK 3 cg I I I I I sB)<|cp<|bN<|tN<|rG<|lM I<|yD I<|lA I<|cp<|dR (s':=rowA encCell 61 (.slice q9 (d++[X]).length d9) (d++[X])::pt D (.cells #[(.slice q9 (d++[X]).length d9)] 29 (0,0))::pt C (bY #[.slice none 0 0] 29)::pt B (bY #[.slice p rs.length c] 29)::s) (.cons _<|.cons _<|.refl _)<|ct (g2,_,d++[X],i+1) sB I I ⟨H.trans n,lN,?_⟩ lN;dsimp only;rw[R];exact (m.mono fun _ _=>an.mono n).append ⟨(by rw[a5];exact⟨I,I,a4⟩),trivial⟩
 ·have c6:l.take i=l:=tL oM;rw[c6] at m;refine xI (tX<|tX<|bX<|tN<|sQ<|fS fun g2 n K=>?_);have a9:ai g2 A<|l.map<|aR k t:=⟨d,K,m.mono fun _ _=>an.mono n⟩;obtain ⟨qo,d7,rfl⟩:=a9.form;refine rG<|lK (qV 0 aj ae I I I)<|lW (bt call70 I<|co E g2 _ _ _ a9<|zM hf k t) ?_;rintro _ g3 _ ⟨rfl,b0,x3,rfl,b1⟩;obtain ⟨q3,d3,rfl⟩:=b1.form;exact oZ (sK 1 ae I I I I I sB)<|tZ<|rE<|kn 1 s (.inl I) results69 I aj ae I I uR ⟨I,H.trans<|n.trans b0,_,I,b1⟩
def xU (j:Int):List<|List Int:=if j=0 then [[0,1]] else if j=1 then [[0,1],[1,2]] else [[0,1],[1,2],[0,2]]
def Hb (j:Int)(a b c:Value):Value:=if j=0 then a else if j=1 then b else c
theorem zK {j:Int}(h:0≤j∧j<3)(a b c:Value) : #[a,b,c][0+j.toNat * 1]?=some (Hb j a b c):=by
 rcases (by omega:j=0∨j=1∨j=2) with rfl | rfl | rfl <;> rfl
theorem qi {g:PH}{j:Int}(h:0≤j∧j<3){a b c:Value}(d:dn g a [[0,1]])(hb:dn g b [[0,1],[1,2]])(hc:dn g c [[0,1],[1,2],[0,2]]):dn g (Hb j a b c)<|xU j:=by
 rcases (by omega:j=0∨j=1∨j=2) with rfl | rfl | rfl
 ·exact d
 ·exact hb
 ·exact hc
theorem jB (j:Int):(xU j).length≤3∧∀ x∈xU j,x.length≤2:=by
 unfold xU;split
 ·exact⟨by decide,by decide⟩
 ·split
  ·exact⟨by decide,by decide⟩
  ·exact⟨by decide,by decide⟩
theorem AL (y:Int):4≤(nM y).length∧(nM y).length≤14∧∀ x∈nM y,x.length≤3:=by
 unfold nM;split
 ·exact⟨by decide,by decide,by decide⟩
 ·split
  ·exact⟨by decide,by decide,by decide⟩
  ·refine⟨by rw[kH];decide,by rw[kH];decide,fun x a=>?_⟩;obtain ⟨i,_,a⟩:=List.mem_flatMap.1 a;simp at a
   rcases a with rfl | rfl <;> simp
def o5 (m:Int)(ls:List<|List Int)(y:Int):List Cl :=
 if m=3 then dJ (nM y) else if m=4 then dp (dJ<|xU<|ci y 3) (dJ<|xU<|ci (IntKind.i64.wrap<|y.tdiv 3) 3)
 else if m=5 then yr (2+ci y 5).toNat else if m=6 then dp (dp (dJ [[0,1]])<|dJ [[0,1]]) (dJ [[0,1]])
 else if m=7 then dJ (oX ls++(nM y).take (2+ci y 2).toNat) else dJ<|oX ls
theorem s6 (m:Int)(ls:List<|List Int)(y:Int):aM<|o5 m ls y:=by
 unfold o5;have a:=dS y 5 dC dC
 repeat' split
 ·exact (eV _).1
 ·exact (fE _ _).1
 ·exact aF (nW oM).1
 ·exact (fE _ _).1
 ·exact (eV _).1
 ·exact (eV _).1
def ry (b:List Cl):List Cl:=if (b.length:Int)>45 then rf else b
def ke (kd:Int)(ls:List<|List Int)(y:Int):List Cl:=Hc (ry<|o5 (ci kd 8) ls y) y
theorem DX {b:List Cl}(h:aM b):aM<|ry b:=by
 unfold ry;split
 ·exact (fE _ _).1
 ·exact h
theorem sn (a:Int)(ls:List<|List Int)(y:Int):aM<|ke a ls y:=aF<|zM (DX<|s6 _ _ _) _ _
theorem Tryz.build109 (a:Option Addr)(b c1:Nat)(c:Option Addr)(d c2:Nat)(e:Option Addr)(f g:Nat)(w:World):(Instr.build 109 #[(0,.slice a b c1),(1,.slice c d c2),(2,.slice e f g)]).run Tryz.prog w = .ok (.agg #[.slice a b c1,.slice c d c2,.slice e f g]) w:=by
 have hz:(Value.agg #[Value.slice none 0 0,Value.slice none 0 0,Value.slice none 0 0]).cells = #[.slice none 0 0,.slice none 0 0,.slice none 0 0]:=rfl;have i:(Value.slice a b c1).cells = #[.slice a b c1]:=rfl;have j:(Value.slice c d c2).cells = #[.slice c d c2]:=rfl;have k:(Value.slice e f g).cells = #[.slice e f g]:=rfl;simp[Instr.build,Instr.fill,hz,i,j,k]
theorem Dv (v:Value)(k y:Int)(ls:List<|List Int)(hv:dn g v ls) :
  Ctr Tryz.prog E 17 #[.agg #[vi k,v,vi y]] g s fun r g' s'=>s=s'∧Le g g'∧∃ x,r = .agg #[x]∧ai g' x (ke k ls y):=by
 obtain ⟨p,n,c,rfl⟩:∃ p n c,v = .slice p n c:=by
  obtain ⟨h5,b4,_⟩:=hv;obtain ⟨p,c,rfl⟩:=za4 b4;exact⟨_,_,_,I⟩
 have h6:=dS k 8 dC dC;have b7:=dS y 3 dC dC;have a5:=dS (IntKind.i64.wrap<|y.tdiv 3) 3 dC dC;have h7:=dS y 5 dC dC;have h8:=dS y 2 dC dC;have a0:=AS ls;have b8:=AL y;unfold ke;have b9:=s6 (ci k 8) ls y;refine zb2 (args:=[.agg #[vi k,.slice p n c,vi y]]) func17 I ntmps17 (bE I)<|rZ (bW (bO I) fun b1=>?_);refine bW (aL zl9) fun b2=>tZ (rZ<|bW (aL zl9) fun b3=>?_);refine tZ (SC.to (fun w hw=>hw) (g':=g) (s':=pt b3 (bY #[.slice none 0 0] 29)::pt b2 (bY #[.slice none 0 0] 29)::pt b1 (bY #[vi k,.slice p n c,vi y] 24)::s)<|lu (ι:=PH×Value) (fun _=>[(1,pp b1 0),(2,pp b2 0),(3,pp b3 0)]) (fun i=>i.1) (fun i=>pt b3 (bY #[i.2] 29)::pt b2 (bY #[.slice none 0 0] 29)::pt b1 (bY #[vi k,.slice p n c,vi y] 24)::s) (fun i=>Le g i.1∧ai i.1 i.2 (o5 (ci k 8) ls y)) ?_ ?_)
 ·rcases (by omega:(ci k 8=0∨ci k 8=1∨ci k 8=2)∨ci k 8=3∨ci k 8=4∨ci k 8=5∨ci k 8=6∨ci k 8=7) with (hm | hm | hm) | hm | hm | hm | hm | hm
  ·refine rZ<|lU (bj ne I zT3 I)<|lK (qL (v:=vi k) iT3 I<|cO 2 I I)<|lW (bt my I<|bL E g _ _ 8 dC) ?_;rintro _ _ _ ⟨rfl,rfl,rfl⟩;rw[hm];refine tZ<|bK<|sQ<|rZ<|yE I<|aT I<|za2 I<|kP<|tN<|za2 I<|rG<|lU (bj ne I sizeOf22 I)<|lK (qL (v:=.slice p n c) isAgg22 I<|cO 2 I I)<|lW (bt call64 I<|mF E g _ _ ls hv) ?_;rintro v16 g1 _ ⟨S,rfl,f,j⟩;refine zd6 fun g2 b V=>?_;have F:dn g2 v16<|oX ls:=⟨S,V,j.mono fun _ _=>ep.mono b⟩;refine lW (bt call63 I<|a6 E g2 _ _ _ F oM fun x T=>by have:=a0.2 x T;omega) ?_;rintro _ g3 _ ⟨rfl,a,u,rfl,G⟩;obtain ⟨q,d,rfl⟩:=G.form;exact oZ (sK 0 ae I I I I I sB)<|cp<|bN<|za9 (g3,_) sB I I ⟨f.trans<|b.trans a,G⟩
  ·refine rZ<|lU (bj ne I zT3 I)<|lK (qL (v:=vi k) iT3 I<|cO 2 I I)<|lW (bt my I<|bL E g _ _ 8 dC) ?_;rintro _ _ _ ⟨rfl,rfl,rfl⟩;rw[hm];refine tZ<|bK<|sQ<|rZ<|yE I<|aT I<|za1 I<|rZ<|yE I<|aT I<|za2 I<|kP<|tN<|za2 I<|rG<|lU (bj ne I sizeOf22 I)<|lK (qL (v:=.slice p n c) isAgg22 I<|cO 2 I I)<|lW (bt call64 I<|mF E g _ _ ls hv) ?_;rintro v16 g1 _ ⟨S,rfl,f,j⟩;refine zd6 fun g2 b V=>?_;have F:dn g2 v16<|oX ls:=⟨S,V,j.mono fun _ _=>ep.mono b⟩;refine lW (bt call63 I<|a6 E g2 _ _ _ F oM fun x T=>by have:=a0.2 x T;omega) ?_;rintro _ g3 _ ⟨rfl,a,u,rfl,G⟩;obtain ⟨q,d,rfl⟩:=G.form;exact oZ (sK 0 ae I I I I I sB)<|cp<|bN<|za9 (g3,_) sB I I ⟨f.trans<|b.trans a,G⟩
  ·refine rZ<|lU (bj ne I zT3 I)<|lK (qL (v:=vi k) iT3 I<|cO 2 I I)<|lW (bt my I<|bL E g _ _ 8 dC) ?_;rintro _ _ _ ⟨rfl,rfl,rfl⟩;rw[hm];refine tZ<|bK<|sQ<|rZ<|yE I<|aT I<|za1 I<|rZ<|yE I<|aT I<|za1 I<|rG<|yE I<|aT I<|za2 I<|rG<|lU (bj ne I sizeOf22 I)<|lK (qL (v:=.slice p n c) isAgg22 I<|cO 2 I I)<|lW (bt call64 I<|mF E g _ _ ls hv) ?_;rintro v16 g1 _ ⟨S,rfl,f,j⟩;refine zd6 fun g2 b V=>?_;have F:dn g2 v16<|oX ls:=⟨S,V,j.mono fun _ _=>ep.mono b⟩;refine lW (bt call63 I<|a6 E g2 _ _ _ F oM fun x T=>by have:=a0.2 x T;omega) ?_;rintro _ g3 _ ⟨rfl,a,u,rfl,G⟩;obtain ⟨q,d,rfl⟩:=G.form;exact oZ (sK 0 ae I I I I I sB)<|cp<|bN<|za9 (g3,_) sB I I ⟨f.trans<|b.trans a,G⟩
  ·refine rZ<|lU (bj ne I zT3 I)<|lK (qL (v:=vi k) iT3 I<|cO 2 I I)<|lW (bt my I<|bL E g _ _ 8 dC) ?_;rintro _ _ _ ⟨rfl,rfl,rfl⟩;rw[hm];refine tZ<|bK<|sQ<|rZ<|yE I<|aT I<|za1 I<|rZ<|yE I<|aT I<|za1 I<|rG<|yE I<|aT I<|za1 I<|rZ<|yE I<|aT I<|za2 I<|rG<|lU (bj ne I zT3 I)<|lK (qL (v:=vi y) iT3 I<|cO 2 I I)<|lW (bt call65 I<|nU E g _ y) ?_;rintro v22 g1 _ ⟨rfl,f,F⟩;refine lW (bt call63 I<|a6 E g1 _ _ _ F oM fun x T=>by have:=b8.2.2 x T;omega) ?_;rintro _ g3 _ ⟨rfl,a,u,rfl,G⟩;obtain ⟨q,d,rfl⟩:=G.form;exact oZ (sK 0 ae I I I I I sB)<|cp<|bN<|za9 (g3,_) sB I I ⟨f.trans a,G⟩
  ·refine rZ<|lU (bj ne I zT3 I)<|lK (qL (v:=vi k) iT3 I<|cO 2 I I)<|lW (bt my I<|bL E g _ _ 8 dC) ?_;rintro _ _ _ ⟨rfl,rfl,rfl⟩;rw[hm];refine tZ<|bK<|sQ<|rZ<|yE I<|aT I<|za1 I<|rZ<|yE I<|aT I<|za1 I<|rG<|yE I<|aT I<|za1 I<|rZ<|yE I<|aT I<|za1 I<|rZ<|yE I<|aT I<|za2 I<|rZ<|lU (bj ne I zT3 I)<|lK (qL (v:=vi y) iT3 I<|cO 2 I I)<|lW (bt my I<|bL E g _ _ 3 dC) ?_;rintro _ _ _ ⟨rfl,rfl,rfl⟩;refine aT I<|rZ<|lW (bS sty43 I I I (ab sB) dC) ?_;rintro _ _ _ ⟨d6,rfl,rfl,rfl⟩;refine zb5 fun g1 f c0=>?_;refine lW (bS sty22 I I I (ab ⟨I,trivial⟩) dC) ?_;rintro _ _ _ ⟨a1,rfl,rfl,rfl⟩;refine zb5 fun g2 b c1=>?_;have P:dn g2 (.slice (some ⟨a1,0,none⟩) 1 1) [[0,1]]:=⟨[jQ<|.slice (some ⟨d6,0,none⟩) 2 2],kb c1 rfl rfl,⟨kb (b _ _ c0) rfl rfl,trivial⟩⟩;refine lW (bS sty43 I I I (ab sB) dC) ?_;rintro _ _ _ ⟨d7,rfl,rfl,rfl⟩;refine zb5 fun g3 a c2=>?_;refine lW (bS sty43 I I I (ab sB) dC) ?_;rintro _ _ _ ⟨d8,rfl,rfl,rfl⟩;refine zb5 fun g4 z c3=>?_;refine lW (bS sty22 I I I (ab sB) dC) ?_;rintro _ _ _ ⟨a2,rfl,rfl,rfl⟩;refine zb5 fun g5 H c4=>?_;have Q:dn g5 (.slice (some ⟨a2,0,none⟩) 2 2) [[0,1],[1,2]]:=⟨[jQ<|.slice (some ⟨d7,0,none⟩) 2 2,jQ<|.slice (some ⟨d8,0,none⟩) 2 2],kb c4 rfl rfl,⟨kb (H _ _<|z _ _ c2) rfl rfl,kb (H _ _ c3) rfl rfl,trivial⟩⟩;refine lW (bS sty43 I I I (ab sB) dC) ?_;rintro _ _ _ ⟨d9,rfl,rfl,rfl⟩;refine zb5 fun g6 J c5=>?_;refine lW (bS sty43 I I I (ab sB) dC) ?_;rintro _ _ _ ⟨e0,rfl,rfl,rfl⟩;refine zb5 fun g7 D c6=>?_;refine lW (bS sty43 I I I (ab sB) dC) ?_;rintro _ _ _ ⟨e1,rfl,rfl,rfl⟩;refine zb5 fun g8 A c7=>?_;refine lW (bS sty22 I I I (ab sB) dC) ?_;rintro _ _ _ ⟨a3,rfl,rfl,rfl⟩;refine zb5 fun g9 t c9=>?_;have R:dn g9 (.slice (some ⟨a3,0,none⟩) 3 3) [[0,1],[1,2],[0,2]]:=⟨[jQ<|.slice (some ⟨d9,0,none⟩) 2 2,jQ<|.slice (some ⟨e0,0,none⟩) 2 2,jQ<|.slice (some ⟨e1,0,none⟩) 2 2],kb c9 rfl rfl,⟨kb (t _ _<|A _ _<|D _ _ c5) rfl rfl,kb (t _ _<|A _ _ c6) rfl rfl,kb (t _ _ c7) rfl rfl,trivial⟩⟩;refine lU (za3 I<|build109 _ _ _ _ _ _ _ _ _) (bW (aL zeroValue109) fun b5=>?_);refine oZ (sK 0 sizeOf109 I I I I I sB)<|tZ ?_;have e2:=qi b7 (P.mono<|a.trans<|z.trans<|H.trans<|J.trans<|D.trans<|A.trans t) (Q.mono<|J.trans<|D.trans<|A.trans t) R;have e4:=qi a5 (P.mono<|a.trans<|z.trans<|H.trans<|J.trans<|D.trans<|A.trans t) (Q.mono<|J.trans<|D.trans<|A.trans t) R;refine SC.to (fun w hw=>hw) (g':=g9) (s':=pt b5 (bY #[.slice (some ⟨a1,0,none⟩) 1 1,.slice (some ⟨a2,0,none⟩) 2 2,.slice (some ⟨a3,0,none⟩) 3 3] 109)::pt b3 (bY #[.slice none 0 0] 29)::pt b2 (bY #[.slice none 0 0] 29)::pt b1 (bY #[vi k,.slice p n c,vi y] 24)::s) ?_;refine dW [12] [(0,2),(1,2),(2,1),(4,2),(5,1),(6,2),(3,0),(7,0),(8,2),(9,1),(10,0),(11,0),(12,0)] ze4 kR<|yM I<|pU I (iB underlying109 sizeOf22 I I oM oM)<|gB I (qL (v:=Hb (ci y 3) (.slice (some ⟨a1,0,none⟩) 1 1) (.slice (some ⟨a2,0,none⟩) 2 2)<|.slice (some ⟨a3,0,none⟩) 3 3) isAgg22 I<|cO 0 I<|zK b7 _ _ _)<|pU I (bj ne I zT3 I)<|gB I (qL (v:=vi y) iT3 I<|cO 3 I I)<|pU I (IZ I I dC)<|mf I (bt call63 I<|a6 E g9 _ _ _ e2 (by have:=(jB<|ci y 3).1;omega) fun x T=>by have:=(jB<|ci y 3).2 x T;omega) dC (.inr iR) ?_;rintro _ ga _ ⟨rfl,L,ua,rfl,N⟩;obtain ⟨qa,da,rfl⟩:=N.form;refine mf I (bt my I<|bL E ga _ _ 3 dC) dC (.inr iR) ?_;rintro _ _ _ ⟨rfl,rfl,rfl⟩;refine pU I (iB underlying109 sizeOf22 I I oM oM)<|gB I (qL (v:=Hb (ci (IntKind.i64.wrap<|y.tdiv 3) 3) (.slice (some ⟨a1,0,none⟩) 1 1) (.slice (some ⟨a2,0,none⟩) 2 2)<|.slice (some ⟨a3,0,none⟩) 3 3) isAgg22 I<|cO 0 I<|zK a5 _ _ _)<|mf I (bt call63 I<|a6 E ga _ _ _ (e4.mono L) (by have:=(jB<|ci (IntKind.i64.wrap<|y.tdiv 3) 3).1;omega) fun x T=>by have:=(jB<|ci (IntKind.i64.wrap<|y.tdiv 3) 3).2 x T;omega) dC (.inr<|by rintro _ gb _ ⟨rfl,C,ub,rfl,U⟩;exact⟨by exact kc io io,(by exact .refl _)⟩) ?_;rintro _ gb _ ⟨rfl,C,ub,rfl,U⟩;obtain ⟨qb,db,rfl⟩:=U.form;have e9:=L.trans C;refine mf rfl (bt call66 rfl<|fG E gb _ _ _ _ _ (N.mono C) U (eV _).1 (eV _).1) dC (.inr<|by rintro _ gc _ ⟨rfl,M,uc,rfl,O⟩;exact⟨by exact kc io io,(by exact .refl _)⟩) ?_;rintro _ gc _ ⟨rfl,M,uc,rfl,O⟩;obtain ⟨qc,dc,rfl⟩:=O.form;refine H8 I (sK 1 ae I I I I I sB) (.inl dC) ?_;rintro _ _ _ ⟨rfl,rfl⟩;refine du<|bN<|dR (s':=pt b3 (bY #[(Value.slice qc _ dc)] 29)::pt b2 (bY #[.slice none 0 0] 29)::pt b1 (bY #[vi k,.slice p n c,vi y] 24)::s) (.cons _<|.refl _) ?_;exact za9 (gc,_) sB I I ⟨(f.trans<|b.trans<|a.trans<|z.trans<|H.trans<|J.trans<|D.trans<|A.trans t).trans<|L.trans<|C.trans M,O⟩
  ·refine rZ<|lU (bj ne I zT3 I)<|lK (qL (v:=vi k) iT3 I<|cO 2 I I)<|lW (bt my I<|bL E g _ _ 8 dC) ?_;rintro _ _ _ ⟨rfl,rfl,rfl⟩;rw[hm];refine tZ<|bK<|sQ<|rZ<|yE I<|aT I<|za1 I<|rZ<|yE I<|aT I<|za1 I<|rG<|yE I<|aT I<|za1 I<|rZ<|yE I<|aT I<|za1 I<|rZ<|yE I<|aT I<|za1 I<|rZ<|yE I<|aT I<|za2 I<|rG<|lU (bj ne I zT3 I)<|lK (qL (v:=vi y) iT3 I<|cO 2 I I)<|lW (bt my I<|bL E g _ _ 5 dC) ?_;rintro _ _ _ ⟨rfl,rfl,rfl⟩;refine lU (SU.eq (v':=vi (((2+ci y 5).toNat:Nat):Int)) (aD I I oM)<|ze3 vi oM)<|lW (bt call67 I<|wR E g _ (2+ci y 5).toNat oM oM) ?_;rintro _ g3 _ ⟨rfl,a,u,rfl,G⟩;obtain ⟨q,d,rfl⟩:=G.form;exact oZ (sK 0 ae I I I I I sB)<|cp<|bN<|za9 (g3,_) sB I I ⟨a,G⟩
  ·refine rZ<|lU (bj ne I zT3 I)<|lK (qL (v:=vi k) iT3 I<|cO 2 I I)<|lW (bt my I<|bL E g _ _ 8 dC) ?_;rintro _ _ _ ⟨rfl,rfl,rfl⟩;rw[hm];refine tZ<|bK<|sQ<|rZ<|yE I<|aT I<|za1 I<|rZ<|yE I<|aT I<|za1 I<|rG<|yE I<|aT I<|za1 I<|rZ<|yE I<|aT I<|za1 I<|rZ<|yE I<|aT I<|za1 I<|rZ<|yE I<|aT I<|za1 I<|rZ<|yE I<|aT I<|za2 I<|rZ<|lW (bS sty43 I I I (ab sB) dC) ?_;rintro _ _ _ ⟨f7,rfl,rfl,rfl⟩;refine zb5 fun g1 f d0=>?_;refine lW (bS sty22 I I I (ab ⟨I,trivial⟩) dC) ?_;rintro _ _ _ ⟨f8,rfl,rfl,rfl⟩;refine zb5 fun g2 b d1=>?_;have a4:dn g2 (.slice (some ⟨f8,0,none⟩) 1 1) [[0,1]]:=⟨[jQ<|.slice (some ⟨f7,0,none⟩) 2 2],kb d1 rfl rfl,⟨kb (b _ _ d0) rfl rfl,trivial⟩⟩;refine lW (bt call63 I<|a6 E g2 _ _ _ a4 dC dC) ?_;rintro _ ga _ ⟨rfl,L,ua,rfl,N⟩;obtain ⟨qa,da,rfl⟩:=N.form;refine bW (aL zl9) fun b6=>oZ (sK 0 ae I I I I I sB)<|tZ<|SC.to (fun w hw=>hw) (g':=ga) (s':=pt b6 (.cells #[.slice qa (dJ [[0,1]]).length da] 29 (0,0))::pt b3 (bY #[.slice none 0 0] 29)::pt b2 (bY #[.slice none 0 0] 29)::pt b1 (bY #[vi k,.slice p n c,vi y] 24)::s) ?_;refine dW [5] [(0,1),(1,1),(3,1),(2,0),(4,0),(5,0)] ze4 kR<|gB I (qV 0 aj ae I I I)<|gB I (qV 0 aj ae I I I)<|gB I (qV 0 aj ae I I I)<|mf I (bt call66 I<|fG E ga _ _ _ _ _ N N (eV _).1 (eV _).1) dC (.inr iR) ?_;rintro _ gb _ ⟨rfl,C,ub,rfl,U⟩;obtain ⟨qb,db,rfl⟩:=U.form;refine mf rfl (bt call66 rfl<|fG E gb _ _ _ _ _ U (N.mono C) (fE _ _).1 (eV _).1) dC (.inr<|by rintro _ gc _ ⟨rfl,M,uc,rfl,O⟩;exact⟨by exact kc io io,(by exact .refl _)⟩) ?_;rintro _ gc _ ⟨rfl,M,uc,rfl,O⟩;obtain ⟨qc,dc,rfl⟩:=O.form;refine H8 I (sK 1 ae I I I I I sB) (.inl dC) ?_;rintro _ _ _ ⟨rfl,rfl⟩;refine du<|bN<|dR (s':=pt b3 (bY #[(Value.slice qc _ dc)] 29)::pt b2 (bY #[.slice none 0 0] 29)::pt b1 (bY #[vi k,.slice p n c,vi y] 24)::s) (.cons _<|.refl _) ?_;exact za9 (gc,_) sB I I ⟨(f.trans b).trans<|L.trans<|C.trans M,O⟩
  ·refine rZ<|lU (bj ne I zT3 I)<|lK (qL (v:=vi k) iT3 I<|cO 2 I I)<|lW (bt my I<|bL E g _ _ 8 dC) ?_;rintro _ _ _ ⟨rfl,rfl,rfl⟩;rw[hm];refine tZ<|bK<|sQ<|rZ<|yE I<|aT I<|za1 I<|rZ<|yE I<|aT I<|za1 I<|rG<|yE I<|aT I<|za1 I<|rZ<|yE I<|aT I<|za1 I<|rZ<|yE I<|aT I<|za1 I<|rZ<|yE I<|aT I<|za1 I<|rZ<|yE I<|aT I<|za1 I<|rZ<|yE I<|aT I<|za2 I<|dW [13] [(0,2),(1,1),(3,2),(4,1),(6,2),(7,1),(2,0),(5,0),(8,0),(9,2),(10,2),(11,0),(12,0),(13,0)] ze4 kR<|pU I (bj ne I sizeOf22 I)<|gB I (qL (v:=.slice p n c) isAgg22 I<|cO 2 I I)<|pU I (bj ne I zT3 I)<|gB I (qL (v:=vi y) iT3 I<|cO 2 I I)<|pU I (bj ne I zT3 I)<|gB I (qL (v:=vi y) iT3 I<|cO 2 I I)<|mf I (bt call64 I<|mF E g _ _ ls hv) dC (.inr iR) ?_;rintro v72 g1 _ ⟨S,rfl,f,j⟩;refine mf rfl (bt call65 rfl<|nU E g1 _ y) dC (.inr<|by rintro v75 g2 _ ⟨rfl,b,d4⟩;exact⟨by exact kc io io,(by exact .cons _<|.refl _)⟩) ?_;rintro v75 g2 _ ⟨rfl,b,d4⟩;obtain ⟨h9,W,X⟩:=d4;have h3:=X.length;have h4:=j.length;obtain ⟨q2,d2,rfl⟩:=za4 W;have h0:=(IK W).2;have a9:=IC W (l:=0) (m:=(2+ci y 2).toNat) (zf7 _) oM;rw[List.drop_zero,Nat.sub_zero] at a9;refine mf rfl (bt my rfl<|bL E g2 _ _ 2 dC) dC (.inr<|by rintro _ _ _ ⟨rfl,rfl,rfl⟩;exact⟨by exact kc io io,(by exact .cons _<|.refl _)⟩) ?_;rintro _ _ _ ⟨rfl,rfl,rfl⟩;refine pU I (aD I I oM)<|pU I (Il fe gy I I oM oM)<|mf I (aQ (e:=ec) 0 sty22 I I I a9 (by rw[ze5];omega)<|by rw[ze5];omega) dC (.inr<|by rintro v81 _ _ ⟨rfl,rfl⟩;exact⟨by exact kc io io,(by exact .cons _<|.refl _)⟩) ?_;rintro v81 _ _ ⟨rfl,rfl⟩;refine Jb fun g3 a h1=>?_;have F:dn g3 v81<|oX ls++(nM y).take (2+ci y 2).toNat:=⟨_,h1,(j.mono fun _ _=>ep.mono<|b.trans a).append ((ay.take _ X).mono fun _ _=>ep.mono a)⟩;have h2:=f.trans<|b.trans a;refine mf I (bt call63 I<|a6 E g3 _ _ _ F (by rw[ze6,ze5];omega) (fun x T=>by rcases zf4.1 T with h | h;(have:=a0.2 x h;omega);(have:=b8.2.2 x<|List.mem_of_mem_take h;omega))) dC (.inr<|by rintro _ g4 _ ⟨rfl,z,u,rfl,G⟩;exact⟨by exact kc io io,(by exact .refl _)⟩) ?_;rintro _ g4 _ ⟨rfl,z,u,rfl,G⟩;obtain ⟨q,d,rfl⟩:=G.form;refine H8 I (sK 0 ae I I I I I sB) (.inl dC) ?_;rintro _ _ _ ⟨rfl,rfl⟩;refine du<|bN ?_;exact za9 (g4,_) sB I I ⟨f.trans<|b.trans<|a.trans z,G⟩
 rintro ⟨g1,bv⟩ ⟨f,b0⟩;dsimp only at f b0 ⊢;generalize hB:o5 (ci k 8) ls y=B at *;obtain ⟨qb,db,rfl⟩:=b0.form;refine sQ<|rZ<|lU (bj dw I cg I)<|lK (qL (v:=.slice qb B.length db) ei I<|cO 0 I I)<|lU (eN aB I)<|lU (gR I I)<|tZ<|iP I (fun Y=>?_) (fun Y=>?_)
 ·refine rG<|lW (bt call68 I<|AJ E g1 _) ?_;rintro _ g2 _ ⟨rfl,b,ut,rfl,d5⟩;obtain ⟨qt,dt,rfl⟩:=d5.form;refine oZ (sK 0 ae I I I I I sB)<|tZ<|sQ<|SC.to (fun w hw=>hw) (g':=g2) (s':=pt b3 (bY #[(Value.slice qt rf.length dt)] 29)::pt b2 (bY #[.slice none 0 0] 29)::pt b1 (bY #[vi k,.slice p n c,vi y] 24)::s) ?_;refine rG<|lK (qV 0 aj ae I I I)<|lU (bj ne I zT3 I)<|lK (qL (v:=vi y) iT3 I<|cO 2 I I)<|lW (bt call69 I<|kQ E g2 _ _ rf y d5 (fE _ _).1) ?_;rintro _ g3 _ ⟨rfl,a,x3,rfl,Z⟩;obtain ⟨q3,d3,rfl⟩:=Z.form;exact oZ (sK 1 ae I I I I I sB)<|tZ<|rE<|kn 1 s (.inl I) results17 I aj ae I I uR ⟨I,f.trans<|b.trans a,_,I,by unfold ry;rw[zg2 Y];exact Z⟩
 ·refine kP<|tN<|sQ ?_;refine SC.to (fun w hw=>hw) (g':=g1) (s':=pt b3 (bY #[(Value.slice qb B.length db)] 29)::pt b2 (bY #[.slice none 0 0] 29)::pt b1 (bY #[vi k,.slice p n c,vi y] 24)::s) ?_;refine rG<|lK (qV 0 aj ae I I I)<|lU (bj ne I zT3 I)<|lK (qL (v:=vi y) iT3 I<|cO 2 I I)<|lW (bt call69 I<|kQ E g1 _ _ B y b0 b9) ?_;rintro _ g3 _ ⟨rfl,a,x3,rfl,Z⟩;obtain ⟨q3,d3,rfl⟩:=Z.form;exact oZ (sK 1 ae I I I I I sB)<|tZ<|rE<|kn 1 s (.inl I) results17 I aj ae I I uR ⟨I,f.trans a,_,I,by unfold ry;rw[zg1 Y];exact Z⟩
theorem yy (a b:Int)(c:0<b)(d:b≤1099511627776):0≤ci a b∧ci a b<b:=by
 have e:a.tmod b<b:=Int.tmod_lt_of_pos a c;have f : -b<a.tmod b:=by
  have:=Int.lt_tmod_of_pos a c;omega
 unfold ci;rw[zl1 _ oM,Int.tmod_eq_emod_of_nonneg oM];exact⟨Int.emod_nonneg _ oM,Int.emod_lt_of_pos _ c⟩
theorem tJ (a:Int)(n:Nat)(b:0<n)(c:n≤1099511627776):ci a n=(((ci a n).toNat:Nat):Int)∧(ci a n).toNat<n:=by
 have:=yy a n oM oM;omega
set_option maxHeartbeats 2000000
open Go.ChangeShapes Go.WideShapes Go.ChangeAt Go.RowKit
set_option maxRecDepth 100000
def ur (W:World):PH:=fun b=>W.heap[b]?
def E0 (W:World):World:={ W with drawn:=0 }
theorem Fj (W:World):At (E0 W) (ur W) [] W:=⟨rfl,⟨rfl,zf7 _⟩,rfl,fun _ _ h=>h,by simp,by simp,List.Pairwise.nil⟩
variable {W:World}{v:Value}
theorem Fk {W':World}{g:PH}{s:Own}(h:At (E0 W) g s W')(hl:Le (ur W) g):Below W.heap.size W W':=by
 have hb:∀ k,k<W.heap.size→W'.heap[k]?=W.heap[k]?:=fun k b=>by
  have a:W.heap[k]?=some W.heap[k]:=vj b;rw[a];exact h.known k _<|hl k _ a
 refine⟨h.os,h.tape.1,h.output,?_,hb⟩;refine zh1 fun hc=>?_;have a:=hb W'.heap.size oM;rw[Array.getElem?_eq_none<|dm _,vj oM] at a;cases a
theorem Fy {a:Addr}{len cap:Nat}{xs:List Value}(hl:len≤cap)(u:xs.length=len)(hc:∀ i x,xs[i]?=some x→W.cell? (a.add i)=some x):Sl (ur W) 1 (.slice (some a) len cap) len xs:=by
 refine⟨some a,cap,I,⟨oM,hl⟩,fun k=>?_⟩;obtain ⟨b,o,sp⟩:=a;have n:0<xs.length:=List.length_pos_iff.2 k;have l:=hc 0 xs[0]<|bd n;have m:sp=none:=by simpa [Addr.add] using World.cell?_spot l
 subst m;have d:∀ i,(⟨b,o,none⟩:Addr).add i=⟨b,o+i,none⟩:=fun i=>by unfold Addr.add;split <;> simp_all
 simp only[d] at hc;have c:∀ i x,xs[i]?=some x→∃ cs T e,W.heap[b]?=some (.cells cs T e)∧cs[o+i]?=some x:=fun i x p=>by
  have g:=hc i x p;unfold World.cell? at g;split at g
  ·rename_i cs T e q;exact⟨cs,T,e,q,by simpa using g⟩
  ·cases g
 obtain ⟨cs,T,e,hb,_⟩:=c 0 xs[0]<|bd n;refine⟨b,o,cs,T,e,I,hb,fun j x r=>?_⟩;obtain ⟨cs',T',s,f,t⟩:=c j x r;rw[hb] at f;cases f;exact t
section
variable {H:Type}{enc:TypeId×Value→H}{base:Nat}{spare:Nat→Bool}{hd:Bool}
theorem Tryz.cells3:Tryz.prog.cellsOf 3=1:=by kernel_rfl
theorem Tryz.cells43:Tryz.prog.cellsOf 43=1:=by kernel_rfl
theorem Tryz.cells24:Tryz.prog.cellsOf 24=3:=by kernel_rfl
theorem GG {fuel:Nat}{x:DataW H×List MemPlace}(h:DataW.trod enc Tryz.prog W base spare hd fuel 43 [v]=some x):∃ (l:List Int) (r:Sv),v = .slice r.p r.n r.c∧dA (ur W) v l:=by
 rcases open_ints aA uT3 cells3 h with ⟨b,_⟩ | ⟨a,len,cap,zs,b,_,hl,_,hz,_,e,_⟩
 ·simp at b;subst b;exact⟨[],⟨none,0,0⟩,I,zc1 _ _⟩
 ·simp at b;subst b;have j:len≤zs.length:=by rw[hz];split <;> omega
  have d:(zs.take len).length=len:=by rw[ze5];omega
  have k:(zs.take len).flatMap encInt.enc=(zs.take len).map vi:=by
   rw[List.flatMap_def];induction zs.take len with
   | nil=>rfl
   | cons y t ih=>simp[encInt] at ih ⊢;exact ih
  refine⟨zs.take len,⟨some a,len,cap⟩,I,?_⟩;show Sl (ur W) 1 _ (zs.take len).length ((zs.take len).flatMap encInt.enc);rw[k,d];refine Fy hl (by rw[ze7,d]) fun i y f=>?_;rw[zi1] at f;cases hc:(zs.take len)[i]? with
  | none=>rw[hc] at f;cases f
  | some z =>
   rw[hc] at f;cases f;have m:i<(zs.take len).length:=(zf6.1 hc).1;have g:i<zs.length:=oM;rw[e i g];have:zs.getD i 0=z:=by
    rw[zi2] at hc;split at hc
    ·rw[zh2,hc];rfl
    ·cases hc
   rw[this]
theorem Ax {α β γ:Type}{R:α→β→Prop}{f:γ→α}{k:γ→β}:∀ {l:List γ},(∀ i∈l,R (f i)<|k i)→ay R (l.map f) (l.map k)
 | [],_=>trivial
 | x::l,h=>⟨h x dO,Ax fun i a=>h i<|by simp[a]⟩
instance:Inhabited<|List Int×Sv:=⟨([],⟨none,0,0⟩)⟩
theorem EZ {fuel:Nat}{x:DataW H×List MemPlace}(h:DataW.trod enc Tryz.prog W base spare hd fuel 22 [v]=some x):∃ ls,dn (ur W) v ls:=by
 rcases Go.Deep.open_slice1 fe cells43 h with ⟨d,_⟩ | ⟨a,len,cap,m,n,V,D,Pl,d,_,hl,_,g,_,k⟩
 ·simp at d;subst d;exact⟨[],[],zc1 _ _,trivial⟩
 ·simp at d;subst d;have s:len≤m:=by rw[g];split <;> omega
  obtain ⟨f,o⟩:=Go.Deep.choose_lt (α:=List Int×Sv) (n:=len) (p:=fun i y=>V i = .slice y.2.p y.2.n y.2.c∧dA (ur W) (V i) y.1) fun i b=>by
   obtain ⟨l,r,j,e⟩:=GG (k i oM).2;exact⟨(l,r),j,e⟩
  refine⟨(List.range len).map fun i=>(f i).1,(List.range len).map fun i=>(f i).2,?_,Ax fun i b=>?_⟩
  ·show Sl (ur W) 1 _ ((List.range len).map fun i=>(f i).2).length (((List.range len).map fun i=>(f i).2).flatMap ec.enc);have u:((List.range len).map fun i=>(f i).2).flatMap ec.enc=(List.range len).map fun i=>V i:=by
    have:∀ l:List Nat,(∀ i∈l,i<len)→(l.map fun i=>(f i).2).flatMap ec.enc=l.map fun i=>V i:=by
     intro l;induction l with
     | nil=>intro _;rfl
     | cons y t ih =>
      intro q;rw[zg5,zh6,ih fun i b=>q i<|by simp[b],zg5,(o y<|q y<|by simp).1];rfl
    exact this _ fun i b=>List.mem_range.1 b
   rw[u,ze7,zi5];refine Fy hl dO fun i y b=>?_;rw[zi1] at b;cases hc:(List.range len)[i]? with
   | none=>rw[hc] at b;cases b
   | some z =>
    rw[hc] at b;cases b;obtain ⟨j,e⟩:=zf6.1 hc;simp at j e;subst e;exact (k i oM).1
  ·have:=o i<|List.mem_range.1 b;unfold ep;rw[← this.1];exact this.2
theorem EB {r:Reach}{g:Nat}{d:DataW H}{p:List MemPlace}(i:Value.okWide Tryz.prog W r g 24 v)(h:DataW.Trod enc Tryz.prog W base spare hd 24 v d p):∃ (k y:Int) (u:Value) (ls:List<|List Int),v = .agg #[vi k,u,vi y]∧dn (ur W) u ls:=by
 obtain ⟨o,c1,c2,q,s,t,n,rfl,_,_,j,l,m⟩:=Go.Joins.open_agg3 ne kR cells24 i h;obtain ⟨a,e,_,_⟩:=DataW.trod_int uT3 j;obtain ⟨c,f,_,_⟩:=DataW.trod_int uT3 m;obtain ⟨ls,b⟩:=EZ l;simp at e f;subst e;subst f;exact⟨a,c,c1,ls,I,b⟩
end
theorem DN {A:List Cl}(h:(A.map Cl.id).Nodup){x:Cl}(a:x∈A):ah A x.id=some x:=by
 induction A with
 | nil=>simp at a
 | cons c t ih =>
  simp only[zg5,zk3] at h;unfold ah
  rcases zf2.1 a with rfl | a
  ·simp
  ·have b:¬ c.id=x.id:=fun e=>h.1 (by rw[e];exact zf3.2 ⟨x,a,I⟩);rw[zi7];simp only[b,decide_false];exact ih h.2 a
end Go.Proofs.YtpmoadbbfobbcaaGreatDoor
