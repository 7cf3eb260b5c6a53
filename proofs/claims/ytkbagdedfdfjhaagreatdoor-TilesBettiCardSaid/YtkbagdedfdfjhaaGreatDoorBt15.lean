/-
  Betti of tiles: whatever the tiles are, Betti returns the Betti numbers of the complex, with the translation's given conditions.
-/
import Derived.Test.YtkbagdedfdfjhaaGreatDoorBt14
import Derived.Test.YtkbagdedfdfjhaaGreatDoorBt11
import Derived.Test.YtkbagdedfdfjhaaGreatDoorBt12
import Derived.Test.YtkbagdedfdfjhaaGreatDoorBt10
import Derived.Test.YtkbagdedfdfjhaaGreatDoorTie
import Derived.Test.YtkbagdedfdfjhaaGreatDoorCards
import Derived.JoinedOf
import Derived.LaidMore
import Derived.Lay
import Derived.SevenTiedAt
import Derived.Stop.Joined
set_option linter.unusedSimpArgs false
set_option linter.unusedVariables false
namespace Go.Proofs.YtkbagdedfdfjhaaGreatDoor
open _root_.Go.Proofs.Tryz _root_.Go.Proofs.YtkbagdedfdfjhaaGreatDoor.Tryz
open Go Go.Sy Go.Pl Go.Proofs
set_option maxRecDepth 100000
def cellU (f:Int→Nat)(c:Cl):Cl×Nat:=(c,muB (f c.id))
def EB (f:Int→Nat)(c:Cl):List ((Cl×Nat)×(Cl×Nat)):=(Cq (f c.id)).map fun s=>((c,s+muB (f c.id)),(c,s))
section
variable {L:List Cl}{f:Int→Nat}{n:Nat}(h:Cov L f n)(hpos:∀ c∈L,0<f c.id)
include h
theorem Cov.f16 {c:Cl}(hc:c∈L):f c.id<16:=Nat.lt_of_lt_of_le (h.lt c hc) h.pow
include hpos
theorem Cov.split:(ei L f).Perm (L.map (cellU f)++(L.flatMap (EB f)).flatMap fun q=>[q.1,q.2]):=by
 have key:∀ l:List Cl,(∀ c∈l,c∈L)→(l.flatMap fun c=>(aJ (f c.id)).map fun s=>(c,s)).Perm (l.map (cellU f)++(l.flatMap (EB f)).flatMap fun q=>[q.1,q.2]):=by
  intro l;induction l with
  | nil=>intro _; exact .refl _
  | cons c l ih =>
   intro hl;have h1:=ih fun d hd=>hl d (by simp[hd]);have hc:=hl c (by simp);have h2:=(List.isPerm_iff.1 (Fv (f c.id) (h.f16 hc) (hpos c hc))).map fun s=>(c,s);rw[zg9,zf8,zg9,List.flatMap_append];have h3:((muB (f c.id)::(Cq (f c.id)).flatMap fun s=>[s+muB (f c.id),s]).map fun s=>(c,s))=cellU f c::(EB f c).flatMap fun q=>[q.1,q.2]:=by
    rw[zf8,List.map_flatMap];unfold EB;rw[List.flatMap_map];rfl
   rw[h3] at h2;refine (h2.append h1).trans ?_;show (cellU f c::(_++(_++_))).Perm (cellU f c::(_++(_++_)));exact (List.perm_append_comm_assoc _ _ _).cons _
 exact key L fun _ hc=>hc
omit h hpos in
theorem FW {q:(Cl×Nat)×(Cl×Nat)}(hq:q∈L.flatMap (EB f)):∃ c∈L,∃ s∈Cq (f c.id),q=((c,s+muB (f c.id)),(c,s)):=by
 obtain ⟨c,hc,h1⟩:=List.mem_flatMap.1 hq;obtain ⟨s,hs,rfl⟩:=ze6.1 h1;exact⟨c,hc,s,hs,I⟩
omit hpos in
theorem Cov.ent_self {c:Cl}(hc:c∈L):di c c=0:=uH h.rt hc hc oM
omit hpos in
theorem Cov.pi_sum {k:Cl}(hk:k∈L){x:Cl×Nat}(hx:x∈ei L f):((ei L f).map fun y=>Go.Proofs.YtkbagdedfdfjhaaGreatDoor.entP x y * if y.1=k∧onesB y.2=1 then 1 else 0).sum=if onesB x.2=1 then di x.1 k else 0:=by
 obtain ⟨c,s⟩:=x;obtain ⟨hc,hs⟩:=nN.1 hx;dsimp only at hc hs ⊢;have hs16:=(h.s16 hc hs).2;unfold ei;rw[sG];have e1:(L.map fun a=>(((aJ (f a.id)).map fun t=>(a,t)).map fun y=>Go.Proofs.YtkbagdedfdfjhaaGreatDoor.entP (c,s) y * if y.1=k∧onesB y.2=1 then 1 else 0).sum)=L.map fun a=>if k.id=a.id then ((aJ (f a.id)).map fun t=>Go.Proofs.YtkbagdedfdfjhaaGreatDoor.entP (c,s) (a,t) * if onesB t=1 then 1 else 0).sum else 0:=zc5 fun a ha=>by
  rw[zh9];by_cases e:k.id=a.id
  ·have e2:=oa h.rt hk ha e;subst e2;rw[zf5 rfl];congr 1;refine zc5 fun t _=>?_;show Go.Proofs.YtkbagdedfdfjhaaGreatDoor.entP (c,s) (k,t) * (if k=k∧onesB t=1 then 1 else 0)=_;by_cases e3:onesB t=1
   ·rw[zf5 ⟨rfl,e3⟩,zf5 e3]
   ·rw[zf4 fun q=>e3 q.2,zf4 e3]
  ·rw[zf4 e];refine sj fun t _=>?_;show Go.Proofs.YtkbagdedfdfjhaaGreatDoor.entP (c,s) (a,t) * (if a=k∧onesB t=1 then 1 else 0)=0;rw[zf4 fun q=>e (by rw[q.1]),Int.mul_zero]
 rw[e1,nG h.rt.asc hk fun a=>((aJ (f a.id)).map fun t=>Go.Proofs.YtkbagdedfdfjhaaGreatDoor.entP (c,s) (a,t) * if onesB t=1 then 1 else 0).sum];have e2:((aJ (f k.id)).map fun t=>Go.Proofs.YtkbagdedfdfjhaaGreatDoor.entP (c,s) (k,t) * if onesB t=1 then 1 else 0)=(aJ (f k.id)).map fun t=>(if t=s then (if onesB s=1 then di c k else 0) else 0)+(if k=c then (if onesB t=1 then iB s t c.dim else 0) else 0):=zc5 fun t _=>by
  unfold Go.Proofs.YtkbagdedfdfjhaaGreatDoor.entP;dsimp only;by_cases a1:t=s
  ·subst a1;by_cases a2:onesB t=1
   ·simp[a2]
   ·simp[a2]
  ·by_cases a2:onesB t=1
   ·simp[a1,a2]
   ·simp[a1,a2]
 rw[e2,kC,lD (AW _ (h.f16 hk))];have e3:((aJ (f k.id)).map fun t=>if k=c then (if onesB t=1 then iB s t c.dim else 0) else 0).sum=0:=by
  by_cases a1:k=c
  ·subst a1
   rcases Fs _ (h.f16 hk) s hs with a2 | a2
   ·refine sj fun t ht=>?_;rw[zf5 rfl];split
    ·rw[mJ,Gp s hs16 a2 t (h.s16 hk ht).2,Int.mul_zero]
    ·rfl
   ·have e4:((aJ (f k.id)).map fun t=>if k=k then (if onesB t=1 then iB s t k.dim else 0) else 0)=(aJ (f k.id)).map fun t=>sgP k.dim * (if onesB t=1 then iB s t 0 else 0):=zc5 fun t _=>by
     rw[zf5 rfl];split
     ·exact mJ s t k.dim
     ·rw[Int.mul_zero]
    rw[e4,mM];have e5:=wI (fun t=>decide (onesB t=1)) (fun t=>iB s t 0) (aJ (f k.id));rw[a2] at e5;have e6:((aJ (f k.id)).map fun t=>if onesB t=1 then iB s t 0 else 0)=(aJ (f k.id)).map fun t=>if decide (onesB t=1)=true then iB s t 0 else 0:=zc5 fun t _=>by simp
    rw[e6,← e5,Int.mul_zero]
  ·exact sj fun t _=>zf4 a1
 rw[e3,Int.add_zero];by_cases a1:onesB s=1
 ·rw[zf5 a1];by_cases a2:s∈aJ (f k.id)
  ·rw[zf5 a2]
  ·rw[zf4 a2];refine (sj fun q hq=>?_).symm;refine zf4 fun e=>a2 ?_;obtain ⟨d,hd,hdi,-,hsub⟩:=h.side hc hq;have:=oa h.rt hd hk (by rw[hdi,e]);rw[← this];exact hsub s hs
 ·rw[zf4 a1];split <;> rfl
theorem Cov.bet {p:Int}(hp:Fld p)(d:Int):ph p (aa (bg L f n)) d=ph p L d:=by
 rw[h.bet_pairs hp];obtain ⟨e',h1,h2⟩:=pZ hp (p:=p) (dm:=dmP) (fun q=>q.1.dim.toNat) (κ:={ k:Cl // k∈L }) (fun k y=>if y.1=k.1∧onesB y.2=1 then 1 else 0) (fun k x=>if onesB x.2=1 then di x.1 k.1 else 0) (L.map (cellU f)) (L.flatMap (EB f)) (ei L f) Go.Proofs.YtkbagdedfdfjhaaGreatDoor.entP (h.cx p) (h.split hpos) (fun q hq=>by
   obtain ⟨c,hc,s,hs,rfl⟩:=FW hq;have:=(qZ _ (h.f16 hc) s hs).1;show c.dim+(onesB s:Int) - 1=c.dim+(onesB (s+muB (f c.id)):Int) - 1 - 1;rw[this];omega) (fun q hq k=>by
   obtain ⟨c,hc,s,hs,rfl⟩:=FW hq;obtain ⟨b1,b2,b3,b4⟩:=qZ _ (h.f16 hc) s hs;have e1:Go.Proofs.YtkbagdedfdfjhaaGreatDoor.entP (c,s+muB (f c.id)) (c,s)=sgP c.dim * iB (s+muB (f c.id)) s 0:=by
    unfold Go.Proofs.YtkbagdedfdfjhaaGreatDoor.entP;dsimp only;rw[zf5 rfl,h.ent_self hc,mJ];split <;> omega
   have e2:Go.Proofs.YtkbagdedfdfjhaaGreatDoor.entP (c,s+muB (f c.id)) (c,s)=1∨Go.Proofs.YtkbagdedfdfjhaaGreatDoor.entP (c,s+muB (f c.id)) (c,s) = -1:=by
    rw[e1]
    rcases uA c.dim with a | a <;> rcases b4 with b | b <;> rw[a,b] <;> decide
   rcases e2 with e2 | e2
   ·rw[e2] at k;exact hp.1 k
   ·rw[e2] at k;have:=k.neg;exact hp.1 this) (fun q hq q' hq' hne hl=>by
   obtain ⟨c,hc,s,hs,rfl⟩:=FW hq;obtain ⟨c',hc',s',hs',rfl⟩:=FW hq';dsimp only at hl ⊢;have d1:=(h.rt.form c hc).dim;have d2:=(h.rt.form c' hc').dim;refine .of ?_;unfold Go.Proofs.YtkbagdedfdfjhaaGreatDoor.entP;dsimp only;by_cases e:c'=c
   ·subst e
    rcases Gq _ (h.f16 hc) s hs s' hs' with a | ⟨a1,a2⟩
    ·exact absurd (by rw[a]) hne
    ·rw[zf4 a2,zf5 rfl,mJ,a1,Int.mul_zero];rfl
   ·rw[zf4 e,uH h.rt hc hc' oM];split <;> rfl) (fun k q hq=>by
   obtain ⟨c,hc,s,hs,rfl⟩:=FW hq;obtain ⟨b1,b2,-,-⟩:=qZ _ (h.f16 hc) s hs;have:onesB (s+muB (f c.id))≠1:=oM;dsimp only;exact⟨zf4 fun q=>this q.2,by rw[zf4 this]; exact .refl _⟩) (fun k x hx=>.of (h.pi_sum k.2 hx))
 rw[h1];have hdm:∀ c∈L,dmP (cellU f c)=c.dim:=fun c hc=>by
  show c.dim+(onesB (muB (f c.id)):Int) - 1=c.dim;rw[(EL _ (h.f16 hc) (hpos c hc)).2];omega
 have hg:∀ k,grd (L.map (cellU f)) dmP k=(eT L k).map (cellU f):=fun k=>by
  unfold grd eT;rw[List.filter_map];congr 1;refine List.filter_congr fun c hc=>?_;show decide (dmP (cellU f c)=k)=_;rw[hdm c hc]
 have hnd:L.Nodup:=h.rt.asc.imp fun hab e=>by rw[e] at hab; omega
 have hent:∀ c∈L,∀ k∈L,Eqm p (e' (cellU f c) (cellU f k)) (di c k):=fun c hc k hk=>by
  have h3:=h2 ⟨k,hk⟩ (cellU f c) (ze6.2 ⟨c,hc,rfl⟩);have h4:(if onesB (cellU f c).snd=1 then di (cellU f c).fst k else 0)=di c k:=zf5 (EL _ (h.f16 hc) (hpos c hc)).2;dsimp only at h3;rw[h4] at h3;refine Eqm.trans (.of ?_) h3;rw[zh9];have e3:(L.map ((fun y=>e' (cellU f c) y * if y.1=k∧onesB y.2=1 then 1 else 0) ∘ cellU f))=L.map fun a=>if a=k then e' (cellU f c) (cellU f a) else 0:=zc5 fun a ha=>by
   show e' (cellU f c) (cellU f a) * (if a=k∧onesB (muB (f a.id))=1 then 1 else 0)=_;by_cases e4:a=k
   ·rw[zf5 ⟨e4,(EL _ (h.f16 ha) (hpos a ha)).2⟩,zf5 e4,Int.mul_one]
   ·rw[zf4 fun q=>e4 q.1,zf4 e4,Int.mul_zero]
  rw[e3,lD hnd,zf5 hk]
 have hr:∀ k,rkG p (L.map (cellU f)) dmP e' k=rkD p L k:=fun k=>by
  unfold rkG rkD rkP;rw[hg,hg,Ae hp _ _ _ _ e' (fun a b=>e' (cellU f a) (cellU f b)) fun _ _ _ _=>rfl];exact kT hp fun a ha b hb=>hent a (mW.1 ha).1 b (mW.1 hb).1
 unfold zH ph;rw[hr,hr,hg,ze1]
end
theorem EQ {l:List Cl}(h:Sm3 l){T:List (List Int)}(hT:TOk l T):∀ c∈l,0<tlB l 0 T c.id:=fun c hc=>by
 have hd:=(h.rt.form c hc).dim;obtain ⟨t,ht,hm⟩:=zT h.rt hT (9 - c.dim).toNat c hc oM;have:=uz l c.id T 0 ⟨t,ht,hm⟩;omega
theorem wh {l:List Cl}(h:Sm3 l){T:List (List Int)}(hT:TOk l T){p:Int}(hp:fV p=true):gr l T p=(List.range (dimN l)).map fun d:Nat=>ph p l d:=by
 have hE:=sA h hT hp;have ho:=jo hE;have hcov:=E2 h hT;have hpos:=EQ h hT;have hB:cI l T=aa (bg l (tlB l 0 T) T.length):=by unfold cI; rw[uK]
 rw[B5 hE,eR];refine zc5 fun d hd=>?_;have hdim:=hcov.dims _ (GA h.rt);rw[zi hE hT.pos (by rw[h.rt.tab,hB]; exact hcov.degs) (by rw[h.rt.tab,hB]; exact fun c hc=>(hdim c hc).1) d (List.mem_range.1 hd),h.rt.tab,hB,hcov.bet hpos ho.fp.fld]
theorem kI {M:List Cl}(h:Rt M)(d:Int):cj M d=(eT M d).map Cl.id:=by
 unfold cj eT;rw[h.tab]
theorem Ds (L:List Int)(p:Int)(k:Nat):(L.map (· % p)).getD k 0=L.getD k 0 % p:=by
 rw[zg5,zg5,zh4];cases L[k]? with
 | none=>exact (Int.zero_emod p).symm
 | some x=>rfl
theorem Fd {p:Int}(hp:Fld p){M:List Cl}(h:Rt M)(d:Int):rk p (atF ((xS M d).map (· % p)) (cj M d).length) (cj M (d - 1)).length (cj M d).length=rkD p M d:=by
 have l1:(cj M d).length=(eT M d).length:=by rw[kI h,ze1]
 have l0:(cj M (d - 1)).length=(eT M (d - 1)).length:=by rw[kI h,ze1]
 have h1:rk p (atF ((xS M d).map (· % p)) (cj M d).length) (cj M (d - 1)).length (cj M d).length=rkL p (eT M (d - 1)) (eT M d) (fun r c=>di c r):=by
  have h2:rk p (atF ((xS M d).map (· % p)) (cj M d).length) (cj M (d - 1)).length (cj M d).length=rk p (mx (eT M (d - 1)) (eT M d) fun r c=>di c r) (cj M (d - 1)).length (cj M d).length:=by
   refine fl hp fun i hi j hj=>?_;have e1:i<(eT M (d - 1)).length:=oM;have e2:j<(eT M d).length:=oM;rw[fW (gE e1) (gE e2)];unfold atF;rw[Ds,Di h hi hj,kI h d,kI h (d - 1)];have c1:((eT M d).map Cl.id).getD j 0=((eT M d)[j]).id:=by
    rw[zg5,zh4,gE e2];rfl
   have c2:((eT M (d - 1)).map Cl.id).getD i 0=((eT M (d - 1))[i]).id:=by
    rw[zg5,zh4,gE e1];rfl
   have c3:ek (ae M) ((eT M d)[j]).id=(eT M d)[j]:=by
    unfold ek;rw[h.tab,h.find (mW.1 (gM e2)).1];rfl
   rw[c1,c2,c3];exact nt _ _
  rw[h2,l1,l0];rfl
 rw[h1];exact qU hp (eT M d) (eT M (d - 1)) di
theorem CV {p:Int}(hp:Fld p){M:List Cl}(h:Rt M):rkD p M 0=0:=by
 have:eT M (0 - 1)=[]:=List.filter_eq_nil_iff.2 fun c hc=>by
  have:=(h.form c hc).dim.1;simp only[zi8];omega
 unfold rkD;rw[this];exact wU hp _
theorem qK {M:List Cl}(h:Rt M)(d:Int):(cj M d).length=(eT M d).length∧(eT M d).length≤M.length:=⟨by rw[kI h,ze1],zc2 _ _⟩
set_option maxHeartbeats 1000000
theorem Dl (n:Nat):(dn n).length≤1:=by
 unfold dn;split <;> simp
theorem xh {n:Nat}(h:n≠0):dn n=[(n:Int)]:=by unfold dn; rw[zf4 h]
theorem oK (E:World)(g:PH)(s:Own)(v u:Value)(n m:Nat)(hv:SlA gW g v (dn n))(hu:SlA gW g u (dn m))(h:n<m) :
  Ctr Tryz.prog E 120 #[v,u] g s (fun r g' s'=>r = .tuple #[.slice none 0 0,v]∧g=g'∧s=s'):=by
 refine za9 (args:=[v,u]) func120 I ntmps120 (bE I) ?_;refine rZ (lA I (aT I (sQ (sW I (lM I (lW (cL call164 I (vH E g _ v u n m hv hu)) ?_))))));rintro _ _ _ ⟨rfl,rfl,rfl⟩;refine lU (SU.eq (v':=vb true) (lS I I) (zd6 vb (zf3 ((DF n m).2 h)))) (tZ (cT I (sW I (lA I (aT I (rE (tR ?_)))))));exact ST.ret2 (.inl I) results120 I I ⟨I,I,I⟩
theorem uY (E:World)(g:PH)(s:Own)(x:Bool)(B C:List UInt8)(l1:B.length≤4)(l2:C.length≤4)(h:beN B<beN C)(hx:x=true→beN B≠0) :
  Ctr Tryz.prog E 71 #[.agg #[vb x,txt B],.agg #[vb false,txt C]] g s (fun r g' s'=>s=s'∧Le g g'∧∃ (qb:Bool) (qt:List UInt8),r = .tuple #[.agg #[vb qb,txt qt],uX false (ie (dn (if x=true then beN C - beN B else beN B))),vb true]):=by
 have hC:=oc C;have hC4:=zK l2;have hlC:=xh (n:=beN C) oM;refine za9 (args:=[.agg #[vb x,txt B],.agg #[vb false,txt C]]) func71 I ntmps71 (bE I) ?_;refine rZ (bW (bO I) fun b2=>?_);refine bW (bO I) fun b3=>?_;refine bW (aL zk6) fun b4=>?_;refine bW (aL zk6) fun b5=>?_;refine aT I (sQ ?_);refine dW [] [(0,1),(2,1),(1,0),(3,0),(4,2),(5,2)] zd7 kR ?_;refine pK I (qV 3 isAgg121 dM I I I) (pK I (qV 2 isAgg121 dM I I I) (SP.o I (cL call119 I (rI E _ _ x B l1)) dC (.inr iR) ?_));rintro v6 g1 _ ⟨rfl,hle1,hs1⟩;obtain ⟨p1,c1,rfl⟩:=za2 hs1;refine SP.o rfl (cL call119 rfl (rI E _ _ false C l2)) dC (.inr (by rintro v8 g2 _ ⟨rfl,hle2,hs2⟩; exact⟨by exact Le.trans (by assumption) (by assumption),(by exact .refl _)⟩)) ?_;rintro v8 g2 _ ⟨rfl,hle2,hs2⟩;obtain ⟨p2,c2,rfl⟩:=za2 hs2;have h12:=hle1.trans hle2;have hs1:=za3 hs1 hle2;have hlC2:(dn (beN C)).length=1:=by rw[hlC]; rfl
 refine pU I (aS I) (pU I (aS I) (pN (tN (sQ (sW I (lU (eN ba I) (lU (SU.eq (v':=vb false) (eQ I I) (zd6 vb (zf2 oM))) (tZ ?_))))))));cases x with
 | false =>
  rw[zf4 dC];refine cF I (kP (tN (sW I (lM I (lW (cL call120 I (oK E g2 _ _ _ (beN B) (beN C) hs1 hs2 h)) ?_)))));rintro _ _ _ ⟨rfl,rfl,rfl⟩;refine lM I (yX I (yX I (lA I (aT I (sQ (rZ (lU (fA mf I zT4 I) (lK (qL isAgg4 I (cO 3 I I)) (lM I (yA I (yA I (yA I (yF I (tZ (cF I (kP (tN (sW I (lU (fA mf I zT4 I) (lK (qL isAgg4 I (cO 3 I I)) (lU (fA mf I zT4 I) (lK (qL isAgg4 I (cO 2 I I)) (lU (SU.neqB uT4 I I) ?_)))))))))))))))))))))));refine lW (cL call118 I (eZ E _ _ (.slice none 0 0) [] _ (zb8 _ _) dC)) ?_;rintro _ g3 _ ⟨rfl,rfl,hle3⟩;have h13:=h12.trans hle3;refine lM I (lW (cL call118 I (eZ E _ _ _ (dn (beN B)) _ (za3 hs1 hle3) (ry _))) ?_);rintro _ g4 _ ⟨rfl,rfl,hle4⟩;have h14:=h13.trans hle4;refine oZ (sK 1 dM I I I I I sB) ?_;refine oZ (sK 0 dM I I I I I sB) ?_;refine aT I (rE ?_);exact ST.retCCT 1 0 s (.inl I) results71 I I I isAgg121 dM isAgg121 dM I I I I uR ⟨I,h14,_,_,I⟩
 | true =>
  have hB:=xh (hx rfl);have hB2:(dn (beN B)).length=1:=by rw[hB]; rfl
  rw[zf5 rfl];refine cF I (kP (tN (sW I (lM I (lW (cL call120 I (oK E g2 _ _ _ (beN B) (beN C) hs1 hs2 h)) ?_)))));rintro _ _ _ ⟨rfl,rfl,rfl⟩;refine lM I (yX I (yX I (lA I (aT I (sQ (rZ (lU (fA mf I zT4 I) (lK (qL isAgg4 I (cO 3 I I)) (lM I (yC I (lY I I I (eN ba I) (lY I I I (SU.eq (v':=vb true) (gR I I) (zd6 vb (zf3 oM))) (yP I (tZ (cT I (rG (lM I (lW (bS sty162 I I I (ab ⟨I,trivial⟩) dC) ?_))))))))))))))))));rintro _ _ _ ⟨b34,rfl,rfl,rfl⟩;refine zb3 fun g3 hle3 hb34=>?_;have h13:=h12.trans hle3;refine lW (cL call121 I (vI E _ _ (.slice none 0 0) _ 0 1 (zb8 _ _) (SlA.lit hb34 I I) dC)) ?_;rintro v35 g4 _ ⟨rfl,hle4,hs4⟩;have h14:=h13.trans hle4;refine lM I (lM I (lW (cL call122 I (vG E _ _ _ _ (beN C) (beN B) (za3 hs2 (hle3.trans hle4)) (za3 hs1 (hle3.trans hle4)) oM oM)) ?_));rintro v38 g5 _ ⟨rfl,hle5,hs5⟩;have h15:=h14.trans hle5;have hs4:=za3 hs4 hle5;refine lA I (aT I (sW I (lU (fA mf I zT4 I) (lK (qL isAgg4 I (cO 3 I I)) (lU (fA mf I zT4 I) (lK (qL isAgg4 I (cO 2 I I)) (lU (SU.neqB uT4 I I) (lW (cL call118 I (eZ E _ _ v35 _ _ hs4 (ry _))) ?_))))))));rintro _ g6 _ ⟨rfl,rfl,hle6⟩;have h16:=h15.trans hle6;refine lM I (lW (cL call118 I (eZ E _ _ v38 _ _ (za3 hs5 hle6) (ry _))) ?_);rintro _ g7 _ ⟨rfl,rfl,hle7⟩;have h17:=h16.trans hle7;refine oZ (sK 1 dM I I I I I sB) ?_;refine oZ (sK 0 dM I I I I I sB) ?_;refine aT I (rE ?_);exact ST.retCCT 1 0 s (.inl I) results71 I I I isAgg121 dM isAgg121 dM I I I I uR ⟨I,h17,_,_,I⟩
theorem tU (E:World)(g:PH)(s:Own)(n p:Int)(hp:p<4294967296)(hn:(n.natAbs:Int)<p) :
  Ctr Tryz.prog E 71 #[pm n,pm p] g s (fun r g' s'=>s=s'∧Le g g'∧∃ (qb:Bool) (qt:List UInt8),r = .tuple #[.agg #[vb qb,txt qt],pm (n % p),vb true]):=by
 have hfin:uX false (ie (dn (if decide (n<0)=true then p.natAbs - n.natAbs else n.natAbs)))=pm (n % p):=by
  have hm:n % p=if n<0 then n+p else n:=by
   split
   ·rw[← Int.add_emod_right];exact Int.emod_eq_of_lt oM oM
   ·exact Int.emod_eq_of_lt oM oM
  rw[hm];by_cases h0:n<0
  ·rw[zf5 (zf3 h0),zf5 h0];exact wz oM oM fun _=>(zf2 oM).symm
  ·rw[zf4 (by simp[h0]),zf4 h0];exact wz oM oM fun _=>(zf2 oM).symm
 rw[← hfin,ly (z:=n) oM,ly (z:=p) oM,zf2 (p:=p<0) oM];have e1:=m9 (m:=n.natAbs) oM;have e2:=m9 (m:=p.natAbs) oM;have:=uY E g s (decide (n<0)) (jM n.natAbs) (jM p.natAbs) (rv oM) (rv oM) (by rw[e1,e2]; omega) (fun h=>by rw[e1]; have:=zf7 h; omega);rwa [e1,e2] at this
def FY (k i:Nat):Int:=if i=0 then 0 else k
theorem u4 (E:World)(g:PH)(s:Own)(B:List UInt8)(hB:B.length≤4) :
  Ctr Tryz.prog E 72 #[.agg #[vb false,txt B]] g s (fun r g' s'=>s=s'∧Le g g'∧r = .tuple #[vi (beN B),vb true]):=by
 have hC:=oc B;have hC4:=zK hB;obtain ⟨k,hk⟩:∃ k,k=beN B:=⟨_,rfl⟩;have hck:=cm k;refine za9 (args:=[.agg #[vb false,txt B]]) func72 I ntmps72 (bE I) ?_;refine rZ (bW (bO I) fun b1=>?_);refine lA I (aT I (rZ (lK (qV 0 isAgg121 dM I I I) (lW (cL call119 I (rI E _ _ false B hB)) ?_))));rintro v6 g1 _ ⟨rfl,hle1,hs1⟩;rw[← hk] at hs1 hC ⊢;obtain ⟨p1,c1,rfl⟩:=za2 hs1;have hll:=Dl k;refine aT I (sQ (sW I (lU (eN ba I) (lU (SU.eq (v':=vb false) (gR I I) (zd6 vb (zf2 oM))) (tZ (cF I (kP (tN (rZ (aT I (sQ (sW I (lU (eN ba I) (lM I (tZ (bK ?_))))))))))))))));refine oP (ι:=Nat) (fun i=>[(1,pp b1 0),(5,.int .u64 (FY k i)),(13,.slice p1 (dn k).length c1),(14,vi (dn k).length),(15,vi i)]) (fun _=>g1) (fun _=>pt b1 (.cells #[vb false,txt B] 121 (0,0))::s) (fun i=>i≤(dn k).length) (fun i=>(dn k).length - i) 0 sB I I (zf1 _) ?_;rintro i hi;refine rZ (yL I (tZ (sQ ?_)));refine iP I (fun hlt=>?_) (fun hlt=>?_)
 ·obtain rfl:i=0:=oM
  rcases hck with ⟨e,-⟩ | ⟨e,hk0⟩
  ·rw[e] at hlt;simp at hlt
  have hb1:=za4 hs1 (by rw[e]; exact Nat.zero_lt_one);have hg0:(dn k)[((0:Nat):Int).toNat]?=some (k:Int):=by rw[e]; rfl
  have hor:IntKind.u64.wrap (BitVec.ofInt IntKind.u64.bits (FY k 0) ||| BitVec.ofInt IntKind.u64.bits (k:Int)).toNat=FY k 1:=by
   have:=Ee 0 k dC oM;rw[Nat.zero_or] at this;exact this
  refine kP (tN (sQ (bK (sW I (lU (iA ba dT I I hb1 dC sL) (lK (eB isAgg160 I (za5 hs1) hg0 I) (lA I (aT I (rG (lM I (lM I (lM I (lU (SU.eq (v':=vi 0) (SU.mulW I I) (zd6 vi (zk4 _ dC))) (lU (SU.eq (v':=.int .u64 (k:Int)) (SU.shl I I dC) (zd6 (Value.int .u64) (by rw[show (2:Int) ^ min (0:Int).toNat IntKind.u64.bits=1 by decide,wq]; omega))) ?_))))))))))))));refine lU (SU.eq (v':=.int .u64 (FY k 1)) (SU.or I I) (zd6 (Value.int .u64) hor)) (lA I (nL (bN (tN (rG (yD I (lM I (nL ?_))))))));exact gA 1 sB I I (by rw[e]; exact lR _) (by rw[e]; exact Nat.zero_lt_one)
 ·obtain rfl:i=(dn k).length:=oM;have hacc:FY k (dn k).length=(k:Int):=by
   rcases hck with ⟨e,h0⟩ | ⟨e,-⟩
   ·rw[e,h0]; rfl
   ·rw[e]; rfl
  rw[hacc];refine xI (tX (tX (bX (tN (sQ (bK (rZ (lU (fA mf I zT4 I) (lK (qL isAgg4 I (cO 0 I I)) (lM I (yA I (yA I (yF I (aT I (cF I (sW I (lU (SU.eq (v':=vb false) (gQ I I) (zd6 vb (zf2 oM))) (aT I (cF I (kP (bN (tN ?_))))))))))))))))))))));refine sW I (lU (SU.eq (v':=vi k) (zd4 ny uT3 I) (zd6 vi (zk4 _ oM))) (lA I (aT I (rE (dR (s':=s) uR ?_)))));exact ST.ret2 (.inl I) results72 I I ⟨I,hle1,I⟩
theorem tV (E:World)(g:PH)(s:Own)(n:Int)(h0:0≤n)(h1:n<4294967296) :
  Ctr Tryz.prog E 72 #[pm n] g s (fun r g' s'=>s=s'∧Le g g'∧r = .tuple #[vi n,vb true]):=by
 have e1:=m9 (m:=n.natAbs) oM;have:=u4 E g s (jM n.natAbs) (rv oM);rw[e1,show ((n.natAbs:Nat):Int)=n by omega] at this;rw[ly oM,zf2 (p:=n<0) oM];exact this
def zC (L:List Int)(p:Int)(i:Nat):List Int:=(L.take i).map (· % p)++List.replicate (L.length - i) 0
theorem Dd (L:List Int)(p:Int){i:Nat}(h:i≤L.length):(zC L p i).length=L.length:=by
 unfold zC;rw[zd9,ze1,zd8,List.length_replicate];omega
theorem Bo (L:List Int)(p:Int):zC L p 0=List.replicate L.length 0:=rfl
theorem De (L:List Int)(p:Int):zC L p L.length=L.map (· % p):=by
 unfold zC;rw[List.take_length,Nat.sub_self];simp
theorem Dc (L:List Int)(p:Int){i:Nat}(h:i<L.length):(zC L p i).set i (L[i] % p)=zC L p (i+1):=by
 unfold zC;have hl:((L.take i).map (· % p)).length=i:=by rw[ze1,zd8]; omega
 rw[List.set_append_right _ _ oM,hl,Nat.sub_self,show L.length - i=(L.length - (i+1))+1 by omega,List.replicate_succ,List.set_cons_zero,tS h,zf9];simp
theorem BP (E:World)(g:PH)(s:Own)(v:Value)(p:Int)(hp:Fp p)(R C:Nat)(hR:R≤400)(hC:C≤400)(L:List Int)(hL:L.length=R * C)(hv:F0 g v (R,C,L))(h1:∀ n∈L,n.natAbs≤1) :
  Ctr Tryz.prog E 32 #[vi p,v] g s (fun x g' s'=>s=s'∧Le g g'∧FmR g' x p R C (L.map (· % p))):=by
 have hlt:=hp.lt;have hm:=zB hR hC;obtain ⟨q,c,rfl,hs⟩:=hv;dsimp only at hs ⊢;refine za9 (args:=[vi p,.agg #[vi R,vi C,.slice q L.length c]]) func32 I ntmps32 (bE I) ?_;refine rZ (bW (bO I) fun b3=>?_);refine bW (aL zk9) fun b4=>?_;refine tZ (sW I (lU (fA underlying58 I zT3 I) (lK (qL (v:=vi R) iT3 I (cO 1 I I)) (lU (fA underlying58 I zT3 I) (lK (qL (v:=vi C) iT3 I (cO 1 I I)) (lW (cL call69 I (td E g _ p hp R C hR hC)) ?_))))));rintro _ _ _ ⟨rfl,bz,rfl,rfl⟩;refine bW (aL zk9) fun b5=>?_;refine oZ (sK 0 fu rfl rfl rfl rfl rfl (by (repeat' (first | exact trivial | refine⟨by rfl,?_⟩)))) ?_;refine tZ (sQ (rZ (lU (fA gz I zT3 I) (lK (qL (v:=vi p) iT3 I (cO 0 I I)) (lU (SU.eq (v':=vb false) (eQ I I) (zd6 vb (zf2 oM))) (lM I (lY I I I (fA underlying58 I sizeOf56 I) (SL.gq (gT I I I dC) (qL (v:=.slice q L.length c) isAgg56 I (cO 3 I I)) dC (lY I I I (eN underlying56 I) (lY I I I (fA gz I cf I) (SL.gq (gT I I I dC) (qL (v:=.slice (some ⟨bz,0,none⟩) (R * C) (R * C)) dw I (cO 0 I I)) dC (lY I I I (eN ak I) (lY I I I (SU.eq (v':=vb false) (nQ I I) (zd6 vb (by rw[hL]; simp))) ?_)))))))))))));refine yF I (tZ (cF I (kP (tN (sW I (lW (cL call70 I (te E g _ p oM oM)) ?_))))));rintro _ g1 _ ⟨rfl,rfl,hle1⟩;refine bW (aL zk6) fun b6=>?_;refine oZ (sK 0 dM I I I I I sB) ?_;refine tZ (sQ (rZ (lU (fA underlying58 I sizeOf56 I) (lK (qL (v:=.slice q L.length c) isAgg56 I (cO 4 I I)) (lU (eN underlying56 I) (lM I (tZ (bK ?_))))))));refine oP (ι:=PH×Nat) (fun z=>[(3,pp b3 0),(4,pp b4 0),(5,pp b5 0),(6,pp b6 0),(34,.slice q L.length c),(35,vi L.length),(36,vi z.2)]) (fun z=>z.1) (fun z=>pt b6 (.cells #[vb (decide (p<0)&&decide (jM p.natAbs≠[])),txt (jM p.natAbs)] 121 (0,0))::pt b5 (.cells #[vi p,vi R,vi C,.slice (some ⟨bz,0,none⟩) (R * C) (R * C)] 62 (0,0))::rowA encInt 3 (.slice (some ⟨bz,0,none⟩) (R * C) (R * C)) (zC L p z.2)::pt b4 (.cells #[vi 0,vi 0,vi 0,.slice none 0 0] 62 (0,0))::pt b3 (.cells #[vi R,vi C,.slice q L.length c] 58 (0,0))::s) (fun z=>z.2≤L.length∧Le g z.1) (fun z=>L.length - z.2) (g1,0) sB I (by rw[Bo,hL]; rfl) ⟨zf1 _,hle1⟩ ?_;rintro ⟨g2,i⟩ ⟨hi,hle2⟩;dsimp only at hi hle2 ⊢;refine rZ (yL I (tZ (sQ ?_)));refine iP I (fun hlt2=>?_) (fun hlt2=>?_)
 ·have hiL:i<L.length:=oM;have hs2:=za3 hs hle2;have hlm:(L.map wd).length=L.length:=ze1 ..;have hb1:=za4 hs (by rw[hlm]; omega);have hgi:(L.map wd)[((i:Nat):Int).toNat]?=some (wd L[i]):=by rw[zh4]; show (L[i]?).map wd=_; rw[gE hiL]; rfl
  have hml:=Dd L p hi;have hset:=Dc L p hiL;have ha:=h1 _ (gM hiL);generalize L[i]=a at *;have hr0:0≤a % p:=zk1 _ oM;have hr1:a % p<p:=zj9 _ oM;refine kP (tN (sQ (bK (sW I (lU (iA underlying56 dM I I hb1 oM sL) (lK (eA isAgg121 dM I (za5 hs2) hgi) (bW (aL zk6) fun b8=>?_)))))));refine lA I (oZ (sK 0 dM I I I I I sB) ?_);refine tZ (rZ (lK (qV 0 isAgg121 dM I I I) (lK (qV 1 isAgg121 dM I I I) (lW (cL call71 I (tU E g2 _ a p oM oM)) ?_))));rintro _ g3 _ ⟨rfl,hle3,qb,qt,rfl⟩;refine lM I (yX I (yX I (yX I (bW (aL zk6) fun b9=>?_))));refine bW (aL zk6) fun b10=>?_;refine oZ (sK 1 dM I I I I I sB) ?_;refine oZ (sK 0 dM I I I I I sB) ?_;refine aT I ?_;refine dW [9] [(0,2),(1,1),(2,2),(3,1),(4,0),(5,2),(6,2),(7,2),(8,2),(9,0)] zd7 kR ?_;refine pU I (fA gz I cf I) (pK I (qL (v:=.slice (some ⟨bz,0,none⟩) (R * C) (R * C)) dw I (cO 4 I I)) (yM I (pK I (qV 0 isAgg121 dM I I I) (SP.o I (cL call72 I (tV E g3 _ (a % p) hr0 oM)) dC (.inr iR) ?_))));rintro _ g4 _ ⟨rfl,hle4,rfl⟩;refine yM I (pU I (xT I I) (pU I (xT I I) (pU I (iA ak zT3 I I I oM sL) (SP.on I (sT (a:=a % p) (j:=i) 5 zT3 I I I (by rw[hml]; exact hiL) I) (.inl dC) ?_))));rintro _ _ _ ⟨rfl,rfl⟩;refine pN (bN (tN (rG (yD I (lM I (nL (dR (.cons _ (.cons _ (.cons _ (.refl _)))) ?_)))))));exact gA (g4,i+1) sB I (by rw[← hset]; rfl) ⟨by dsimp only; omega,hle2.trans (hle3.trans hle4)⟩ (by dsimp only; omega)
 ·obtain rfl:i=L.length:=oM;rw[De];refine xI (tX (tX (bX (tN (rZ (lK (qV 1 pd fu I I I) ?_))))));refine oZ (sK 3 fu rfl rfl rfl rfl rfl (by (repeat' (first | exact trivial | refine⟨by rfl,?_⟩)))) ?_;refine tZ (rE (dR (.cons _ (.cons _ (.refl _))) (fT fun g4 hle4 hs4=>?_)));have e:(L.map (· % p)).length=R * C:=by rw[ze1,hL]
  exact ST.retCD 0 s (.inl I) results32 I pd fu I I uR ⟨I,hle2.trans hle4,some ⟨bz,0,none⟩,R * C,by rw[e]; rfl,by rw[e]; exact hs4⟩
theorem wS {A:List Cl}(h:Rt A):dj A:=⟨by have:=h.few; omega,fun c hc=>by have:=m0 (h.form c hc); omega⟩
theorem zM {l:List Cl}(h:Rt l):wv l+1=((dimN l:Nat):Int)∧dimN l≤9:=by
 have h1:=(uF (ae l) (-1)).1;have h2:=Am (M:=8) (ae l) (-1) oM fun c hc=>by
  rw[h.tab] at hc;have:=(h.form c hc).dim;omega
 unfold wv dimN;omega
theorem Gu {p:Int}(h2:2≤p)(L:List Int):∀ x∈L.map (· % p),0≤x∧x<p:=fun x hx=>by
 obtain ⟨y,-,rfl⟩:=ze6.1 hx;exact⟨zk1 _ oM,zj9 _ oM⟩
theorem Bf (E:World)(g:PH)(s:Own)(p:Int)(h2:2≤p)(h9:p<9)(hp:fV p=true) :
  Ctr Tryz.prog E 26 #[vi p] g s (fun r g' s'=>r=vb true∧g=g'∧s=s'):=by
 have:=lG E g s p h2 h9;rwa [hp] at this
theorem vM (E:World)(g:PH)(s:Own)(v:Value)(l:List Cl)(hv:aq g v l)(hr:Rt l)(h100:l.length≤100) :
  Ctr Tryz.prog E 27 #[.agg #[v]] g s (fun x g' s'=>s=s'∧Le g g'∧x=vi 0):=by
 have hf:=wS hr;obtain ⟨q,c,rfl⟩:=hv.form;obtain ⟨hD,hD9⟩:=zM hr;refine za9 (args:=[.agg #[.slice q l.length c]]) func27 I ntmps27 (bE I) ?_;refine rZ (bW (bO I) fun b1=>?_);refine aT I (sQ (rZ (lK (qV 0 br az I I I) (lW (cL call37 I (jK E g _ _ l hv hf)) ?_))));rintro _ _ _ ⟨rfl,rfl,rfl⟩;rw[hr.check];refine lM I (yX I (yX I (lA I (aT I (sW I (lU (SU.eq (v':=vb false) (nQ I I) (zd6 vb (by simp))) ?_))))));refine tZ (cF I (kP (tN (sQ (rZ (lK (qV 0 br az I I I) (lW (cL call14 I (m5 E g _ _ l hv hf)) ?_)))))));rintro _ g1 _ ⟨rfl,rfl,hle1⟩;refine lU (SU.eq (v':=vi (dimN l:Nat)) (aD I I oM) (zd6 vi hD)) (lM I (tZ (bK ?_)));refine oP (ι:=PH×Nat) (fun z=>[(1,pp b1 0),(16,vi (dimN l)),(17,vi z.2)]) (fun z=>z.1) (fun z=>pt b1 (.cells #[.slice q l.length c] 30 (0,0))::s) (fun z=>z.2≤dimN l∧Le g z.1) (fun z=>dimN l - z.2) (g1,0) sB I I ⟨zf1 _,hle1⟩ ?_;rintro ⟨g2,n⟩ ⟨hn,hle2⟩;dsimp only at hn hle2 ⊢;refine rZ (yL I (tZ (sQ ?_)));refine iP I (fun hlt=>?_) (fun hlt=>?_)
 ·obtain ⟨e1,e2⟩:=qK hr (n:Int);refine kP (tN (sQ (bK (sW I (aT I (rZ (lK (qV 0 br az I I I) (lM I (lW (cL call34 I (mX E g2 _ _ l (n:Int) (hv.mono hle2) hf)) ?_)))))))));rintro u g3 _ ⟨rfl,hle3,hu⟩;obtain ⟨p1,c1,rfl⟩:=za2 hu;refine lU (eN ak I) (lU (SU.eq (v':=vb false) (gR I I) (zd6 vb (zf2 oM))) (tZ (cF I (kP (bN (tN (rG (yD I (lM I (nL ?_))))))))));exact gA (g3,n+1) sB I I ⟨by dsimp only; omega,hle2.trans hle3⟩ (by dsimp only; omega)
 ·refine xI (tX (tX (bX (tN (rZ (aT I (rE (dR (s':=s) uR ?_))))))));exact za6 (.inl I) results27 I ⟨I,hle2,I⟩
theorem wi (E:World)(g:PH)(s:Own)(v:Value)(b k:Nat)(p:Int)(hp:Fp p)(R C:Nat)(hR:R≤400)(hC:C≤400)(L:List Int)(hL:L.length=R * C)(hv:F0 g v (R,C,L))(h1:∀ n∈L,n.natAbs≤1)(hk:s[k]?=some (pt b (.cells #[vi p] 3 (0,0)))) :
  Ctr Tryz.prog E 30 #[v,pp b 0] g s (fun x g' s'=>s=s'∧Le g g'∧x=vi (rk p (atF (L.map (· % p)) C) R C:Nat)):=by
 have hv0:=hv;have hp2:=hp.lt;obtain ⟨q,c,rfl,hs⟩:=hv;dsimp only at hs hv0 ⊢;refine za9 (args:=[.agg #[vi R,vi C,.slice q L.length c],pp b 0]) func30 I ntmps30 (bE I) ?_;refine rZ (bW (bO I) fun b2=>?_);refine aT I (rZ (lK (qL (v:=vi p) iT3 I (cO (k+1) hk I)) (lK (qV 0 isAgg58 pz I I I) (lW (cL call32 I (BP E g _ _ p hp R C hR hC L hL hv0 h1)) ?_))));rintro v6 g1 _ ⟨rfl,hle1,hm⟩;refine lW (cL call31 I (qv E g1 _ v6 p hp R C hR hC (L.map (· % p)) (by rw[ze1]; exact hL) hm (Gu oM L))) ?_;rintro _ g2 _ ⟨rfl,hle2,rfl⟩;refine aT I (rE (dR (s':=s) uR ?_));exact za6 (.inl I) results30 I ⟨I,hle1.trans hle2,I⟩
theorem Ea {p:Int}(hp:Fld p)(X:List Cl)(d:Int):rkD p X d≤X.length:=by
 have h1:rkP p (eT X d) (eT X (d - 1))≤(eT X d).length:=by
  unfold rkP rkL;exact jP hp _ _ _
 have h2:(eT X d).length≤X.length:=zc2 _ _;unfold rkD;omega
theorem vy {β:Type}(f:Nat→β)(d:Nat):(List.range (d+1)).map f=(List.range d).map f++[f d]:=by rw[List.range_succ,zf9]; rfl
theorem vS (E:World)(g:PH)(s:Own)(v:Value)(l:List Cl)(p:Int)(hv:aq g v l)(hr:Rt l)(h100:l.length≤100)(hp:fV p=true) :
  Ctr Tryz.prog E 11 #[.agg #[v],vi p] g s (fun x g' s'=>s=s'∧Le g g'∧∃ u,x = .tuple #[u,vi 0]∧bJ g' u ((List.range (dimN l)).map fun d:Nat=>ph p l d)):=by
 have hf:=wS hr;have hfp:=fL.1 hp;have hpl:=hfp.lt;have hfld:=hfp.fld;obtain ⟨q,c,rfl⟩:=hv.form;obtain ⟨hD,hD9⟩:=zM hr;refine za9 (args:=[.agg #[.slice q l.length c],vi p]) func11 I ntmps11 (bE I) ?_;refine rZ (bW (bO I) fun b2=>?_);refine bW (bO I) fun b3=>?_;refine lA I (aT I (sQ (rZ (lK (qL (v:=vi p) iT3 I (cO 0 I I)) (lU (SU.eq (v':=vb true) (nQ I I) (zd6 vb (zf3 oM))) (lM I (SL.gq (gT I I I dC) (qL (v:=vi p) iT3 I (cO 0 I I)) dC (SL.go (gT I I I dC) (cL call26 I (Bf E g _ p oM oM hp)) dC ?_))))))));rintro _ _ _ ⟨rfl,rfl,rfl⟩;refine lY I I I (SU.not I) (yP I (tZ (cF I (kP (tN (sQ (rZ (lK (qV 1 br az I I I) (lW (cL call27 I (vM E g _ _ l hv hr h100)) ?_)))))))));rintro _ g1 _ ⟨rfl,hle1,rfl⟩;refine aT I (sW I (lU (SU.eq (v':=vb false) (nQ I I) (zd6 vb (by simp))) ?_));refine tZ (cF I (kP (tN (rZ (aT I (sQ (rZ (lK (qL (v:=vi p) iT3 I (cO 0 I I)) (lU (SU.eq (v':=vb true) (nQ I I) (zd6 vb (zf3 oM))) (tZ (cT I (rG (lU (SU.mkFunc I) (aT I (rZ (aT I (rZ ?_)))))))))))))))));refine aT I (sQ (rZ (lK (qV 1 br az I I I) (lW (cL call14 I (m5 E g1 _ _ l (hv.mono hle1) hf)) ?_))));rintro _ g2 _ ⟨rfl,rfl,hle2⟩;refine lU (SU.eq (v':=vi (dimN l:Nat)) (aD I I oM) (zd6 vi hD)) (lM I (tZ (bK (zb4 3 1 ?_))));have h00:=CV hfld hr;refine oP (ι:=PH×Nat×Value) (fun z=>[(2,pp b2 0),(3,pp b3 0),(7,.func (.func 30) #[] #[pp b3 0]),(8,z.2.2),(9,vi (rkD p l (z.2.1:Int):Nat)),(29,vi (dimN l)),(30,vi z.2.1)]) (fun z=>z.1) (fun z=>rowA encInt 3 z.2.2 ((List.range z.2.1).map fun d:Nat=>ph p l d)::pt b3 (.cells #[vi p] 3 (0,0))::pt b2 (.cells #[.slice q l.length c] 30 (0,0))::s) (fun z=>z.2.1≤dimN l∧Le g z.1) (fun z=>dimN l - z.2.1) (g2,0,.slice none 0 0) ⟨I,I,I,I,by show _=some (vi ((rkD p l 0:Nat):Int)); rw[h00]; rfl,rfl,rfl,trivial⟩ rfl rfl ⟨zf1 _,hle1.trans hle2⟩ ?_;rintro ⟨g3,n,ov⟩ ⟨hn,hle3⟩;dsimp only at hn hle3 ⊢;have hrl:((List.range n).map fun d:Nat=>ph p l d).length=n:=by rw[ze1,zh8]
 refine rZ (yL I (tZ (sQ ?_)));refine iP I (fun hlt2=>?_) (fun hlt2=>?_)
 ·obtain ⟨e1,e2⟩:=qK hr (n:Int);obtain ⟨e3,e4⟩:=qK hr ((n:Int)+1);have e5:=(qK hr ((n:Int)+1 - 1));have hmr:=Bs oM hr.tab ((n:Int)+1) (M:=l);have hrk:=Fd hfld hr ((n:Int)+1);have hb1:=Ea hfld l (n:Int);have hb2:=Ea hfld l ((n:Int)+1);have hbet:ph p l ((n:Nat):Int)=((cj l (n:Int)).length:Int) - (rkD p l (n:Int):Int) - (rkD p l ((n:Int)+1):Int):=by rw[e1]; rfl
  refine kP (tN (sQ (bK (sW I (aT I (sW I (lK (qV 2 br az I I I) (lM I (yD I (lW (cL call33 I (vL E g3 _ _ l ((n:Int)+1) (hv.mono hle3) hf oM)) ?_))))))))));rintro v37 g4 _ ⟨rfl,hle4,hm4⟩;rw[hmr] at hm4;refine lW (SO.callV I I (cC.mk (cap:=[pp b3 0]) call30 (wi E g4 _ v37 b3 1 p hfp _ _ oM oM (xS l ((n:Int)+1)) (xf l ((n:Int)+1)) hm4 (Fy hr ((n:Int)+1)) I))) ?_;rintro _ g5 _ ⟨rfl,hle5,rfl⟩;rw[hrk];refine aT I (sW I (lK (qV 2 br az I I I) (lM I (lW (cL call34 I (mX E g5 _ _ l (n:Int) (hv.mono (hle3.trans (hle4.trans hle5))) hf)) ?_))));rintro u g6 _ ⟨rfl,hle6,hu⟩;obtain ⟨p1,c1,rfl⟩:=za2 hu;refine lU (eN ak I) (lM I (lU (sU I I oM) (lM I (lU (SU.eq (v':=vi (ph p l ((n:Nat):Int))) (sU I I oM) (zd6 vi hbet.symm)) (lW (bS sty25 I I I (ab ⟨I,trivial⟩) dC) ?_)))));rintro _ _ _ ⟨b48,rfl,rfl,rfl⟩;refine lW (aP (e:=encInt) (l:=(List.range n).map fun d:Nat=>ph p l d) 0 (ph p l ((n:Nat):Int)) sty25 I I I I I oM oM) ?_;rintro v49 _ _ ⟨rfl,rfl⟩;refine aT I (rG (lM I (lA I (nL (bN (tN (rG (yD I (lM I (nL ?_))))))))));exact gA (g6,n+1,v49) sB I (by dsimp only; rw[vy]; rfl) ⟨by dsimp only; omega,hle3.trans (hle4.trans (hle5.trans hle6))⟩ (by dsimp only; omega)
 ·obtain rfl:n=dimN l:=oM;refine xI (tX (tX (bX (tN (sW I (lA I (aT I (rE (fT fun g4 hle4 hs4=>?_)))))))));refine dR (s':=s) uR ?_;exact ST.ret2 (.inl I) results11 I I ⟨I,hle3.trans hle4,_,I,hs4⟩
set_option maxHeartbeats 2000000
def zx (y:Int):Int:=if bF y 3=0 then 2 else if bF y 3=1 then 3 else 5
theorem CA (y:Int):([2,3,5]:List Int)[(bF y 3).toNat]?=some (zx y):=by
 have:=aV y 3 dC dC;unfold zx
 rcases (by omega:bF y 3=0∨bF y 3=1∨bF y 3=2) with e | e | e
 ·rw[e]; rfl
 ·rw[e]; rfl
 ·rw[e]; rfl
theorem ER (y:Int):fV (zx y)=true∧2≤zx y∧zx y<9:=by
 unfold zx;split
 ·decide
 ·split
  ·decide
  ·decide
theorem AR {l:List Cl}(hl:(ae l).length≤1000){T:List (List Int)}(hok:TOk l T):T.length<1099511627776∧∀ t∈T,t.length<1099511627776:=by
 refine⟨by have:=hok.few; omega,fun t ht=>?_⟩;have h1:=hok.len t ht;have h2:(iH l).length≤(ae l).length:=by unfold iH; rw[ze1]; exact zc2 _ _
 omega
theorem pj (E:World)(hE:E.drawn=0)(g:PH)(s:Own)(v nv:Value)(kd y:Int)(ls:List (List Int))(ns:List Int)(sd z:Int)(hv:aH g v ls)(hn:bJ g nv ns) :
  Ctr Tryz.prog E 3 #[.agg #[vi kd,v,vi y],nv,.agg #[vi sd,vi z]] g s (fun r g' s'=>r=vb true∧s=s'∧Le g g'):=by
 obtain ⟨p,n,c,rfl⟩:∃ p n c,v = .slice p n c:=by
  obtain ⟨rs0,hrs0,_⟩:=hv;obtain ⟨p,c,rfl⟩:=za2 hrs0;exact⟨_,_,_,I⟩
 have hsm:=AZ kd ls y;have hzr:=aV z 3 dC dC;obtain ⟨hpr,hp2,hp9⟩:=ER z;generalize hMd:i5 kd ls y=M at *;have hMl:=hsm.few;have hMf:dj M:=⟨oM,fun c hc=>by have:=m0 (hsm.rt.form c hc); omega⟩;have hMt:(ae M).length≤1000:=by rw[hsm.rt.tab]; omega
 refine za9 (args:=[.agg #[vi kd,.slice p n c,vi y],nv,.agg #[vi sd,vi z]]) func3 I ntmps3 (bE I) ?_;refine rZ (bW (bO I) fun b3=>?_);refine bW (bO I) fun b5=>?_;refine aT I (rZ (lW (cL call6 I (rV E hE g _)) ?_));rintro _ g1 _ ⟨rfl,rfl,hle1⟩;have hv1:=hv.mono hle1;refine aT I (rZ (lK (qV 1 isAgg24 sizeOf24 I I I) (lW (cL call7 I (yd E g1 _ _ kd y ls hv1)) ?_)));rintro _ g2 _ ⟨rfl,hle2,u2,rfl,hu2⟩;rw[hMd] at hu2;obtain ⟨q2,d2,rfl⟩:=hu2.form;refine bW (aL zl1) fun b8=>?_;refine oZ (sK 0 az I I I I I ⟨I,trivial⟩) (tZ (rZ (lW (bS sty25 I I I (ab sB) dC) ?_)));rintro _ _ _ ⟨b17,rfl,rfl,rfl⟩;refine zb3 fun g3 hle3 hb17=>?_;have h17:SlA encInt g3 (.slice (some ⟨b17,0,none⟩) 3 3) [2,3,5]:=SlA.lit hb17 rfl rfl;have hu3:=hu2.mono hle3;refine lU (SU.indexAddrA underlying26 zT3 I I dC dC) (lK (qL (v:=vi z) iT3 I (cO 1 I I)) (lW (cL kT8 I (aW E _ _ z 3 dC)) ?_));rintro _ _ _ ⟨rfl,rfl,rfl⟩;refine lU (iA ak zT3 I I I oM (show bF z 3<((3:Nat):Int) by omega)) ?_;refine lK (eB iT3 I (za5 h17) (CA z) I) (aT I (sQ ?_));refine dW [] [(0,1),(1,1),(2,2),(3,1),(4,2),(6,2),(5,0),(7,0),(8,2),(9,2),(10,2),(11,2),(12,2)] zd7 kR ?_;refine pK I (qV 0 br az I I I) (pK I (qV 0 br az I I I) (pU I (SU.indexAddrA underlying26 zT3 I I dC dC) (pK I (qL (v:=vi sd) iT3 I (cO 1 I I)) (yM I (yM I (SP.o I (cL call10 I (x5 E g3 _ _ _ M sd ns hu3 hMf hMt (za3 hn (hle1.trans (hle2.trans hle3))))) dC (.inr iR) ?_))))));rintro tv g4 _ ⟨rfl,hle4,T,hT,hok⟩;have hu4:=hu3.mono hle4;obtain ⟨hTl,hTs⟩:=AR hMt hok;have hpe:=sA hsm hok hpr;have hbp:=wh hsm hok hpr;refine SP.o rfl (cL call9 rfl (qB E hE g4 _ _ tv M T (zx z) hu4 hMf hsm.ids hT hTl hTs hp2 hp9)) dC (.inr (by rintro _ g5 _ ⟨rfl,hle5,u5,rfl,hB⟩; exact⟨by exact Le.trans (by assumption) (by assumption),(by exact .refl _)⟩)) ?_;rintro _ g5 _ ⟨rfl,hle5,u5,rfl,hB⟩;rw[hpe];rw[hbp] at hB;have hu5:=hu4.mono hle5;refine yM I (pU I (xT I I) (pU I (xT I I) (pU I (aS I) (pU I (aS I) (pN (tN (rZ (lK (qV 0 br az I I I) (lM I (lW (cL call11 I (vS E g5 _ _ M (zx z) hu5 hsm.rt oM hpr)) ?_))))))))));rintro _ g6 _ ⟨rfl,hle6,u6,rfl,hC⟩;have hB6:=za3 hB hle6;refine lM I (yX I (yX I (lA I (aT I (sW I (lM I (yC I (lY I I I (eQ I I) (yP I (lM I (yC I (lY I I I (eQ I I) (yP I (lM I (yC I (yC I (SL.go (gT I I I dC) (cL call12 I (nS E g6 _ _ _ _ _ hB6 hC (by rw[ze1,zh8]; have:=(zM hsm.rt).2; omega))) dC ?_)))))))))))))))));rintro _ _ _ ⟨rfl,rfl,rfl⟩;rw[zf3 (rfl:(List.range (dimN M)).map (fun d:Nat=>ph (zx z) M d)=_)];refine yP I (aT I (rE (dR (s':=s) uR ?_)));exact za6 (.inl I) results3 I ⟨I,I,hle1.trans (hle2.trans (hle3.trans (hle4.trans (hle5.trans hle6))))⟩
end Go.Proofs.YtkbagdedfdfjhaaGreatDoor
namespace Go.Proofs.YtkbagdedfdfjhaaGreatDoor.tilesBettiDone
open _root_.Go.Proofs.Tryz _root_.Go.Proofs.YtkbagdedfdfjhaaGreatDoor.Tryz
open Go Go.Sy Go.Pl Go.Proofs Go.Proofs.YtkbagdedfdfjhaaGreatDoor
open Go.ChangeShapes Go.WideShapes Go.ChangeAt Go.RowKit
set_option linter.unusedVariables false
theorem own:ownKnob Tryz.prog.godebug=none:=by kernel_rfl
theorem laidOut:laidOutB Tryz.prog=true:=by kernel_rfl
set_option maxRecDepth 100000 in
theorem lifted (os:Os)(started:os.Started)(H:Type)(enc:TypeId×Value→H) :
  ReturnsInHanded {} Tryz.checked os 3 .any (fun w args=>(Rows.tilesBettiSpec.pre enc Tryz.prog f3 Rows.tilesBettiRow.domain false w args∧laidMetH Tryz.prog Rows.tilesBettiRow.laid w)∧sizedMet enc Tryz.prog f3 (OpenSpec.ofChange Rows.tilesBettiSpec) false w args)
   (Rows.tilesBettiSpec.post enc Tryz.prog f3 false true false false):=by
 refine returnsInHanded_of_change_and (C:=Tryz.checked) (X:=fun w _=>laidMetH Tryz.prog Rows.tilesBettiRow.laid w) (fun _ _ _ hh h=>h.of_heap hh) own started kR func3
  (ChangeSpec.witness_shaped (enc:=enc) (C:=Tryz.checked) (os:=os) (X:=fun w _=>laidMetH Tryz.prog Rows.tilesBettiRow.laid w) false (World.laidAll Tryz.prog os Rows.tilesBettiRow.laid) #[.agg #[.int .i64 0,.slice none 0 0,.int .i64 0],.slice none 0 0,.agg #[.int .i64 0,.int .i64 0]] 8 (World.laidAll_os _ _ _)
   (World.shaped_of_ZipB kR kR) kR kR kR
   (by rw[MakeChecks.laidMetH_plain _ _ _ kR]; exact laidMet_laidAll _ kR kR)) ?_
 intro W base args ds gs before hval0 hW hcnd hsz0 hL _;have hval:∀ (j:Nat) t v,f3.params[j]?=some t→args[j]?=some v→Value.okWide Tryz.prog W .any base t v:=hval0;have hW':=hW;obtain ⟨p,q,hA0,hV,rfl,hfz,hnd⟩:=hW;have hA:DataW.TrodAll enc Tryz.prog W 0 (fun _=>true) true f3.params.toList args.toList ds p:=hA0;rw[params3] at hA hval;obtain ⟨v0,vs0,d0,ds0,p0,q0,hargs,rfl,rfl,h0,r0⟩:=trodAll_cons hA;obtain ⟨v1,vs1,d1,ds1,p1,q1,rfl,rfl,rfl,h1,r1⟩:=trodAll_cons r0;obtain ⟨v2,vs2,d2,ds2,p2,q2,rfl,rfl,rfl,h2,r2⟩:=trodAll_cons r1;obtain ⟨rfl,rfl,rfl⟩:=trodAll_nil r2;obtain rfl:args = #[v0,v1,v2]:=by cases args; simp_all
 obtain ⟨rfl,rfl⟩:=trodVars_none hV;have lt0:∀ x∈p0,x.block<W.heap.size:=by obtain ⟨m,hm⟩:=h0; exact DataW.trod_lt m _ _ _ hm
 have lt1:∀ x∈p1,x.block<W.heap.size:=by obtain ⟨m,hm⟩:=h1; exact DataW.trod_lt m _ _ _ hm
 have lt2:∀ x∈p2,x.block<W.heap.size:=by obtain ⟨m,hm⟩:=h2; exact DataW.trod_lt m _ _ _ hm
 obtain ⟨kd,y,u,ls,e0,hls⟩:=CK (hval 0 24 v0 rfl rfl) h0;obtain ⟨a1,n1,c1,s1⟩:=okWide_slice ak (hval 1 25 v1 rfl rfl);obtain ⟨ns1,hn1⟩:=Dq h1 (by rw[s1]; rfl);obtain ⟨x2_0,x2_1,e2,w2_0,w2_1⟩:=DO (hval 2 26 v2 rfl rfl) h2;clear hA0 hval0;have walk:Calls Tryz.prog 3 #[v0,v1,v2] W fun e w'=>e = .returned (.bool true)∧Below W.heap.size W w':=by
  rw[e0,e2];refine (pj (E0 W) I (wu W) [] u _ kd y ls ns1 x2_0 x2_1 hls hn1 W (DR W)).mono ?_;rintro e w' ⟨v,g',s',rfl,hat,rfl,rfl,hle⟩;exact⟨I,DT hat hle⟩
 refine walk.mono fun e W' ⟨he,bel⟩=>?_;subst he;exact⟨_,I,_,_,_,[],_,[],hW',trodAll_mk1 (shut_bool uT4 _),(trodAll_cons_mk (Below.trod laidOut kR (zf7 kR) h0 bel lt0) (trodAll_cons_mk (Below.trod laidOut kR (zf7 kR) h1 bel lt1) (trodAll_cons_mk (Below.trod laidOut kR (zf7 kR) h2 bel lt2) trodAll_mk0))),I,bel.frame _,fun h=>by cases h⟩
def Ep (P:Program)(fn:Func)(c:OpenClaim):Bool:=(c.kinds == (if c.domain.isEmpty then [] else fn.params.toList.map fun t=>match P.underlying t with | some (.int k)=>some k | _=>none))
theorem gX {a b:Bool}(h:a=true)(k:b=true):(a&&b)=true:=by rw[h,k]; rfl
theorem BA {P:Program}{f:FuncId}{fn:Func}{s:ChangeSpec}{c:OpenClaim}
  (h0:(c.wf (OpenSpec.ofChange s))=true)
  (h1:(laidOutB P)=true)
  (h2:(mapsRowed P)=true)
  (h3:(fn.params.all (P.readableRec ·))=true)
  (h4:(namedTie P c.named s.vars)=true)
  (h5:((c.stops == []))=true)
  (h6:((P.stops == []))=true)
  (h7:((c.knobs == []))=true)
  (h8:((P.stopKnobs == []))=true)
  (h9:((c.inPlace == P.inPlace f))=true)
  (h10:((c.unfollowed == P.unfollowed f))=true)
  (h11:((c.recurses == P.recurses f))=true)
  (h12:((c.named == P.varsNamed f))=true)
  (h13:((c.maps == (fn.params.toList++s.plain.varTypes P).any (P.mapsRec ·)))=true)
  (h14:((c.ifaces == (fn.params.toList++s.plain.varTypes P).any (P.ifacesRec ·)))=true)
  (h15:((c.mapsOut == P.mapsAmong fn.resultTypes.toList))=true)
  (h16:((c.loops == (fn.params.toList++s.plain.varTypes P).any (P.loopsFrom ·)))=true)
  (h17:((c.wideKeys == (fn.params.toList++s.plain.varTypes P++fn.resultTypes.toList).any (P.wideKeysFrom ·)))=true)
  (h18:(s.vars.all (P.varReadable ·))=true)
  (h19:(fn.resultTypes.all (fun t=>P.readableRec t&&decide (t<P.types.size)))=true)
  (h20:((c.ifacesOut == fn.resultTypes.toList.any (P.ifacesRec ·)))=true)
  (h21:((c.loopsOut == fn.resultTypes.toList.any (P.loopsFrom ·)))=true)
  (h22:((c.plainKeys == P.plainKeys))=true)
  (h23:(c.shortTexts.isNone)=true)
  (h24:(P.stopsHeard)=true)
  (h25:(P.mayEnter)=true)
  (h26:((c.lifted == P.liftsFinal))=true)
  (h27:((P.make == some c.make))=true)
  (h28:(Ep P fn c)=true)
  (h29:((c.pinned == c.pinnedBy))=true)
  (h30:((c.veiled == (fn.params.toList++s.plain.varTypes P++fn.resultTypes.toList).any (P.veiledRec ·)))=true)
  (h31:(c.veiledFits P fn.params.toList (fn.params.toList++s.plain.varTypes P++fn.resultTypes.toList))=true)
  : joinedFacts P f fn s c=true:=by
 exact gX (gX (gX (gX (gX (gX (gX (gX (gX (gX (gX (gX (gX (gX (gX (gX (gX (gX (gX (gX (gX (gX (gX (gX (gX (gX (gX (gX (gX (gX (gX h0 h1) h2) h3) h4) h5) h6) h7) h8) h9) h10) h11) h12) h13) h14) h15) h16) h17) h18) h19) h20) h21) h22) h23) h24) h25) h26) h27) h28) h29) h30) h31
theorem k0:(Rows.tilesBettiRow.wf (OpenSpec.ofChange Rows.tilesBettiSpec))=true:=by kernel_rfl
theorem k1:(laidOutB Tryz.prog)=true:=by kernel_rfl
theorem k2:(mapsRowed Tryz.prog)=true:=by kernel_rfl
theorem k3:(f3.params.all (Tryz.prog.readableRec ·))=true:=by kernel_rfl
theorem k4:(namedTie Tryz.prog Rows.tilesBettiRow.named Rows.tilesBettiSpec.vars)=true:=by kernel_rfl
theorem k5:((Rows.tilesBettiRow.stops == []))=true:=by kernel_rfl
theorem k6:((Tryz.prog.stops == []))=true:=by kernel_rfl
theorem k7:((Rows.tilesBettiRow.knobs == []))=true:=by kernel_rfl
theorem k8:((Tryz.prog.stopKnobs == []))=true:=by kernel_rfl
theorem k9:((Rows.tilesBettiRow.inPlace == Tryz.prog.inPlace 3))=true:=by kernel_rfl
theorem k10:((Rows.tilesBettiRow.unfollowed == Tryz.prog.unfollowed 3))=true:=by kernel_rfl
theorem k11:((Rows.tilesBettiRow.recurses == Tryz.prog.recurses 3))=true:=by kernel_rfl
theorem k12:((Rows.tilesBettiRow.named == Tryz.prog.varsNamed 3))=true:=by kernel_rfl
theorem k13:((Rows.tilesBettiRow.maps == (f3.params.toList++Rows.tilesBettiSpec.plain.varTypes Tryz.prog).any (Tryz.prog.mapsRec ·)))=true:=by kernel_rfl
theorem k14:((Rows.tilesBettiRow.ifaces == (f3.params.toList++Rows.tilesBettiSpec.plain.varTypes Tryz.prog).any (Tryz.prog.ifacesRec ·)))=true:=by kernel_rfl
theorem k15:((Rows.tilesBettiRow.mapsOut == Tryz.prog.mapsAmong f3.resultTypes.toList))=true:=by kernel_rfl
theorem k16:((Rows.tilesBettiRow.loops == (f3.params.toList++Rows.tilesBettiSpec.plain.varTypes Tryz.prog).any (Tryz.prog.loopsFrom ·)))=true:=by kernel_rfl
theorem k17:((Rows.tilesBettiRow.wideKeys == (f3.params.toList++Rows.tilesBettiSpec.plain.varTypes Tryz.prog++f3.resultTypes.toList).any (Tryz.prog.wideKeysFrom ·)))=true:=by kernel_rfl
theorem k18:(Rows.tilesBettiSpec.vars.all (Tryz.prog.varReadable ·))=true:=by kernel_rfl
theorem k19:(f3.resultTypes.all (fun t=>Tryz.prog.readableRec t&&decide (t<Tryz.prog.types.size)))=true:=by kernel_rfl
theorem k20:((Rows.tilesBettiRow.ifacesOut == f3.resultTypes.toList.any (Tryz.prog.ifacesRec ·)))=true:=by kernel_rfl
theorem k21:((Rows.tilesBettiRow.loopsOut == f3.resultTypes.toList.any (Tryz.prog.loopsFrom ·)))=true:=by kernel_rfl
theorem k22:((Rows.tilesBettiRow.plainKeys == Tryz.prog.plainKeys))=true:=by kernel_rfl
theorem k23:(Rows.tilesBettiRow.shortTexts.isNone)=true:=by kernel_rfl
theorem k24:(Tryz.prog.stopsHeard)=true:=by kernel_rfl
theorem k25:(Tryz.prog.mayEnter)=true:=by kernel_rfl
theorem k26:((Rows.tilesBettiRow.lifted == Tryz.prog.liftsFinal))=true:=by kernel_rfl
theorem k27:((Tryz.prog.make == some Rows.tilesBettiRow.make))=true:=by kernel_rfl
theorem k28:(Ep Tryz.prog f3 Rows.tilesBettiRow)=true:=by kernel_rfl
theorem k29:((Rows.tilesBettiRow.pinned == Rows.tilesBettiRow.pinnedBy))=true:=by kernel_rfl
theorem k30:((Rows.tilesBettiRow.veiled == (f3.params.toList++Rows.tilesBettiSpec.plain.varTypes Tryz.prog++f3.resultTypes.toList).any (Tryz.prog.veiledRec ·)))=true:=by kernel_rfl
theorem k31:(Rows.tilesBettiRow.veiledFits Tryz.prog f3.params.toList (f3.params.toList++Rows.tilesBettiSpec.plain.varTypes Tryz.prog++f3.resultTypes.toList))=true:=by kernel_rfl
theorem kp:Rows.tilesBettiRow.wfByText (OpenSpec.ofChange Rows.tilesBettiSpec)=true:=by kernel_rfl
theorem kf : Tryz.prog.funcNamed "cocycle/cocyclelaw24.TilesBetti" = some 3:=by kernel_rfl
theorem kr:Tryz.pinned.checked.prog.funcNamed Rows.tilesBettiRow.func=some 3:=by kernel_rfl
theorem kj:joinedFacts Tryz.pinned.checked.prog 3 f3 Rows.tilesBettiSpec Rows.tilesBettiRow=true :=
 BA k0 k1 k2 k3 k4 k5 k6 k7 k8 k9 k10 k11 k12 k13 k14 k15 k16 k17 k18 k19 k20 k21 k22 k23 k24 k25 k26 k27 k28 k29 k30 k31
theorem ki:f3.isInstance Tryz.prog Rows.tilesBettiRow.origin Rows.tilesBettiRow.targs:=zf7 kR
theorem kw:f3.isWrapper Tryz.prog Rows.tilesBettiRow.wrapper Rows.tilesBettiRow.mainSum:=by unfold Func.isWrapper; first | (rw[zf5 (by decide +kernel)]; kernel_rfl) | (rw[zf4 (by decide +kernel)]; exact⟨I,I⟩)
theorem km : Tryz.prog.mainIs = some (true,("d4cc9f3dc6a9b5effe993f82a597ef4545549033ec323cd3a6c24d7557273b7e" : String).toList):=by kernel_rfl
theorem kl:false=Tryz.prog.looks []:=by kernel_rfl
theorem kg:false=Rows.tilesBettiRow.goesBy Tryz.prog:=by kernel_rfl
theorem kq:([24,25,26].all fun u=>!Tryz.prog.wantsStandIn u)=true:=by kernel_rfl
theorem over:Rows.tilesBettiRow.holds Tryz.pinned (OpenSpec.ofChange Rows.tilesBettiSpec) :=
 OpenClaim.holds_of_wide 3 f3 rfl rfl rfl rfl rfl rfl rfl ⟨rfl,rfl,rfl,rfl,rfl⟩ rfl rfl rfl rfl rfl kr func3 kj ki kw
  (fun os started H enc _=>lifted os started H enc)
theorem proved:Rows.TilesBettiCardSaid :=
 Claim7.holds_tied_plain_at .later [] [.data,.pinned] true (true, "d4cc9f3dc6a9b5effe993f82a597ef4545549033ec323cd3a6c24d7557273b7e") false
  over (fun _ h=>by cases h) kp (fun _ h=>by cases h) tilesBetti_row_tie rfl ⟨rfl,rfl⟩ km rfl
  (fun f fn hf hfn=>by
   obtain rfl:f=3:=Option.some.inj (kf.symm.trans hf) |>.symm;obtain rfl:fn=f3:=(Option.some.inj (func3.symm.trans hfn)).symm;exact⟨kl,fun j t ht=>by
    rw[params3] at ht;have hm:t∈[24,25,26]:=by simpa using Array.mem_of_getElem? ht
    exact (show Tryz.prog.wantsStandIn t=false by simpa using List.all_eq_true.1 kq t hm)⟩)
  kg
#print axioms proved
end Go.Proofs.YtkbagdedfdfjhaaGreatDoor.tilesBettiDone
