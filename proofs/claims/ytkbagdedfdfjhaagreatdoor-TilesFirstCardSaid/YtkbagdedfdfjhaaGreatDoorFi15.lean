/-
  The first page of tiles: page 1 has the sums of the Betti numbers of the intersections of tiles, with the translation's given conditions.
-/
import Derived.Test.YtkbagdedfdfjhaaGreatDoorFi14
import Derived.Test.YtkbagdedfdfjhaaGreatDoorFi11
import Derived.Test.YtkbagdedfdfjhaaGreatDoorFi10
import Derived.Test.YtkbagdedfdfjhaaGreatDoorFi12
import Derived.Test.YtkbagdedfdfjhaaGreatDoorFi09
import Derived.Test.YtkbagdedfdfjhaaGreatDoorTie
import Derived.Test.YtkbagdedfdfjhaaGreatDoorCards
import Derived.JoinedOf
import Derived.LaidMore
import Derived.Lay
import Derived.SevenTiedAt
import Derived.Stop.Joined
set_option linter.unusedSimpArgs false
set_option linter.unusedVariables false
namespace Go.Proofs.YtkbagdedfdfjhaaGreatDoor
open _root_.Go.Proofs.Tryz _root_.Go.Proofs.YtkbagdedfdfjhaaGreatDoor.Tryz
open Go Go.Sy Go.Pl Go.Proofs
set_option maxRecDepth 100000
theorem GV:∀ s,s<16→∀ t,t<16→onesB s≤onesB t→iB s t 0=0:=by decide +kernel
def eK (L:List Cl)(f:Int→Nat)(s:Nat):List Cl:=L.filter fun c=>decide (s∈bC (f c.id))
theorem li {L:List Cl}{f:Int→Nat}{s:Nat}{c:Cl}:c∈eK L f s↔c∈L∧s∈bC (f c.id):=by
 unfold eK;rw[zh1,zj2]
def m0 (n m:Nat):List Nat:=(List.range (2 ^ n)).filter fun s=>decide (0<s)&&decide (onesB s=m)
theorem oJ {n m s:Nat}:s∈m0 n m↔s<2 ^ n∧0<s∧onesB s=m:=by
 unfold m0;rw[zh1,List.mem_range,zi9,zj2,zj2]
def kO (P:List (Cl×Nat))(m:Nat)(b:Int):List (Cl×Nat):=P.filter fun q=>decide (q.1.dim=b)&&decide (onesB q.2=m)
theorem jz {P:List (Cl×Nat)}{m:Nat}{b:Int}{q:Cl×Nat}:q∈kO P m b↔q∈P∧q.1.dim=b∧onesB q.2=m:=by
 unfold kO;rw[zh1,zi9,zj2,zj2]
section
variable {L:List Cl}{f:Int→Nat}{n:Nat}(h:Cov L f n)
include h
theorem Cov.pair16 {q:Cl×Nat}(hq:q∈aR L f):q.2<16∧0<onesB q.2∧q.2<2 ^ n:=by
 obtain ⟨h1,h2⟩:=hZ.1 hq;exact⟨(h.s16 h1 h2).2,(h.pos1 h1 h2).1,(h.s16 h1 h2).1⟩
theorem Cov.ent_up {q r:Cl×Nat}(hq:q∈aR L f)(hr:r∈aR L f)(hle:onesB q.2≤onesB r.2)(hne:q.2≠r.2):Go.Proofs.YtkbagdedfdfjhaaGreatDoor.entP q r=0:=by
 unfold Go.Proofs.YtkbagdedfdfjhaaGreatDoor.entP;rw[zf6 fun e=>hne e.symm,tt,GV _ (h.pair16 hq).1 _ (h.pair16 hr).1 hle,Int.mul_zero];split <;> rfl
theorem Cov.blocks {p:Int}(hp:Fld p)(b b':Int)(m:Nat):∀ S:List Nat,S.Nodup→(∀ s∈S,onesB s=m)→rkL p (S.flatMap fun s=>(dV (eK L f s) b).map fun c=>(c,s)) (S.flatMap fun s=>(dV (eK L f s) b').map fun c=>(c,s)) Go.Proofs.YtkbagdedfdfjhaaGreatDoor.entP=(S.map fun s=>rkL p (dV (eK L f s) b) (dV (eK L f s) b') d4).sum
 | [],_,_=>nz hp fun r hr=>by simp at hr
 | s::S,hn,hS=>by
  obtain ⟨n1,n2⟩:=zj8.1 hn;have hin:∀ (k:Int) (t:Nat) (q:Cl×Nat),q∈(dV (eK L f t) k).map (fun c=>(c,t))→q∈aR L f∧q.2=t:=fun k t q hq=>by
   obtain ⟨c,hc,rfl⟩:=ze8.1 hq;obtain ⟨c1,c2⟩:=li.1 (lh.1 hc).1;exact⟨hZ.2 ⟨c1,c2⟩,I⟩
  have hinS:∀ (k:Int) (q:Cl×Nat),q∈S.flatMap (fun t=>(dV (eK L f t) k).map fun c=>(c,t))→q∈aR L f∧q.2∈S:=fun k q hq=>by
   obtain ⟨t,ht,hq⟩:=List.mem_flatMap.1 hq;obtain ⟨a1,a2⟩:=hin k t q hq;exact⟨a1,by rw[a2]; exact ht⟩
  rw[zh2,zh2,zg1,List.sum_cons,DS hp (fun r hr c hc=>.of ?_) (fun r hr c hc=>.of ?_),Cov.blocks hp b b' m S n2 fun t ht=>hS t (by simp[ht])]
  ·congr 1;exact A7 hp _ _ _ _ _ _ fun a ha c hc=>by
    obtain ⟨a1,a2⟩:=li.1 (lh.1 ha).1;unfold Go.Proofs.YtkbagdedfdfjhaaGreatDoor.entP;dsimp only;rw[zf7 rfl,tt,GV _ (h.s16 a1 a2).2 _ (h.s16 a1 a2).2 (lR _),Int.mul_zero];split <;> omega
  ·obtain ⟨r1,r2⟩:=hin _ _ r hr;obtain ⟨c1,c2⟩:=hinS _ c hc;refine h.ent_up r1 c1 ?_ fun e=>n1 (by rw[← r2,e]; exact c2);rw[r2,hS s (by simp),hS c.2 (by simp[c2])];exact lR _
  ·obtain ⟨r1,r2⟩:=hinS _ r hr;obtain ⟨c1,c2⟩:=hin _ _ c hc;refine h.ent_up r1 c1 ?_ fun e=>n1 (by rw[← c2,← e]; exact r2);rw[c2,hS s (by simp),hS r.2 (by simp[r2])];exact lR _
theorem Cov.grad_mem (m:Nat)(b:Int)(q:Cl×Nat):q∈kO (aR L f) m b↔q∈(m0 n m).flatMap fun s=>(dV (eK L f s) b).map fun c=>(c,s):=by
 rw[jz,hZ,List.mem_flatMap];constructor
 ·rintro ⟨⟨h1,h2⟩,h3,h4⟩;exact⟨q.2,oJ.2 ⟨(h.s16 h1 h2).1,(cW.1 h2).1,h4⟩,ze8.2 ⟨q.1,lh.2 ⟨li.2 ⟨h1,h2⟩,h3⟩,I⟩⟩
 ·rintro ⟨s,hs,hq⟩;obtain ⟨c,hc,rfl⟩:=ze8.1 hq;obtain ⟨h1,h2⟩:=lh.1 hc;exact⟨li.1 h1,h2,(oJ.1 hs).2.2⟩
omit h in
theorem pz (n m:Nat):(m0 n m).Nodup:=List.Pairwise.filter _ List.nodup_range
theorem Cov.grad_len (m:Nat)(b:Int):((kO (aR L f) m b).length:Int)=((m0 n m).map fun s=>((dV (eK L f s) b).length:Int)).sum:=by
 have hnd:L.Nodup:=h.rt.asc.imp fun hab e=>by rw[e] at hab; omega
 have h1:((m0 n m).flatMap fun s=>(dV (eK L f s) b).map fun c=>(c,s)).Nodup:=by
  rw[List.Nodup,List.pairwise_flatMap];refine⟨fun s _=>?_,(pz n m).imp fun hne x hx y hy e=>?_⟩
  ·rw[zk1];exact ((hnd.filter _).filter _).imp fun hne e=>hne (zd8 Prod.fst e)
  ·obtain ⟨c,-,rfl⟩:=ze8.1 hx;obtain ⟨d,-,rfl⟩:=ze8.1 hy;exact hne (zd8 Prod.snd e)
 have h2:(kO (aR L f) m b).Nodup:=(h.cx 2).nd.filter _;have h3:=((List.perm_ext_iff_of_nodup h2 h1).2 fun q=>h.grad_mem m b q).length_eq;rw[h3];have key:∀ S:List Nat,((S.flatMap fun s=>(dV (eK L f s) b).map fun c=>(c,s)).length:Int)=(S.map fun s=>((dV (eK L f s) b).length:Int)).sum:=by
  intro S;induction S with
  | nil=>rfl
  | cons s S ih=>rw[zh2,ze2,zg1,List.sum_cons,← ih,ze3]; omega
 exact key _
theorem Cov.rk_grad {p:Int}(hp:Fld p)(m:Nat)(b:Int):rkL p (kO (aR L f) m b) (kO (aR L f) m (b - 1)) Go.Proofs.YtkbagdedfdfjhaaGreatDoor.entP=((m0 n m).map fun s=>rkD p (eK L f s) b).sum:=by
 rw[j9 hp (h.grad_mem m b) (h.grad_mem m (b - 1)),h.blocks hp b (b - 1) m _ (pz n m) fun s hs=>(oJ.1 hs).2.2];rfl
theorem Cov.size_pairs {p:Int}(hp:Fld p)(A W d:Int):eD (rkP p) n (aa (bD L f n)) A W d=(((aR L f).filter fun q=>decide (dmP q=d)&&decide ((onesB q.2:Int) - 1≤A)).length:Int) - (rkL p ((aR L f).filter fun q=>decide (dmP q=d)&&decide ((onesB q.2:Int) - 1≤A)) ((aR L f).filter fun q=>decide (dmP q=d - 1)&&decide ((onesB q.2:Int) - 1>W)) Go.Proofs.YtkbagdedfdfjhaaGreatDoor.entP:Int):=by
 have hdeg:∀ q∈aR L f,jt n (ay (aY L n (ixB L q.1.id) q.1 q.2)).id=(onesB q.2:Int) - 1:=fun q hq=>by
  obtain ⟨h1,h2⟩:=hZ.1 hq;exact h.deg h1 h2
 have hm1:∀ z,z∈kT n (aa (bD L f n)) A d↔z∈((aR L f).filter fun q=>decide (dmP q=d)&&decide ((onesB q.2:Int) - 1≤A)).map fun q=>ay (aY L n (ixB L q.1.id) q.1 q.2):=fun z=>by
  rw[Ec,h.pairs_perm.mem_iff,ze8,ze8];constructor
  ·rintro ⟨⟨q,hq,rfl⟩,hd,ha⟩;rw[hdeg q hq] at ha;exact⟨q,zh1.2 ⟨hq,by rw[zi9,zj2,zj2]; exact⟨hd,ha⟩⟩,I⟩
  ·rintro ⟨q,hq,rfl⟩;obtain ⟨h1,h2⟩:=zh1.1 hq;rw[zi9,zj2,zj2] at h2;exact⟨⟨q,h1,I⟩,h2.1,by rw[hdeg q h1]; exact h2.2⟩
 have hm2:∀ z,z∈ow n (aa (bD L f n)) W (d - 1)↔z∈((aR L f).filter fun q=>decide (dmP q=d - 1)&&decide ((onesB q.2:Int) - 1>W)).map fun q=>ay (aY L n (ixB L q.1.id) q.1 q.2):=fun z=>by
  rw[Eb,h.pairs_perm.mem_iff,ze8,ze8];constructor
  ·rintro ⟨⟨q,hq,rfl⟩,hd,ha⟩;rw[hdeg q hq] at ha;exact⟨q,zh1.2 ⟨hq,by rw[zi9,zj2,zj2]; exact⟨hd,ha⟩⟩,I⟩
  ·rintro ⟨q,hq,rfl⟩;obtain ⟨h1,h2⟩:=zh1.1 hq;rw[zi9,zj2,zj2] at h2;exact⟨⟨q,h1,I⟩,h2.1,by rw[hdeg q h1]; exact h2.2⟩
 have hl:(kT n (aa (bD L f n)) A d).length=((aR L f).filter fun q=>decide (dmP q=d)&&decide ((onesB q.2:Int) - 1≤A)).length:=by
  unfold kT;rw[(h.pairs_perm.filter _).length_eq,List.filter_map,ze3];congr 1;refine List.filter_congr fun q hq=>?_;show (decide (dmP q=d)&&decide (jt n (ay (aY L n (ixB L q.1.id) q.1 q.2)).id≤A))=_;rw[hdeg q hq]
 unfold eD rkP;rw[hl,j9 hp hm1 hm2,A7 hp _ _ _ _ _ _ fun r hr c hc=>h.entP (zh1.1 hr).1 (zh1.1 hc).1]
theorem Cov.low_zero {p:Int}(hp:Fld p)(A d:Int):rkL p ((aR L f).filter fun q=>decide (dmP q=d)&&decide ((onesB q.2:Int) - 1≤A)) ((aR L f).filter fun q=>decide (dmP q=d - 1)&&decide ((onesB q.2:Int) - 1>A)) Go.Proofs.YtkbagdedfdfjhaaGreatDoor.entP=0:=nz hp fun r hr c hc=>by
 obtain ⟨h1,h2⟩:=zh1.1 hr;obtain ⟨h3,h4⟩:=zh1.1 hc;rw[zi9,zj2,zj2] at h2 h4;exact .of (h.ent_up h1 h3 oM fun e=>by rw[e] at h2; omega)
theorem Cov.low_grad {p:Int}(hp:Fld p)(a:Nat)(b:Int):rkL p ((aR L f).filter fun q=>decide (dmP q=(a:Int)+b)&&decide ((onesB q.2:Int) - 1≤a)) ((aR L f).filter fun q=>decide (dmP q=(a:Int)+b - 1)&&decide ((onesB q.2:Int) - 1>(a:Int) - 1)) Go.Proofs.YtkbagdedfdfjhaaGreatDoor.entP=rkL p (kO (aR L f) (a+1) b) (kO (aR L f) (a+1) (b - 1)) Go.Proofs.YtkbagdedfdfjhaaGreatDoor.entP:=by
 rw[j9 hp (R':=kO (aR L f) (a+1) b++(aR L f).filter fun q=>decide (dmP q=(a:Int)+b)&&decide ((onesB q.2:Int) - 1≤(a:Int) - 1)) (C':=kO (aR L f) (a+1) (b - 1)++(aR L f).filter fun q=>decide (dmP q=(a:Int)+b - 1)&&decide ((onesB q.2:Int) - 1>a)) (fun q=>by
   rw[ze9,jz,zh1,zh1,zi9,zi9,zj2,zj2,zj2];unfold dmP;constructor
   ·rintro ⟨h1,h2,h3⟩;by_cases k:onesB q.2=a+1
    ·exact .inl ⟨h1,oM,k⟩
    ·exact .inr ⟨h1,h2,oM⟩
   ·rintro (⟨h1,h2,h3⟩ | ⟨h1,h2,h3⟩)
    ·exact⟨h1,oM,oM⟩
    ·exact⟨h1,h2,oM⟩) (fun q=>by
   rw[ze9,jz,zh1,zh1,zi9,zi9,zj2,zj2,zj2];unfold dmP;constructor
   ·rintro ⟨h1,h2,h3⟩;by_cases k:onesB q.2=a+1
    ·exact .inl ⟨h1,oM,k⟩
    ·exact .inr ⟨h1,h2,oM⟩
   ·rintro (⟨h1,h2,h3⟩ | ⟨h1,h2,h3⟩)
    ·exact⟨h1,oM,oM⟩
    ·exact⟨h1,h2,oM⟩)]
 rw[kJ hp fun r hr c hc=>?_,kK hp fun r hr c hc=>?_]
 ·obtain ⟨h1,-,h2⟩:=jz.1 hr;obtain ⟨h3,h4⟩:=zh1.1 hc;rw[zi9,zj2,zj2] at h4;exact .of (h.ent_up h1 h3 oM fun e=>by rw[e] at h2; omega)
 ·obtain ⟨h1,h2⟩:=zh1.1 hr;rw[zi9,zj2,zj2] at h2;have hc1:c∈aR L f∧(a:Int)+1≤onesB c.2:=by
   rcases ze9.1 hc with k | k
   ·obtain ⟨k1,-,k2⟩:=jz.1 k;exact⟨k1,oM⟩
   ·obtain ⟨k1,k2⟩:=zh1.1 k;rw[zi9,zj2,zj2] at k2;exact⟨k1,oM⟩
  exact .of (h.ent_up h1 hc1.1 oM fun e=>by have:=hc1.2; rw[← e] at this; omega)
theorem Cov.first {p:Int}(hp:Fld p)(a:Nat)(ha:a<n)(b:Int):vy (rkP p) n (aa (bD L f n)) 1 a b=((m0 n (a+1)).map fun s=>ko p (eK L f s) b).sum:=by
 rw[He _ _ _ oM oM oM];unfold uB vB;rw[show max ((a:Int) - 1) (-1)=(a:Int) - 1 by omega,show min ((a:Int)+1 - 1) ((n:Int) - 1)=(a:Int) by omega,h.size_pairs hp,h.size_pairs hp,h.size_pairs hp,h.size_pairs hp];have z1:=h.low_zero hp ((a:Int) - 1) ((a:Int)+b);have z2:=h.low_zero hp (a:Int) ((a:Int)+b+1);have g1:=h.low_grad hp a b;have g2:=h.low_grad hp a (b+1);rw[show (a:Int)+(b+1)=(a:Int)+b+1 by omega,show (a:Int)+b+1 - 1=(a:Int)+b by omega] at g2;rw[show (a:Int)+b+1 - 1=(a:Int)+b by omega] at z2 ⊢;rw[z1,z2,g1,g2,h.rk_grad hp,h.rk_grad hp];have hlen:((aR L f).filter fun q=>decide (dmP q=(a:Int)+b)&&decide ((onesB q.2:Int) - 1≤a)).length=((aR L f).filter fun q=>decide (dmP q=(a:Int)+b)&&decide ((onesB q.2:Int) - 1≤(a:Int) - 1)).length+(kO (aR L f) (a+1) b).length:=ym fun q _=>by
  rw[zi9,zi9,zi9,zj2,zj2,zj2,zj2,zj2];unfold dmP;omega
 have hsum:((m0 n (a+1)).map fun s=>ko p (eK L f s) b).sum=((kO (aR L f) (a+1) b).length:Int) - (((m0 n (a+1)).map fun s=>rkD p (eK L f s) b).sum:Int) - (((m0 n (a+1)).map fun s=>rkD p (eK L f s) (b+1)).sum:Int):=by
  rw[h.grad_len];have key:∀ S:List Nat,(S.map fun s=>ko p (eK L f s) b).sum=(S.map fun s=>((dV (eK L f s) b).length:Int)).sum - ((S.map fun s=>rkD p (eK L f s) b).sum:Int) - ((S.map fun s=>rkD p (eK L f s) (b+1)).sum:Int):=by
   intro S;induction S with
   | nil=>rfl
   | cons s S ih =>
    rw[zg1,zg1,zg1,zg1,List.sum_cons,List.sum_cons,List.sum_cons,List.sum_cons,ih];unfold ko;omega
  exact key _
 rw[hsum,hlen];omega
end
theorem C4 {p:Int}(hp:Fld p){X:List Cl}(h:Rt X){b:Int}(hb:((dimN X:Nat):Int)≤b):ko p X b=0:=by
 have h0:∀ d:Int,((dimN X:Nat):Int)≤d→dV X d=[]:=fun d hd=>List.filter_eq_nil_iff.2 fun c hc=>by
  have:=Hm h c hc;simp only[zj2];omega
 unfold ko rkD;rw[h0 b hb,h0 (b+1) oM,A6 hp,A6 hp];rfl
theorem CR {l X:List Cl}(h:Rt l)(hX:Rt X)(hs:∀ c∈X,c∈l):dimN X≤dimN l:=by
 have h1:=rP l (-1);have h2:=vG (M:=nW l (-1)) X (-1) h1.1 fun c hc=>h1.2 c (hs c hc);unfold dimN;rw[h.tab,hX.tab];omega
theorem E7 {p:Int}(hp:Fld p)(C R:List Cl):rkP p C R≤C.length:=by
 unfold rkP rkL;exact jn hp _ _ _
theorem vM {p:Int}(hp:Fld p){X:List Cl}(b:Int):(ko p X b).natAbs≤2 * X.length:=by
 have h1:(dV X b).length≤X.length:=zc2 _ _;have h2:(dV X (b+1)).length≤X.length:=zc2 _ _;have h3:=E7 hp (dV X b) (dV X (b - 1));have h4:=E7 hp (dV X (b+1)) (dV X (b+1 - 1));unfold ko rkD;omega
theorem xB (L:List Cl)(id:Int):∀ (T:List (List Int)) (k:Nat),(tlB L 0 T id).testBit k=match T[k]? with
  | some t=>(cu L t).contains id
  | none=>false
 | [],k=>by simp[tlB]
 | t::T,0=>by
  rw[nq,Nat.testBit_zero];show _=(cu L t).contains id;cases hc:(cu L t).contains id
  ·rw[zf6 (by simp)];exact zf4 oM
  ·rw[zf7 rfl];exact zf5 oM
 | t::T,k+1=>by
  rw[nq,Nat.testBit_succ];have:((if (cu L t).contains id=true then 1 else 0)+2 * tlB L 0 T id) / 2=tlB L 0 T id:=by split <;> omega
  rw[this,xB L id T k];rfl
def inK (M:List Cl)(T:List (List Int))(s k:Nat)(id:Int):Bool:=(List.range k).all fun j=>!s.testBit j||(tlB M 0 T id).testBit j
theorem x6 {M:List Cl}{T:List (List Int)}{s k:Nat}(hk:k<T.length)(id:Int):inK M T s (k+1) id=(inK M T s k id&&(!s.testBit k||(cu M T[k]).contains id)):=by
 unfold inK;rw[List.range_succ,List.all_append,List.all_cons,List.all_nil,Bool.and_true,xB,gE hk]
theorem Gs {M:List Cl}{T:List (List Int)}{s k:Nat}(hk:k<T.length)(hb:s.testBit k=false):part M (inK M T s (k+1))=part M (inK M T s k):=by
 refine List.filter_congr fun c _=>?_;rw[x6 hk,hb,Bool.not_false,Bool.true_or,Bool.and_true]
theorem x5 (M:List Cl)(T:List (List Int))(s:Nat):part M (inK M T s 0)=M:=List.filter_eq_self.2 fun _ _=>rfl
section
variable {M:List Cl}{T:List (List Int)}(h:Cov M (tlB M 0 T) T.length)
include h
theorem rj (s k:Nat):oh M (inK M T s k):=fun c hc hp x hx=>by
 have h1:=h.sub c hc x hx;unfold inK at hp ⊢;rw[zj6] at hp ⊢;intro j hj;have h2:=hp j hj;rw[zj1] at h2 ⊢
 rcases h2 with h2 | h2
 ·exact .inl h2
 ·refine .inr ?_;rw[← h1,Nat.testBit_and,zi9] at h2;exact h2.2
theorem ug (s k:Nat):Rt (part M (inK M T s k)):=mC h.rt (rj h s k)
theorem Hk {s k:Nat}(hk:k<T.length)(hb:s.testBit k=true):An (part M (inK M T s k)) (part M fun id=>(cu M T[k]).contains id)=part M (inK M T s (k+1)):=by
 rw[Cc h.rt (rj h s k) (i6 h.rt T[k])];refine List.filter_congr fun c _=>?_;rw[x6 hk,hb];rfl
omit h in
theorem Bj {s:Nat}(h0:0<s)(hs:s<2 ^ T.length):part M (inK M T s T.length)=eK M (tlB M 0 T) s:=by
 refine List.filter_congr fun c hc=>?_;rw[Bool.eq_iff_iff,zj2,cW];unfold inK;rw[zj6];constructor
 ·intro h1;refine⟨h0,Nat.eq_of_testBit_eq fun j=>?_⟩;rw[Nat.testBit_and];by_cases hj:j<T.length
  ·have h2:=h1 j (List.mem_range.2 hj);rw[zj1] at h2;cases e:s.testBit j with
   | false=>rfl
   | true =>
    rw[e] at h2;simpa using h2
  ·have h3:s.testBit j=false:=Nat.testBit_lt_two_pow (Nat.lt_of_lt_of_le hs (Nat.pow_le_pow_right dC oM));rw[h3];rfl
 ·rintro ⟨-,h1⟩ j -;rw[zj1];cases e:s.testBit j with
  | false=>exact .inl rfl
  | true =>
   rw[← h1,Nat.testBit_and,zi9] at e;exact .inr e.2
theorem CZ {s:Nat}(h0:0<s)(hs:s<2 ^ T.length):Rt (eK M (tlB M 0 T) s):=by rw[← Bj h0 hs]; exact ug h s _
end
noncomputable def sJ (p:Int) (L:List Cl) (f:Int→Nat) (S a:Nat) (b:Int):Int:=(((List.range S).filter fun s=>decide (0<s)&&decide (onesB s=a+1)).map fun s=>ko p (eK L f s) b).sum
theorem xx (p:Int)(L:List Cl)(f:Int→Nat)(a:Nat)(b:Int):sJ p L f 1 a b=0:=rfl
theorem tz (p:Int)(L:List Cl)(f:Int→Nat){S:Nat}(hS:0<S)(a:Nat)(b:Int):sJ p L f (S+1) a b=sJ p L f S a b+if onesB S=a+1 then ko p (eK L f S) b else 0:=by
 unfold sJ;rw[List.range_succ,zh3,zg2,List.sum_append];congr 1;by_cases e:onesB S=a+1
 ·simp[hS,e]
 ·simp[e]
theorem AL {p:Int}(hp:Fld p){L:List Cl}(hL:L.length≤20)(f:Int→Nat)(a:Nat)(b:Int):∀ S,(sJ p L f S a b).natAbs≤S * 40
 | 0=>by
  show ((0:Int)).natAbs≤_;simp
 | S+1=>by
  have ih:=AL hp hL f a b S
  rcases Nat.eq_zero_or_pos S with h0 | h0
  ·subst h0;rw[xx];simp
  ·rw[tz p L f h0];have h1:=vM hp (X:=eK L f S) b;have h2:(eK L f S).length≤L.length:=zc2 _ _;split <;> omega
noncomputable def je (p:Int) (L:List Cl) (f:Int→Nat) (S j a:Nat) (b:Nat):Int:=sJ p L f S a b+if onesB S=a+1∧b<j then ko p (eK L f S) b else 0
noncomputable def jC (p:Int) (L:List Cl) (f:Int→Nat) (D S j a:Nat):List Int:=(List.range D).map fun b=>je p L f S j a b
noncomputable def gO (p:Int) (L:List Cl) (f:Int→Nat) (n D S j:Nat):List (List Int):=(List.range n).map fun a=>jC p L f D S j a
theorem mh (p:Int)(L:List Cl)(f:Int→Nat)(S a b:Nat):je p L f S 0 a b=sJ p L f S a b:=by
 unfold je;rw[zf6 oM,Int.add_zero]
theorem y6 {p:Int}(hp:Fld p){L:List Cl}{f:Int→Nat}{S:Nat}(hS:0<S)(hr:Rt (eK L f S))(a b:Nat):je p L f S (dimN (eK L f S)) a b=sJ p L f (S+1) a b:=by
 unfold je;rw[tz p L f hS];congr 1;by_cases h1:onesB S=a+1
 ·by_cases h2:b<dimN (eK L f S)
  ·rw[zf7 ⟨h1,h2⟩,zf7 h1]
  ·rw[zf6 (fun h=>h2 h.2),zf7 h1,C4 hp hr oM]
 ·rw[zf6 (fun h=>h1 h.1),zf6 h1]
theorem y5 {p:Int}(hp:Fld p){L:List Cl}{f:Int→Nat}{S:Nat}(n D:Nat)(hS:0<S)(hr:Rt (eK L f S)):gO p L f n D S (dimN (eK L f S))=gO p L f n D (S+1) 0:=by
 unfold gO jC;refine zc5 fun a _=>zc5 fun b _=>?_;rw[y6 hp hS hr,mh]
theorem Dn {p:Int}(hp:Fld p){L:List Cl}(hL:L.length≤20)(f:Int→Nat){S:Nat}(hS:S<16)(j a b:Nat):(je p L f S j a b).natAbs≤680:=by
 have h0:=AL hp hL f a b S;have h1:=vM hp (X:=eK L f S) b;have h2:(eK L f S).length≤L.length:=zc2 _ _;unfold je;split <;> omega
theorem mi (p:Int)(L:List Cl)(f:Int→Nat){S j a:Nat}(b:Nat):je p L f S (j+1) a b=if onesB S=a+1∧b=j then je p L f S j a b+ko p (eK L f S) j else je p L f S j a b:=by
 unfold je;by_cases h1:onesB S=a+1
 ·by_cases h2:b=j
  ·subst h2;rw[zf7 ⟨h1,oM⟩,zf7 ⟨h1,rfl⟩,zf6 oM,Int.add_zero]
  ·rw[zf6 (c:=onesB S=a+1∧b=j) (fun h=>h2 h.2)];by_cases h3:b<j
   ·rw[zf7 ⟨h1,oM⟩,zf7 ⟨h1,h3⟩]
   ·rw[zf6 oM,zf6 oM]
 ·rw[zf6 (fun h=>h1 h.1),zf6 (fun h=>h1 h.1),zf6 (fun h=>h1 h.1)]
theorem jv (p:Int)(L:List Cl)(f:Int→Nat)(D S j a:Nat):(jC p L f D S j a).length=D:=by unfold jC; rw[ze3,zi1]
theorem lx (p:Int)(L:List Cl)(f:Int→Nat)(n D S j:Nat):(gO p L f n D S j).length=n:=by unfold gO; rw[ze3,zi1]
theorem lv (p:Int)(L:List Cl)(f:Int→Nat){D S j a b:Nat}(hb:b<D):(jC p L f D S j a)[b]?=some (je p L f S j a b):=by
 unfold jC;rw[zh6,List.getElem?_range hb];rfl
theorem ly (p:Int)(L:List Cl)(f:Int→Nat){n D S j a:Nat}(ha:a<n):(gO p L f n D S j)[a]?=some (jC p L f D S j a):=by
 unfold gO;rw[zh6,List.getElem?_range ha];rfl
theorem BF (p:Int)(L:List Cl)(f:Int→Nat){n D S j a:Nat}(ha:onesB S=a+1)(hn:a<n):(gO p L f n D S j).set a ((jC p L f D S j a).set j (je p L f S j a j+ko p (eK L f S) j))=gO p L f n D S (j+1):=by
 refine List.ext_getElem? fun a'=>?_;by_cases h1:a'=a
 ·subst h1;rw[List.getElem?_set_self (by rw[lx]; exact hn),ly _ _ _ hn];congr 1;refine List.ext_getElem? fun b=>?_;by_cases hb:b<D
  ·by_cases h2:b=j
   ·subst h2;rw[List.getElem?_set_self (by rw[jv]; exact hb),lv _ _ _ hb,mi,zf7 ⟨ha,I⟩]
   ·rw[List.getElem?_set_ne (fun q=>h2 q.symm),lv _ _ _ hb,lv _ _ _ hb,mi,zf6 fun h=>h2 h.2]
  ·rw[List.getElem?_eq_none (by rw[zh9,jv]; omega),List.getElem?_eq_none (by rw[jv]; omega)]
 ·rw[List.getElem?_set_ne (fun q=>h1 q.symm)];by_cases h2:a'<n
  ·rw[ly _ _ _ h2,ly _ _ _ h2];congr 1;unfold jC;refine zc5 fun b _=>?_;rw[mi,zf6 oM]
  ·rw[List.getElem?_eq_none (by rw[lx]; omega),List.getElem?_eq_none (by rw[lx]; omega)]
theorem vY (p:Int)(L:List Cl)(f:Int→Nat)(n D:Nat):gO p L f n D 1 0=List.replicate n (List.replicate D 0):=by
 unfold gO jC;have h1:∀ a b:Nat,je p L f 1 0 a b=0:=fun a b=>by rw[mh,xx]
 simp only[h1];rw[List.map_const',List.map_const',zi1,zi1]
theorem wO {l:List Cl}(h:Sm3 l){T:List (List Int)}(hT:TOk l T){p:Int}(hp:gg p=true):(cQ l T p)[0]?=some (gO p l (tlB l 0 T) T.length (dimN l) (2 ^ T.length) 0):=by
 have ho:=sb (tE h hT hp);have hcov:=AQ h hT;have heq:=ho.eq;rw[h.rt.tab] at heq;have hB:dA l T=aa (bD l (tlB l 0 T) T.length):=by unfold dA; rw[vL]
 have hlen:=mE (rf:=rkP p) (n:=T.length) (B:=dA l T) (D:=dimN l);have hpos:=hT.pos;have hne:0<(gv (jj (rkP p) T.length (dA l T) (dimN l))).length:=by
  refine List.length_pos_iff.2 fun e=>?_;unfold gv at e;have h1:=List.reverse_eq_nil_iff.1 e;refine xA ?_ h1;rw[ne_eq,List.reverse_eq_nil_iff];intro h2;rw[h2] at hlen;simp at hlen;omega
 rw[heq,BK hne];unfold jj;rw[zh6,List.getElem?_range oM];show some (ww _ _ _ _ (((0:Nat):Int)+1))=_;congr 1;unfold ww gO jC;refine zc5 fun a ha=>zc5 fun b _=>?_;have ha:=List.mem_range.1 ha;rw[mh,show ((0:Nat):Int)+1=1 by omega,hB,hcov.first ho.fp.fld a ha b];rfl
theorem lk {M:List Cl}(h:Rt M)(d:Int):cB M d=(dV M d).map Cl.id:=by
 unfold cB dV;rw[h.tab]
theorem Er (L:List Int)(p:Int)(k:Nat):(L.map (· % p)).getD k 0=L.getD k 0 % p:=by
 rw[zg7,zg7,zh6];cases L[k]? with
 | none=>exact (Int.zero_emod p).symm
 | some x=>rfl
theorem F8 {p:Int}(hp:Fld p){M:List Cl}(h:Rt M)(d:Int):rk p (atF ((yW M d).map (· % p)) (cB M d).length) (cB M (d - 1)).length (cB M d).length=rkD p M d:=by
 have l1:(cB M d).length=(dV M d).length:=by rw[lk h,ze3]
 have l0:(cB M (d - 1)).length=(dV M (d - 1)).length:=by rw[lk h,ze3]
 have h1:rk p (atF ((yW M d).map (· % p)) (cB M d).length) (cB M (d - 1)).length (cB M d).length=rkL p (dV M (d - 1)) (dV M d) (fun r c=>d4 c r):=by
  have h2:rk p (atF ((yW M d).map (· % p)) (cB M d).length) (cB M (d - 1)).length (cB M d).length=rk p (mx (dV M (d - 1)) (dV M d) fun r c=>d4 c r) (cB M (d - 1)).length (cB M d).length:=by
   refine fy hp fun i hi j hj=>?_;have e1:i<(dV M (d - 1)).length:=oM;have e2:j<(dV M d).length:=oM;rw[nm (gE e1) (gE e2)];unfold atF;rw[Er,Eh h hi hj,lk h d,lk h (d - 1)];have c1:((dV M d).map Cl.id).getD j 0=((dV M d)[j]).id:=by
    rw[zg7,zh6,gE e2];rfl
   have c2:((dV M (d - 1)).map Cl.id).getD i 0=((dV M (d - 1))[i]).id:=by
    rw[zg7,zh6,gE e1];rfl
   have c3:ex (ab M) ((dV M d)[j]).id=(dV M d)[j]:=by
    unfold ex;rw[h.tab,h.find (lh.1 (gM e2)).1];rfl
   rw[c1,c2,c3];exact od _ _
  rw[h2,l1,l0];rfl
 rw[h1];exact r9 hp (dV M d) (dV M (d - 1)) d4
theorem DT {p:Int}(hp:Fld p){M:List Cl}(h:Rt M):rkD p M 0=0:=by
 have:dV M (0 - 1)=[]:=List.filter_eq_nil_iff.2 fun c hc=>by
  have:=(h.form c hc).dim.1;simp only[zj2];omega
 unfold rkD;rw[this];exact DQ hp _
theorem rR {M:List Cl}(h:Rt M)(d:Int):(cB M d).length=(dV M d).length∧(dV M d).length≤M.length:=⟨by rw[lk h,ze3],zc2 _ _⟩
set_option maxHeartbeats 1000000
theorem Ek (n:Nat):(dD n).length≤1:=by
 unfold dD;split <;> simp
theorem x1 {n:Nat}(h:n≠0):dD n=[(n:Int)]:=by unfold dD; rw[zf6 h]
theorem pH (E:World)(g:PH)(s:Own)(v u:Value)(n m:Nat)(hv:SlA ij g v (dD n))(hu:SlA ij g u (dD m))(h:n<m) :
  Ctr Tryz.prog E 120 #[v,u] g s (fun r g' s'=>r = .tuple #[.slice none 0 0,v]∧g=g'∧s=s'):=by
 refine za9 (args:=[v,u]) func120 I ntmps120 (bE I) ?_;refine rZ (lA I (aT I (sQ (sW I (lM I (lW (cL call164 I (wB E g _ v u n m hv hu)) ?_))))));rintro _ _ _ ⟨rfl,rfl,rfl⟩;refine lU (SU.eq (v':=vb true) (lS I I) (zd8 vb (zf5 ((EE n m).2 h)))) (tZ (cT I (sW I (lA I (aT I (rE (tR ?_)))))));exact ST.ret2 (.inl I) results120 I I ⟨I,I,I⟩
theorem vV (E:World)(g:PH)(s:Own)(x:Bool)(B C:List UInt8)(l1:B.length≤4)(l2:C.length≤4)(h:beN B<beN C)(hx:x=true→beN B≠0) :
  Ctr Tryz.prog E 71 #[.agg #[vb x,txt B],.agg #[vb false,txt C]] g s (fun r g' s'=>s=s'∧Le g g'∧∃ (qb:Bool) (qt:List UInt8),r = .tuple #[.agg #[vb qb,txt qt],vU false (iy (dD (if x=true then beN C - beN B else beN B))),vb true]):=by
 have hC:=o6 C;have hC4:=AD l2;have hlC:=x1 (n:=beN C) oM;refine za9 (args:=[.agg #[vb x,txt B],.agg #[vb false,txt C]]) func71 I ntmps71 (bE I) ?_;refine rZ (bW (bO I) fun b2=>?_);refine bW (bO I) fun b3=>?_;refine bW (aL zl3) fun b4=>?_;refine bW (aL zl3) fun b5=>?_;refine aT I (sQ ?_);refine dW [] [(0,1),(2,1),(1,0),(3,0),(4,2),(5,2)] zd9 kR ?_;refine pK I (qV 3 isAgg121 dX I I I) (pK I (qV 2 isAgg121 dX I I I) (SP.o I (cL call119 I (sH E _ _ x B l1)) dC (.inr iR) ?_));rintro v6 g1 _ ⟨rfl,hle1,hs1⟩;obtain ⟨p1,c1,rfl⟩:=za2 hs1;refine SP.o rfl (cL call119 rfl (sH E _ _ false C l2)) dC (.inr (by rintro v8 g2 _ ⟨rfl,hle2,hs2⟩; exact⟨by exact Le.trans (by assumption) (by assumption),(by exact .refl _)⟩)) ?_;rintro v8 g2 _ ⟨rfl,hle2,hs2⟩;obtain ⟨p2,c2,rfl⟩:=za2 hs2;have h12:=hle1.trans hle2;have hs1:=za3 hs1 hle2;have hlC2:(dD (beN C)).length=1:=by rw[hlC]; rfl
 refine pU I (aS I) (pU I (aS I) (pN (tN (sQ (sW I (lU (eN bw I) (lU (SU.eq (v':=vb false) (eQ I I) (zd8 vb (zf4 oM))) (tZ ?_))))))));cases x with
 | false =>
  rw[zf6 dC];refine cF I (kP (tN (sW I (lM I (lW (cL call120 I (pH E g2 _ _ _ (beN B) (beN C) hs1 hs2 h)) ?_)))));rintro _ _ _ ⟨rfl,rfl,rfl⟩;refine lM I (yX I (yX I (lA I (aT I (sQ (rZ (lU (fA mY I zT4 I) (lK (qL isAgg4 I (cO 3 I I)) (lM I (yA I (yA I (yA I (yF I (tZ (cF I (kP (tN (sW I (lU (fA mY I zT4 I) (lK (qL isAgg4 I (cO 3 I I)) (lU (fA mY I zT4 I) (lK (qL isAgg4 I (cO 2 I I)) (lU (SU.neqB uT4 I I) ?_)))))))))))))))))))))));refine lW (cL call118 I (fl E _ _ (.slice none 0 0) [] _ (zb8 _ _) dC)) ?_;rintro _ g3 _ ⟨rfl,rfl,hle3⟩;have h13:=h12.trans hle3;refine lM I (lW (cL call118 I (fl E _ _ _ (dD (beN B)) _ (za3 hs1 hle3) (sw _))) ?_);rintro _ g4 _ ⟨rfl,rfl,hle4⟩;have h14:=h13.trans hle4;refine oZ (sK 1 dX I I I I I sB) ?_;refine oZ (sK 0 dX I I I I I sB) ?_;refine aT I (rE ?_);exact ST.retCCT 1 0 s (.inl I) results71 I I I isAgg121 dX isAgg121 dX I I I I uR ⟨I,h14,_,_,I⟩
 | true =>
  have hB:=x1 (hx rfl);have hB2:(dD (beN B)).length=1:=by rw[hB]; rfl
  rw[zf7 rfl];refine cF I (kP (tN (sW I (lM I (lW (cL call120 I (pH E g2 _ _ _ (beN B) (beN C) hs1 hs2 h)) ?_)))));rintro _ _ _ ⟨rfl,rfl,rfl⟩;refine lM I (yX I (yX I (lA I (aT I (sQ (rZ (lU (fA mY I zT4 I) (lK (qL isAgg4 I (cO 3 I I)) (lM I (yC I (lY I I I (eN bw I) (lY I I I (SU.eq (v':=vb true) (gR I I) (zd8 vb (zf5 oM))) (yP I (tZ (cT I (rG (lM I (lW (bS sty162 I I I (ae ⟨I,trivial⟩) dC) ?_))))))))))))))))));rintro _ _ _ ⟨b34,rfl,rfl,rfl⟩;refine zb3 fun g3 hle3 hb34=>?_;have h13:=h12.trans hle3;refine lW (cL call121 I (wC E _ _ (.slice none 0 0) _ 0 1 (zb8 _ _) (SlA.lit hb34 I I) dC)) ?_;rintro v35 g4 _ ⟨rfl,hle4,hs4⟩;have h14:=h13.trans hle4;refine lM I (lM I (lW (cL call122 I (wA E _ _ _ _ (beN C) (beN B) (za3 hs2 (hle3.trans hle4)) (za3 hs1 (hle3.trans hle4)) oM oM)) ?_));rintro v38 g5 _ ⟨rfl,hle5,hs5⟩;have h15:=h14.trans hle5;have hs4:=za3 hs4 hle5;refine lA I (aT I (sW I (lU (fA mY I zT4 I) (lK (qL isAgg4 I (cO 3 I I)) (lU (fA mY I zT4 I) (lK (qL isAgg4 I (cO 2 I I)) (lU (SU.neqB uT4 I I) (lW (cL call118 I (fl E _ _ v35 _ _ hs4 (sw _))) ?_))))))));rintro _ g6 _ ⟨rfl,rfl,hle6⟩;have h16:=h15.trans hle6;refine lM I (lW (cL call118 I (fl E _ _ v38 _ _ (za3 hs5 hle6) (sw _))) ?_);rintro _ g7 _ ⟨rfl,rfl,hle7⟩;have h17:=h16.trans hle7;refine oZ (sK 1 dX I I I I I sB) ?_;refine oZ (sK 0 dX I I I I I sB) ?_;refine aT I (rE ?_);exact ST.retCCT 1 0 s (.inl I) results71 I I I isAgg121 dX isAgg121 dX I I I I uR ⟨I,h17,_,_,I⟩
theorem uU (E:World)(g:PH)(s:Own)(n p:Int)(hp:p<4294967296)(hn:(n.natAbs:Int)<p) :
  Ctr Tryz.prog E 71 #[qg n,qg p] g s (fun r g' s'=>s=s'∧Le g g'∧∃ (qb:Bool) (qt:List UInt8),r = .tuple #[.agg #[vb qb,txt qt],qg (n % p),vb true]):=by
 have hfin:vU false (iy (dD (if decide (n<0)=true then p.natAbs - n.natAbs else n.natAbs)))=qg (n % p):=by
  have hm:n % p=if n<0 then n+p else n:=by
   split
   ·rw[← Int.add_emod_right];exact Int.emod_eq_of_lt oM oM
   ·exact Int.emod_eq_of_lt oM oM
  rw[hm];by_cases h0:n<0
  ·rw[zf7 (zf5 h0),zf7 h0];exact xw oM oM fun _=>(zf4 oM).symm
  ·rw[zf6 (by simp[h0]),zf6 h0];exact xw oM oM fun _=>(zf4 oM).symm
 rw[← hfin,mg (z:=n) oM,mg (z:=p) oM,zf4 (p:=p<0) oM];have e1:=nP (m:=n.natAbs) oM;have e2:=nP (m:=p.natAbs) oM;have:=vV E g s (decide (n<0)) (j5 n.natAbs) (j5 p.natAbs) (su oM) (su oM) (by rw[e1,e2]; omega) (fun h=>by rw[e1]; have:=zf9 h; omega);rwa [e1,e2] at this
def GM (k i:Nat):Int:=if i=0 then 0 else k
theorem vX (E:World)(g:PH)(s:Own)(B:List UInt8)(hB:B.length≤4) :
  Ctr Tryz.prog E 72 #[.agg #[vb false,txt B]] g s (fun r g' s'=>s=s'∧Le g g'∧r = .tuple #[vi (beN B),vb true]):=by
 have hC:=o6 B;have hC4:=AD hB;obtain ⟨k,hk⟩:∃ k,k=beN B:=⟨_,rfl⟩;have hck:=cD k;refine za9 (args:=[.agg #[vb false,txt B]]) func72 I ntmps72 (bE I) ?_;refine rZ (bW (bO I) fun b1=>?_);refine lA I (aT I (rZ (lK (qV 0 isAgg121 dX I I I) (lW (cL call119 I (sH E _ _ false B hB)) ?_))));rintro v6 g1 _ ⟨rfl,hle1,hs1⟩;rw[← hk] at hs1 hC ⊢;obtain ⟨p1,c1,rfl⟩:=za2 hs1;have hll:=Ek k;refine aT I (sQ (sW I (lU (eN bw I) (lU (SU.eq (v':=vb false) (gR I I) (zd8 vb (zf4 oM))) (tZ (cF I (kP (tN (rZ (aT I (sQ (sW I (lU (eN bw I) (lM I (tZ (bK ?_))))))))))))))));refine oP (ι:=Nat) (fun i=>[(1,pp b1 0),(5,.int .u64 (GM k i)),(13,.slice p1 (dD k).length c1),(14,vi (dD k).length),(15,vi i)]) (fun _=>g1) (fun _=>pt b1 (.cells #[vb false,txt B] 121 (0,0))::s) (fun i=>i≤(dD k).length) (fun i=>(dD k).length - i) 0 sB I I (zf3 _) ?_;rintro i hi;refine rZ (yL I (tZ (sQ ?_)));refine iP I (fun hlt=>?_) (fun hlt=>?_)
 ·obtain rfl:i=0:=oM
  rcases hck with ⟨e,-⟩ | ⟨e,hk0⟩
  ·rw[e] at hlt;simp at hlt
  have hb1:=za4 hs1 (by rw[e]; exact Nat.zero_lt_one);have hg0:(dD k)[((0:Nat):Int).toNat]?=some (k:Int):=by rw[e]; rfl
  have hor:IntKind.u64.wrap (BitVec.ofInt IntKind.u64.bits (GM k 0) ||| BitVec.ofInt IntKind.u64.bits (k:Int)).toNat=GM k 1:=by
   have:=Fb 0 k dC oM;rw[Nat.zero_or] at this;exact this
  refine kP (tN (sQ (bK (sW I (lU (iA bw ee I I hb1 dC sL) (lK (eB isAgg160 I (za5 hs1) hg0 I) (lA I (aT I (rG (lM I (lM I (lM I (lU (SU.eq (v':=vi 0) (SU.mulW I I) (zd8 vi (zk8 _ dC))) (lU (SU.eq (v':=.int .u64 (k:Int)) (SU.shl I I dC) (zd8 (Value.int .u64) (by rw[show (2:Int) ^ min (0:Int).toNat IntKind.u64.bits=1 by decide,xj]; omega))) ?_))))))))))))));refine lU (SU.eq (v':=.int .u64 (GM k 1)) (SU.or I I) (zd8 (Value.int .u64) hor)) (lA I (nL (bN (tN (rG (yD I (lM I (nL ?_))))))));exact gA 1 sB I I (by rw[e]; exact lR _) (by rw[e]; exact Nat.zero_lt_one)
 ·obtain rfl:i=(dD k).length:=oM;have hacc:GM k (dD k).length=(k:Int):=by
   rcases hck with ⟨e,h0⟩ | ⟨e,-⟩
   ·rw[e,h0]; rfl
   ·rw[e]; rfl
  rw[hacc];refine xI (tX (tX (bX (tN (sQ (bK (rZ (lU (fA mY I zT4 I) (lK (qL isAgg4 I (cO 0 I I)) (lM I (yA I (yA I (yF I (aT I (cF I (sW I (lU (SU.eq (v':=vb false) (gQ I I) (zd8 vb (zf4 oM))) (aT I (cF I (kP (bN (tN ?_))))))))))))))))))))));refine sW I (lU (SU.eq (v':=vi k) (zd5 ol uT3 I) (zd8 vi (zk8 _ oM))) (lA I (aT I (rE (dR (s':=s) uR ?_)))));exact ST.ret2 (.inl I) results72 I I ⟨I,hle1,I⟩
theorem uV (E:World)(g:PH)(s:Own)(n:Int)(h0:0≤n)(h1:n<4294967296) :
  Ctr Tryz.prog E 72 #[qg n] g s (fun r g' s'=>s=s'∧Le g g'∧r = .tuple #[vi n,vb true]):=by
 have e1:=nP (m:=n.natAbs) oM;have:=vX E g s (j5 n.natAbs) (su oM);rw[e1,show ((n.natAbs:Nat):Int)=n by omega] at this;rw[mg oM,zf4 (p:=n<0) oM];exact this
def Aw (L:List Int)(p:Int)(i:Nat):List Int:=(L.take i).map (· % p)++List.replicate (L.length - i) 0
theorem D8 (L:List Int)(p:Int){i:Nat}(h:i≤L.length):(Aw L p i).length=L.length:=by
 unfold Aw;rw[ze2,ze3,ze1,List.length_replicate];omega
theorem Ci (L:List Int)(p:Int):Aw L p 0=List.replicate L.length 0:=rfl
theorem D9 (L:List Int)(p:Int):Aw L p L.length=L.map (· % p):=by
 unfold Aw;rw[List.take_length,Nat.sub_self];simp
theorem D7 (L:List Int)(p:Int){i:Nat}(h:i<L.length):(Aw L p i).set i (L[i] % p)=Aw L p (i+1):=by
 unfold Aw;have hl:((L.take i).map (· % p)).length=i:=by rw[ze3,ze1]; omega
 rw[List.set_append_right _ _ oM,hl,Nat.sub_self,show L.length - i=(L.length - (i+1))+1 by omega,List.replicate_succ,List.set_cons_zero,tS h,zg2];simp
theorem CO (E:World)(g:PH)(s:Own)(v:Value)(p:Int)(hp:Fp p)(R C:Nat)(hR:R≤400)(hC:C≤400)(L:List Int)(hL:L.length=R * C)(hv:GO g v (R,C,L))(h1:∀ n∈L,n.natAbs≤1) :
  Ctr Tryz.prog E 32 #[vi p,v] g s (fun x g' s'=>s=s'∧Le g g'∧FmR g' x p R C (L.map (· % p))):=by
 have hlt:=hp.lt;have hm:=Av hR hC;obtain ⟨q,c,rfl,hs⟩:=hv;dsimp only at hs ⊢;refine za9 (args:=[vi p,.agg #[vi R,vi C,.slice q L.length c]]) func32 I ntmps32 (bE I) ?_;refine rZ (bW (bO I) fun b3=>?_);refine bW (aL zl2) fun b4=>?_;refine tZ (sW I (lU (fA underlying58 I zT3 I) (lK (qL (v:=vi R) iT3 I (cO 1 I I)) (lU (fA underlying58 I zT3 I) (lK (qL (v:=vi C) iT3 I (cO 1 I I)) (lW (cL call69 I (um E g _ p hp R C hR hC)) ?_))))));rintro _ _ _ ⟨rfl,bz,rfl,rfl⟩;refine bW (aL zl2) fun b5=>?_;refine oZ (sK 0 fD rfl rfl rfl rfl rfl (by (repeat' (first | exact trivial | refine⟨by rfl,?_⟩)))) ?_;refine tZ (sQ (rZ (lU (fA gI I zT3 I) (lK (qL (v:=vi p) iT3 I (cO 0 I I)) (lU (SU.eq (v':=vb false) (eQ I I) (zd8 vb (zf4 oM))) (lM I (lY I I I (fA underlying58 I sizeOf56 I) (SL.gq (gT I I I dC) (qL (v:=.slice q L.length c) isAgg56 I (cO 3 I I)) dC (lY I I I (eN underlying56 I) (lY I I I (fA gI I bZ I) (SL.gq (gT I I I dC) (qL (v:=.slice (some ⟨bz,0,none⟩) (R * C) (R * C)) dx I (cO 0 I I)) dC (lY I I I (eN ak I) (lY I I I (SU.eq (v':=vb false) (nQ I I) (zd8 vb (by rw[hL]; simp))) ?_)))))))))))));refine yF I (tZ (cF I (kP (tN (sW I (lW (cL call70 I (un E g _ p oM oM)) ?_))))));rintro _ g1 _ ⟨rfl,rfl,hle1⟩;refine bW (aL zl3) fun b6=>?_;refine oZ (sK 0 dX I I I I I sB) ?_;refine tZ (sQ (rZ (lU (fA underlying58 I sizeOf56 I) (lK (qL (v:=.slice q L.length c) isAgg56 I (cO 4 I I)) (lU (eN underlying56 I) (lM I (tZ (bK ?_))))))));refine oP (ι:=PH×Nat) (fun z=>[(3,pp b3 0),(4,pp b4 0),(5,pp b5 0),(6,pp b6 0),(34,.slice q L.length c),(35,vi L.length),(36,vi z.2)]) (fun z=>z.1) (fun z=>pt b6 (.cells #[vb (decide (p<0)&&decide (j5 p.natAbs≠[])),txt (j5 p.natAbs)] 121 (0,0))::pt b5 (.cells #[vi p,vi R,vi C,.slice (some ⟨bz,0,none⟩) (R * C) (R * C)] 62 (0,0))::rowA encInt 3 (.slice (some ⟨bz,0,none⟩) (R * C) (R * C)) (Aw L p z.2)::pt b4 (.cells #[vi 0,vi 0,vi 0,.slice none 0 0] 62 (0,0))::pt b3 (.cells #[vi R,vi C,.slice q L.length c] 58 (0,0))::s) (fun z=>z.2≤L.length∧Le g z.1) (fun z=>L.length - z.2) (g1,0) sB I (by rw[Ci,hL]; rfl) ⟨zf3 _,hle1⟩ ?_;rintro ⟨g2,i⟩ ⟨hi,hle2⟩;dsimp only at hi hle2 ⊢;refine rZ (yL I (tZ (sQ ?_)));refine iP I (fun hlt2=>?_) (fun hlt2=>?_)
 ·have hiL:i<L.length:=oM;have hs2:=za3 hs hle2;have hlm:(L.map wd).length=L.length:=ze3 ..;have hb1:=za4 hs (by rw[hlm]; omega);have hgi:(L.map wd)[((i:Nat):Int).toNat]?=some (wd L[i]):=by rw[zh6]; show (L[i]?).map wd=_; rw[gE hiL]; rfl
  have hml:=D8 L p hi;have hset:=D7 L p hiL;have ha:=h1 _ (gM hiL);generalize L[i]=a at *;have hr0:0≤a % p:=zk5 _ oM;have hr1:a % p<p:=zk4 _ oM;refine kP (tN (sQ (bK (sW I (lU (iA underlying56 dX I I hb1 oM sL) (lK (eA isAgg121 dX I (za5 hs2) hgi) (bW (aL zl3) fun b8=>?_)))))));refine lA I (oZ (sK 0 dX I I I I I sB) ?_);refine tZ (rZ (lK (qV 0 isAgg121 dX I I I) (lK (qV 1 isAgg121 dX I I I) (lW (cL call71 I (uU E g2 _ a p oM oM)) ?_))));rintro _ g3 _ ⟨rfl,hle3,qb,qt,rfl⟩;refine lM I (yX I (yX I (yX I (bW (aL zl3) fun b9=>?_))));refine bW (aL zl3) fun b10=>?_;refine oZ (sK 1 dX I I I I I sB) ?_;refine oZ (sK 0 dX I I I I I sB) ?_;refine aT I ?_;refine dW [9] [(0,2),(1,1),(2,2),(3,1),(4,0),(5,2),(6,2),(7,2),(8,2),(9,0)] zd9 kR ?_;refine pU I (fA gI I bZ I) (pK I (qL (v:=.slice (some ⟨bz,0,none⟩) (R * C) (R * C)) dx I (cO 4 I I)) (yM I (pK I (qV 0 isAgg121 dX I I I) (SP.o I (cL call72 I (uV E g3 _ (a % p) hr0 oM)) dC (.inr iR) ?_))));rintro _ g4 _ ⟨rfl,hle4,rfl⟩;refine yM I (pU I (xT I I) (pU I (xT I I) (pU I (iA ak zT3 I I I oM sL) (SP.on I (sT (a:=a % p) (j:=i) 5 zT3 I I I (by rw[hml]; exact hiL) I) (.inl dC) ?_))));rintro _ _ _ ⟨rfl,rfl⟩;refine pN (bN (tN (rG (yD I (lM I (nL (dR (.cons _ (.cons _ (.cons _ (.refl _)))) ?_)))))));exact gA (g4,i+1) sB I (by rw[← hset]; rfl) ⟨by dsimp only; omega,hle2.trans (hle3.trans hle4)⟩ (by dsimp only; omega)
 ·obtain rfl:i=L.length:=oM;rw[D9];refine xI (tX (tX (bX (tN (rZ (lK (qV 1 p4 fD I I I) ?_))))));refine oZ (sK 3 fD rfl rfl rfl rfl rfl (by (repeat' (first | exact trivial | refine⟨by rfl,?_⟩)))) ?_;refine tZ (rE (dR (.cons _ (.cons _ (.refl _))) (fT fun g4 hle4 hs4=>?_)));have e:(L.map (· % p)).length=R * C:=by rw[ze3,hL]
  exact ST.retCD 0 s (.inl I) results32 I p4 fD I I uR ⟨I,hle2.trans hle4,some ⟨bz,0,none⟩,R * C,by rw[e]; rfl,by rw[e]; exact hs4⟩
theorem ny {A:List Cl}(h:Rt A):cZ A:=⟨by have:=h.few; omega,fun c hc=>by have:=nJ (h.form c hc); omega⟩
theorem AG {l:List Cl}(h:Rt l):xq l+1=((dimN l:Nat):Int)∧dimN l≤9:=by
 have h1:=(rP (ab l) (-1)).1;have h2:=vG (M:=8) (ab l) (-1) oM fun c hc=>by
  rw[h.tab] at hc;have:=(h.form c hc).dim;omega
 unfold xq dimN;omega
theorem Hf {p:Int}(h2:2≤p)(L:List Int):∀ x∈L.map (· % p),0≤x∧x<p:=fun x hx=>by
 obtain ⟨y,-,rfl⟩:=ze8.1 hx;exact⟨zk5 _ oM,zk4 _ oM⟩
theorem B7 (E:World)(g:PH)(s:Own)(p:Int)(h2:2≤p)(h9:p<9)(hp:gg p=true) :
  Ctr Tryz.prog E 26 #[vi p] g s (fun r g' s'=>r=vb true∧g=g'∧s=s'):=by
 have:=mB E g s p h2 h9;rwa [hp] at this
theorem wH (E:World)(g:PH)(s:Own)(v:Value)(l:List Cl)(hv:am g v l)(hr:Rt l)(h100:l.length≤100) :
  Ctr Tryz.prog E 27 #[.agg #[v]] g s (fun x g' s'=>s=s'∧Le g g'∧x=vi 0):=by
 have hf:=ny hr;obtain ⟨q,c,rfl⟩:=hv.form;obtain ⟨hD,hD9⟩:=AG hr;refine za9 (args:=[.agg #[.slice q l.length c]]) func27 I ntmps27 (bE I) ?_;refine rZ (bW (bO I) fun b1=>?_);refine aT I (sQ (rZ (lK (qV 0 bq aw I I I) (lW (cL call37 I (j4 E g _ _ l hv hf)) ?_))));rintro _ _ _ ⟨rfl,rfl,rfl⟩;rw[hr.check];refine lM I (yX I (yX I (lA I (aT I (sW I (lU (SU.eq (v':=vb false) (nQ I I) (zd8 vb (by simp))) ?_))))));refine tZ (cF I (kP (tN (sQ (rZ (lK (qV 0 bq aw I I I) (lW (cL call14 I (ll E g _ _ l hv hf)) ?_)))))));rintro _ g1 _ ⟨rfl,rfl,hle1⟩;refine lU (SU.eq (v':=vi (dimN l:Nat)) (aD I I oM) (zd8 vi hD)) (lM I (tZ (bK ?_)));refine oP (ι:=PH×Nat) (fun z=>[(1,pp b1 0),(16,vi (dimN l)),(17,vi z.2)]) (fun z=>z.1) (fun z=>pt b1 (.cells #[.slice q l.length c] 30 (0,0))::s) (fun z=>z.2≤dimN l∧Le g z.1) (fun z=>dimN l - z.2) (g1,0) sB I I ⟨zf3 _,hle1⟩ ?_;rintro ⟨g2,n⟩ ⟨hn,hle2⟩;dsimp only at hn hle2 ⊢;refine rZ (yL I (tZ (sQ ?_)));refine iP I (fun hlt=>?_) (fun hlt=>?_)
 ·obtain ⟨e1,e2⟩:=rR hr (n:Int);refine kP (tN (sQ (bK (sW I (aT I (rZ (lK (qV 0 bq aw I I I) (lM I (lW (cL call34 I (nG E g2 _ _ l (n:Int) (hv.mono hle2) hf)) ?_)))))))));rintro u g3 _ ⟨rfl,hle3,hu⟩;obtain ⟨p1,c1,rfl⟩:=za2 hu;refine lU (eN ak I) (lU (SU.eq (v':=vb false) (gR I I) (zd8 vb (zf4 oM))) (tZ (cF I (kP (bN (tN (rG (yD I (lM I (nL ?_))))))))));exact gA (g3,n+1) sB I I ⟨by dsimp only; omega,hle2.trans hle3⟩ (by dsimp only; omega)
 ·refine xI (tX (tX (bX (tN (rZ (aT I (rE (dR (s':=s) uR ?_))))))));exact za6 (.inl I) results27 I ⟨I,hle2,I⟩
theorem w8 (E:World)(g:PH)(s:Own)(v:Value)(b k:Nat)(p:Int)(hp:Fp p)(R C:Nat)(hR:R≤400)(hC:C≤400)(L:List Int)(hL:L.length=R * C)(hv:GO g v (R,C,L))(h1:∀ n∈L,n.natAbs≤1)(hk:s[k]?=some (pt b (.cells #[vi p] 3 (0,0)))) :
  Ctr Tryz.prog E 30 #[v,pp b 0] g s (fun x g' s'=>s=s'∧Le g g'∧x=vi (rk p (atF (L.map (· % p)) C) R C:Nat)):=by
 have hv0:=hv;have hp2:=hp.lt;obtain ⟨q,c,rfl,hs⟩:=hv;dsimp only at hs hv0 ⊢;refine za9 (args:=[.agg #[vi R,vi C,.slice q L.length c],pp b 0]) func30 I ntmps30 (bE I) ?_;refine rZ (bW (bO I) fun b2=>?_);refine aT I (rZ (lK (qL (v:=vi p) iT3 I (cO (k+1) hk I)) (lK (qV 0 isAgg58 qu I I I) (lW (cL call32 I (CO E g _ _ p hp R C hR hC L hL hv0 h1)) ?_))));rintro v6 g1 _ ⟨rfl,hle1,hm⟩;refine lW (cL call31 I (rz E g1 _ v6 p hp R C hR hC (L.map (· % p)) (by rw[ze3]; exact hL) hm (Hf oM L))) ?_;rintro _ g2 _ ⟨rfl,hle2,rfl⟩;refine aT I (rE (dR (s':=s) uR ?_));exact za6 (.inl I) results30 I ⟨I,hle1.trans hle2,I⟩
theorem E8 {p:Int}(hp:Fld p)(X:List Cl)(d:Int):rkD p X d≤X.length:=by
 have h1:rkP p (dV X d) (dV X (d - 1))≤(dV X d).length:=by
  unfold rkP rkL;exact jn hp _ _ _
 have h2:(dV X d).length≤X.length:=zc2 _ _;unfold rkD;omega
theorem ws {β:Type}(f:Nat→β)(d:Nat):(List.range (d+1)).map f=(List.range d).map f++[f d]:=by rw[List.range_succ,zg2]; rfl
theorem wN (E:World)(g:PH)(s:Own)(v:Value)(l:List Cl)(p:Int)(hv:am g v l)(hr:Rt l)(h100:l.length≤100)(hp:gg p=true) :
  Ctr Tryz.prog E 11 #[.agg #[v],vi p] g s (fun x g' s'=>s=s'∧Le g g'∧∃ u,x = .tuple #[u,vi 0]∧bT g' u ((List.range (dimN l)).map fun d:Nat=>ko p l d)):=by
 have hf:=ny hr;have hfp:=eR.1 hp;have hpl:=hfp.lt;have hfld:=hfp.fld;obtain ⟨q,c,rfl⟩:=hv.form;obtain ⟨hD,hD9⟩:=AG hr;refine za9 (args:=[.agg #[.slice q l.length c],vi p]) func11 I ntmps11 (bE I) ?_;refine rZ (bW (bO I) fun b2=>?_);refine bW (bO I) fun b3=>?_;refine lA I (aT I (sQ (rZ (lK (qL (v:=vi p) iT3 I (cO 0 I I)) (lU (SU.eq (v':=vb true) (nQ I I) (zd8 vb (zf5 oM))) (lM I (SL.gq (gT I I I dC) (qL (v:=vi p) iT3 I (cO 0 I I)) dC (zd7 (gT I I I dC) (cL call26 I (B7 E g _ p oM oM hp)) dC ?_))))))));rintro _ _ _ ⟨rfl,rfl,rfl⟩;refine lY I I I (SU.not I) (yP I (tZ (cF I (kP (tN (sQ (rZ (lK (qV 1 bq aw I I I) (lW (cL call27 I (wH E g _ _ l hv hr h100)) ?_)))))))));rintro _ g1 _ ⟨rfl,hle1,rfl⟩;refine aT I (sW I (lU (SU.eq (v':=vb false) (nQ I I) (zd8 vb (by simp))) ?_));refine tZ (cF I (kP (tN (rZ (aT I (sQ (rZ (lK (qL (v:=vi p) iT3 I (cO 0 I I)) (lU (SU.eq (v':=vb true) (nQ I I) (zd8 vb (zf5 oM))) (tZ (cT I (rG (lU (SU.mkFunc I) (aT I (rZ (aT I (rZ ?_)))))))))))))))));refine aT I (sQ (rZ (lK (qV 1 bq aw I I I) (lW (cL call14 I (ll E g1 _ _ l (hv.mono hle1) hf)) ?_))));rintro _ g2 _ ⟨rfl,rfl,hle2⟩;refine lU (SU.eq (v':=vi (dimN l:Nat)) (aD I I oM) (zd8 vi hD)) (lM I (tZ (bK (zb4 3 1 ?_))));have h00:=DT hfld hr;refine oP (ι:=PH×Nat×Value) (fun z=>[(2,pp b2 0),(3,pp b3 0),(7,.func (.func 30) #[] #[pp b3 0]),(8,z.2.2),(9,vi (rkD p l (z.2.1:Int):Nat)),(29,vi (dimN l)),(30,vi z.2.1)]) (fun z=>z.1) (fun z=>rowA encInt 3 z.2.2 ((List.range z.2.1).map fun d:Nat=>ko p l d)::pt b3 (.cells #[vi p] 3 (0,0))::pt b2 (.cells #[.slice q l.length c] 30 (0,0))::s) (fun z=>z.2.1≤dimN l∧Le g z.1) (fun z=>dimN l - z.2.1) (g2,0,.slice none 0 0) ⟨I,I,I,I,by show _=some (vi ((rkD p l 0:Nat):Int)); rw[h00]; rfl,rfl,rfl,trivial⟩ rfl rfl ⟨zf3 _,hle1.trans hle2⟩ ?_;rintro ⟨g3,n,ov⟩ ⟨hn,hle3⟩;dsimp only at hn hle3 ⊢;have hrl:((List.range n).map fun d:Nat=>ko p l d).length=n:=by rw[ze3,zi1]
 refine rZ (yL I (tZ (sQ ?_)));refine iP I (fun hlt2=>?_) (fun hlt2=>?_)
 ·obtain ⟨e1,e2⟩:=rR hr (n:Int);obtain ⟨e3,e4⟩:=rR hr ((n:Int)+1);have e5:=(rR hr ((n:Int)+1 - 1));have hmr:=Cp oM hr.tab ((n:Int)+1) (M:=l);have hrk:=F8 hfld hr ((n:Int)+1);have hb1:=E8 hfld l (n:Int);have hb2:=E8 hfld l ((n:Int)+1);have hbet:ko p l ((n:Nat):Int)=((cB l (n:Int)).length:Int) - (rkD p l (n:Int):Int) - (rkD p l ((n:Int)+1):Int):=by rw[e1]; rfl
  refine kP (tN (sQ (bK (sW I (aT I (sW I (lK (qV 2 bq aw I I I) (lM I (yD I (lW (cL call33 I (wG E g3 _ _ l ((n:Int)+1) (hv.mono hle3) hf oM)) ?_))))))))));rintro v37 g4 _ ⟨rfl,hle4,hm4⟩;rw[hmr] at hm4;refine lW (SO.callV I I (cI.mk (cap:=[pp b3 0]) call30 (w8 E g4 _ v37 b3 1 p hfp _ _ oM oM (yW l ((n:Int)+1)) (xY l ((n:Int)+1)) hm4 (Gn hr ((n:Int)+1)) I))) ?_;rintro _ g5 _ ⟨rfl,hle5,rfl⟩;rw[hrk];refine aT I (sW I (lK (qV 2 bq aw I I I) (lM I (lW (cL call34 I (nG E g5 _ _ l (n:Int) (hv.mono (hle3.trans (hle4.trans hle5))) hf)) ?_))));rintro u g6 _ ⟨rfl,hle6,hu⟩;obtain ⟨p1,c1,rfl⟩:=za2 hu;refine lU (eN ak I) (lM I (lU (sU I I oM) (lM I (lU (SU.eq (v':=vi (ko p l ((n:Nat):Int))) (sU I I oM) (zd8 vi hbet.symm)) (lW (bS sty25 I I I (ae ⟨I,trivial⟩) dC) ?_)))));rintro _ _ _ ⟨b48,rfl,rfl,rfl⟩;refine lW (aP (e:=encInt) (l:=(List.range n).map fun d:Nat=>ko p l d) 0 (ko p l ((n:Nat):Int)) sty25 I I I I I oM oM) ?_;rintro v49 _ _ ⟨rfl,rfl⟩;refine aT I (rG (lM I (lA I (nL (bN (tN (rG (yD I (lM I (nL ?_))))))))));exact gA (g6,n+1,v49) sB I (by dsimp only; rw[ws]; rfl) ⟨by dsimp only; omega,hle3.trans (hle4.trans (hle5.trans hle6))⟩ (by dsimp only; omega)
 ·obtain rfl:n=dimN l:=oM;refine xI (tX (tX (bX (tN (sW I (lA I (aT I (rE (fT fun g4 hle4 hs4=>?_)))))))));refine dR (s':=s) uR ?_;exact ST.ret2 (.inl I) results11 I I ⟨I,hle3.trans hle4,_,I,hs4⟩
set_option maxHeartbeats 2000000
def xk (y:Int):Int:=if bU y 3=0 then 2 else if bU y 3=1 then 3 else 5
theorem Dw (y:Int):([2,3,5]:List Int)[(bU y 3).toNat]?=some (xk y):=by
 have:=aV y 3 dC dC;unfold xk
 rcases (by omega:bU y 3=0∨bU y 3=1∨bU y 3=2) with e | e | e
 ·rw[e]; rfl
 ·rw[e]; rfl
 ·rw[e]; rfl
theorem FO (y:Int):gg (xk y)=true∧2≤xk y∧xk y<9:=by
 unfold xk;split
 ·decide
 ·split
  ·decide
  ·decide
theorem BL {l:List Cl}(hl:(ab l).length≤1000){T:List (List Int)}(hok:TOk l T):T.length<1099511627776∧∀ t∈T,t.length<1099511627776:=by
 refine⟨by have:=hok.few; omega,fun t ht=>?_⟩;have h1:=hok.len t ht;have h2:(iW l).length≤(ab l).length:=by unfold iW; rw[ze3]; exact zc2 _ _
 omega
set_option maxHeartbeats 4000000
def FD (C:Nat)(ts:Rws):Prop:=∀ t∈ts,t.2.length=C∧∃ b,t.1=⟨some ⟨b,0,none⟩,C,C⟩
theorem FD.set {C:Nat}{ts:Rws}(h:FD C ts){i k:Nat}{v:Sv}{l:List Int}(hi:ts[i]?=some (v,l))(x:Int):FD C (ts.set i (v,l.set k x)):=fun t ht=>by
 rcases List.mem_or_eq_of_mem_set ht with e | e
 ·exact h t e
 ·have:=h _ (zf8 hi);subst e;exact⟨by rw[zh9]; exact this.1,this.2⟩
theorem DH {ts:Rws}{i:Nat}{v:Sv}{l l':List Int}(hi:ts[i]?=some (v,l)):(ts.set i (v,l')).map Prod.fst=ts.map Prod.fst:=by
 rw[List.map_set];refine List.ext_getElem? fun j=>?_;by_cases e:i=j
 ·subst e;have hl:=(zf2.1 hi).1;rw[List.getElem?_set_self (by rw[ze3]; exact hl),zh6,hi];rfl
 ·rw[List.getElem?_set_ne e]
def cntZ (S k:Nat):Nat:=((List.range k).filter fun j=>S.testBit j).length
theorem oY (S k:Nat):cntZ S (k+1)=cntZ S k+if S.testBit k then 1 else 0:=by
 unfold cntZ;rw[List.range_succ,zh3,ze2];cases e:S.testBit k <;> simp[e]
theorem vJ (S:Nat):∀ k,cntZ S k≤k
 | 0=>lR _
 | k+1=>by
  have:=vJ S k;rw[oY];split <;> omega
theorem yv {S n:Nat}(hn:n≤4)(hS:S<2 ^ n):cntZ S n=onesB S:=by
 have key:∀ n,n<5→∀ S,S<2 ^ n→cntZ S n=onesB S:=by decide +kernel
 exact key n oM S hS
theorem D2 {S:Nat}(h0:0<S)(hS:S<16):0<onesB S∧onesB S≤4:=by
 have key:∀ S,S<16→0<S→0<onesB S∧onesB S≤4:=by decide +kernel
 exact key S hS h0
theorem Hc {S n:Nat}(hn:n≤4)(hS:S<2 ^ n):onesB S≤n:=by rw[← yv hn hS]; exact vJ S n
theorem aF.cut1 {g:PH}{q:Option Addr}{n c:Nat}{U:List (List (List Int))}(h:Pgs g (.slice q n c) U)(h4:1≤n):∃ q' c',sliced q 0 1 c 1 = .slice q' 1 c'∧Pgs g (.slice q' 1 c') (U.take 1):=by
 obtain ⟨us,hus,hall⟩:=h;obtain ⟨rfl,-⟩:=SlA.cap hus;have hcut:=SlA.cut (l:=0) (m:=1) (k:=1) (e:=encSv) hus dC oM;rw[List.drop_zero] at hcut;obtain ⟨q',hq⟩:=wj q 0 1 c 1;rw[hq] at hcut;exact⟨q',_,hq,us.take 1,hcut,aB.take 1 hall⟩
theorem qd (E:World)(hE:E.drawn=0)(g:PH)(s:Own)(v nv:Value)(kd y:Int)(ls:List (List Int))(ns:List Int)(sd z:Int)(hv:aF g v ls)(hn:bT g nv ns) :
  Ctr Tryz.prog E 4 #[.agg #[vi kd,v,vi y],nv,.agg #[vi sd,vi z]] g s (fun r g' s'=>r=vb true∧s=s'∧Le g g'):=by
 obtain ⟨p,n,c,rfl⟩:∃ p n c,v = .slice p n c:=by
  obtain ⟨rs0,hrs0,_⟩:=hv;obtain ⟨p,c,rfl⟩:=za2 hrs0;exact⟨_,_,_,I⟩
 have hsm:=BR kd ls y;have hzr:=aV z 3 dC dC;obtain ⟨hpr,hp2,hp9⟩:=FO z;generalize hMd:jg kd ls y=M at *;have hMl:=hsm.few;have hMr:=hsm.rt;have hMf:cZ M:=⟨oM,fun c hc=>by have:=nJ (hMr.form c hc); omega⟩;have hMt:(ab M).length≤1000:=by rw[hMr.tab]; omega
 obtain ⟨hD,hD9⟩:=AG hMr;have hfld:=(eR.1 hpr).fld;refine za9 (args:=[.agg #[vi kd,.slice p n c,vi y],nv,.agg #[vi sd,vi z]]) func4 I ntmps4 (bE I) ?_;refine rZ (bW (bO I) fun b3=>?_);refine bW (bO I) fun b5=>?_;refine aT I (rZ (lW (cL call6 I (s6 E hE g _)) ?_));rintro _ g1 _ ⟨rfl,rfl,hle1⟩;have hv1:=hv.mono hle1;refine aT I (rZ (lK (qV 1 isAgg24 sizeOf24 I I I) (lW (cL call7 I (zq E g1 _ _ kd y ls hv1)) ?_)));rintro _ g2 _ ⟨rfl,hle2,u2,rfl,hu2⟩;rw[hMd] at hu2;obtain ⟨q2,d2,rfl⟩:=hu2.form;refine bW (aL zl4) fun b8=>?_;refine oZ (sK 0 aw I I I I I ⟨I,trivial⟩) (tZ (rZ (lW (bS sty25 I I I (ae sB) dC) ?_)));rintro _ _ _ ⟨b26,rfl,rfl,rfl⟩;refine zb3 fun g3 hle3 hb26=>?_;have h26:SlA encInt g3 (.slice (some ⟨b26,0,none⟩) 3 3) [2,3,5]:=SlA.lit hb26 rfl rfl;have hu3:=hu2.mono hle3;refine lU (SU.indexAddrA underlying26 zT3 I I dC dC) (lK (qL (v:=vi z) iT3 I (cO 1 I I)) (lW (cL kT8 I (aW E _ _ z 3 dC)) ?_));rintro _ _ _ ⟨rfl,rfl,rfl⟩;refine lU (iA ak zT3 I I I oM (show bU z 3<((3:Nat):Int) by omega)) ?_;refine lK (eB iT3 I (za5 h26) (Dw z) I) (aT I (rZ (lK (qV 0 bq aw I I I) (lU (SU.indexAddrA underlying26 zT3 I I dC dC) (lK (qL (v:=vi sd) iT3 I (cO 1 I I)) (lM I (lW (cL call10 I (zf E g3 _ _ _ M sd ns hu3 hMf hMt (za3 hn (hle1.trans (hle2.trans hle3))))) ?_)))))));rintro tv g4 _ ⟨rfl,hle4,T,hT,hok⟩;have hu4:=hu3.mono hle4;obtain ⟨hTl,hTs⟩:=BL hMt hok;have hpe:=tE hsm hok hpr;have hfp:=wO hsm hok hpr;have hcov:=AQ hsm hok;refine aT I (rZ (lK (qV 0 bq aw I I I) (lM I (lM I (lW (cL call13 I (mD E hE g4 _ _ tv M T (xk z) hu4 hMf hsm.ids hT hTl hTs hp2 hp9)) ?_)))));rintro _ g5 _ ⟨rfl,hle5,u5,rfl,hP⟩;rw[hpe];have hT5:=hT.mono hle5;have hu5:=hu4.mono hle5;obtain ⟨us,hus,hallu⟩:=id hP;obtain ⟨up,uc,rfl⟩:=za2 hus;have hul:=hallu.length;have huc:=(SlA.cap hus).2;obtain ⟨ts0,hts0,hallt⟩:=id hT5;obtain ⟨tp,tc,rfl⟩:=za2 hts0;have htl:=hallt.length;have hPl:=(zf2.1 hfp).1;refine lM I (yX I (yX I (lA I (aT I (sQ (sW I (lU (nQ I I) (lM I (yC I (lY I I I (eN nS I) (lY I I I (SU.eq (v':=vb false) (eQ I I) (zd8 vb (zf4 oM))) (yF I (tZ ?_)))))))))))));have hn4:=hok.few;have hle15:=hle1.trans (hle2.trans (hle3.trans (hle4.trans hle5)));have hp4:2 ^ T.length≤16:=Nat.pow_le_pow_right (n:=2) dC hn4;have hE1:(cQ M T (xk z)).take 1=[gO (xk z) M (tlB M 0 T) T.length (dimN M) (2 ^ T.length) 0]:=by
  cases hpg:cQ M T (xk z) with
  | nil=>rw[hpg] at hPl; simp at hPl
  | cons x r =>
   rw[hpg,List.getElem?_cons_zero] at hfp;injection hfp with hfp
   rw[← hfp];rfl
 clear hfp;obtain ⟨q1,c1,hq1,hP1⟩:=aF.cut1 hP oM;rw[hE1] at hP1;clear hE1 hpe hP;generalize xk z=pr at *;refine cF I (kP (tN (sW I (lU (SU.eq (v':=vi T.length) (eN bH I) (by rw[htl])) ?_))));refine aT I (sW I (lW (mK encSv ⟨none,0,0⟩ sty22 I I I oM oM) ?_));rintro _ _ _ ⟨bm,rfl,rfl,rfl⟩;refine aT I (sQ (rZ (aT I (bK ?_))));refine SC.to (g':=g5) (s':=rowA encSv 25 (.slice (some ⟨bm,0,none⟩) T.length T.length) (List.replicate T.length ⟨none,0,0⟩)::pt b8 (.cells #[.slice q2 M.length d2] 30 (0,0))::s) (fun w hw=>hw.sublist (.cons_cons _ (.cons_cons _ (.cons _ (.cons _ (.refl _)))))) ?_;refine oP (ι:=PH×Nat×Rws) (fun z=>[(7,vb true),(8,pp b8 0),(9,vi pr),(10,.slice tp ts0.length tc),(11,.slice up us.length uc),(13,vi T.length),(14,.slice (some ⟨bm,0,none⟩) T.length T.length),(15,vi z.2.1)]) (fun z=>z.1) (fun z=>rowA encSv 25 (.slice (some ⟨bm,0,none⟩) T.length T.length) (z.2.2.map Prod.fst++List.replicate (T.length - z.2.1) ⟨none,0,0⟩)::pt b8 (.cells #[.slice q2 M.length d2] 30 (0,0))::(cg z.2.2++s)) (fun z=>z.2.1≤T.length∧Le g5 z.1∧z.2.2.length=z.2.1∧FD (dimN M) z.2.2∧z.2.2.map Prod.snd=List.replicate z.2.1 (List.replicate (dimN M) 0)) (fun z=>T.length - z.2.1) (g5,0,[]) sB I (by dsimp only; rw[Nat.sub_zero]; rfl) ⟨zf3 _,zb7 _,rfl,fun t ht=>by simp at ht,rfl⟩ ?_;rintro ⟨g6,a,ts⟩ ⟨ha,hle6,htn,htof,htm⟩;dsimp only at ha hle6 htn htof htm ⊢;refine sQ (sW I (lM I (yL I (tZ ?_))));refine iP I (fun hlt=>?_) (fun hlt=>?_)
 ·have haN:a<T.length:=oM;have hrep:List.replicate (T.length - a) (⟨none,0,0⟩:Sv)=⟨none,0,0⟩::List.replicate (T.length - (a+1)) ⟨none,0,0⟩:=by rw[← List.replicate_succ]; congr 1; omega
  refine kP (tN (sQ (bK (rG (lM I (lM I (lK (qV 1 bq aw I I I) (lW (cL call14 I (ll E g6 _ _ M (hu5.mono hle6) hMf)) ?_))))))));rintro _ g7 _ ⟨rfl,rfl,hle7⟩;refine lU (SU.eq (v':=vi (dimN M:Nat)) (aD I I oM) (zd8 vi hD)) (lW (mK encInt 0 sty25 I I I oM oM) ?_);rintro _ _ _ ⟨b65,rfl,rfl,rfl⟩;refine lU (SU.eq (v':=.pointer (some ⟨bm,0+a * 1,none⟩)) (iA bH bZ I I I oM sL) I) (oZ (sT (e:=encSv) (a:=⟨some ⟨b65,0,none⟩,dimN M,dimN M⟩) (j:=a) 1 bZ I I I (by rw[ze2,ze3,List.length_replicate]; omega) I) ?_);refine nL (bN (tN (rG (lM I (yD I (lA I (nL ?_)))))));have hset:(ts.map Prod.fst++List.replicate (T.length - a) (⟨none,0,0⟩:Sv)).set a ⟨some ⟨b65,0,none⟩,dimN M,dimN M⟩=(ts++[((⟨some ⟨b65,0,none⟩,dimN M,dimN M⟩:Sv),List.replicate (dimN M) (0:Int))]).map Prod.fst++List.replicate (T.length - (a+1)) ⟨none,0,0⟩:=by
   rw[hrep,List.set_append_right _ _ (by rw[ze3]; omega),ze3,htn,Nat.sub_self,List.set_cons_zero,zg2,zg5];rfl
  refine ST.perm (wn [rowA encSv 25 (.slice (some ⟨bm,0,none⟩) T.length T.length) ((ts.map Prod.fst++List.replicate (T.length - a) (⟨none,0,0⟩:Sv)).set a ⟨some ⟨b65,0,none⟩,dimN M,dimN M⟩),pt b8 (.cells #[.slice q2 M.length d2] 30 (0,0))] ts ⟨some ⟨b65,0,none⟩,dimN M,dimN M⟩ (List.replicate (dimN M) 0) s) ?_;exact gA (g7,a+1,ts++[(⟨some ⟨b65,0,none⟩,dimN M,dimN M⟩,List.replicate (dimN M) 0)]) sB I (by dsimp only; rw[hset]; rfl) ⟨by dsimp only; omega,hle6.trans hle7,by dsimp only; rw[ze2,htn]; rfl,fun t ht=>by
   rcases ze9.1 ht with e | e
   ·exact htof t e
   ·rw[zh4.1 e]; exact⟨List.length_replicate,b65,I⟩,by dsimp only; rw[zg2,htm,List.replicate_succ']; rfl⟩ (by dsimp only; omega)
 ·obtain rfl:a=T.length:=oM;rw[Nat.sub_self,List.replicate_zero,zc3];refine xI (tX (tX (bX (tN (sQ (rZ (aT I (bK ?_))))))));refine oP (ι:=PH×Nat×Rws) (fun z=>[(7,vb true),(8,pp b8 0),(9,vi pr),(10,.slice tp ts0.length tc),(11,.slice up us.length uc),(13,vi T.length),(14,.slice (some ⟨bm,0,none⟩) T.length T.length),(16,vi z.2.1)]) (fun z=>z.1) (fun z=>rowA encSv 25 (.slice (some ⟨bm,0,none⟩) T.length T.length) (z.2.2.map Prod.fst)::pt b8 (.cells #[.slice q2 M.length d2] 30 (0,0))::(cg z.2.2++s)) (fun z=>1≤z.2.1∧z.2.1≤2 ^ T.length∧Le g5 z.1∧z.2.2.length=T.length∧FD (dimN M) z.2.2∧z.2.2.map Prod.snd=gO pr M (tlB M 0 T) T.length (dimN M) z.2.1 0) (fun z=>2 ^ T.length - z.2.1) (g6,1,ts) sB I I ⟨lR _,Nat.one_le_two_pow,hle6,htn,htof,by dsimp only; rw[htm,vY]⟩ ?_;clear htn htof htm hle6 ha;rintro ⟨g7,S,xs⟩ ⟨hS1,hS2,hle7,hxn,hxof,hxm⟩;dsimp only at hS1 hS2 hle7 hxn hxof hxm ⊢;refine sQ (sW I (lM I (lU (SU.eq (v':=vi (2 ^ T.length:Nat)) (SU.shl I I oM) (zd8 vi (yN hn4))) (yL I (tZ ?_)))));refine iP I (fun hlt2=>?_) (fun hlt2=>?_)
  ·have hSlt:S<2 ^ T.length:=oM;have hu7:=hu5.mono hle7;refine kP (tN (sQ (bK (rZ (lK (qV 1 bq aw I I I) (lW (cL call15 I (ir E g7 _ _ M hu7 hMf)) ?_))))));rintro _ g8 _ ⟨rfl,hle8,u8,rfl,hu8⟩;rw[hMr.canon] at hu8;obtain ⟨q8,d8,rfl⟩:=hu8.form;refine bW (aL zl4) fun b17=>?_;refine oZ (sK 0 aw I I I I I ⟨I,trivial⟩) (tZ (rZ (aT I (sQ (rZ (aT I (bK ?_)))))));refine oP (ι:=PH×Nat×Option Addr×Nat) (fun z=>[(7,vb true),(8,pp b8 0),(9,vi pr),(10,.slice tp ts0.length tc),(11,.slice up us.length uc),(13,vi T.length),(14,.slice (some ⟨bm,0,none⟩) T.length T.length),(16,vi S),(17,pp b17 0),(18,vi (((cntZ S z.2.1:Nat):Int) - 1)),(19,vi z.2.1)]) (fun z=>z.1) (fun z=>pt b17 (.cells #[.slice z.2.2.1 (part M (inK M T S z.2.1)).length z.2.2.2] 30 (0,0))::rowA encSv 25 (.slice (some ⟨bm,0,none⟩) T.length T.length) (xs.map Prod.fst)::pt b8 (.cells #[.slice q2 M.length d2] 30 (0,0))::(cg xs++s)) (fun z=>z.2.1≤T.length∧Le g7 z.1∧am z.1 (.slice z.2.2.1 (part M (inK M T S z.2.1)).length z.2.2.2) (part M (inK M T S z.2.1))) (fun z=>T.length - z.2.1) (g8,0,q8,d8) sB I (by dsimp only; rw[x5]; rfl) ⟨zf3 _,hle8,by dsimp only; rw[x5]; exact hu8⟩ ?_;rintro ⟨g9,k,qk,dk⟩ ⟨hk,hle9,hck⟩;dsimp only at hk hle9 hck ⊢;have hT9:Le g5 g9:=hle7.trans hle9;have hcle:=vJ S k;refine sQ (sW I (lM I (yL I (tZ ?_))));refine iP I (fun hlt3=>?_) (fun hlt3=>?_)
   ·have hkn:k<T.length:=oM;have hand:=Bz (M:=S) (k:=k) oM oM;refine kP (tN (sQ (bK (sW I (lM I (lU (SU.shr I I oM) (lU (SU.eq (v':=vi (if S.testBit k then 1 else 0)) (SU.and I I) (zd8 vi hand)) (yE I (tZ ?_)))))))));refine iP I (fun hbit=>?_) (fun hbit=>?_)
    ·have htb:S.testBit k=true:=by
      cases h:S.testBit k with
      | true=>rfl
      | false=>rw[h] at hbit; simp at hbit
     have hcs:(((cntZ S k:Nat):Int) - 1)+1=((cntZ S (k+1):Nat):Int) - 1:=by
      rw[oY,htb,zf7 rfl];omega
     have hk0:k<ts0.length:=oM;have hgs:ts0[((k:Nat):Int).toNat]?=some ts0[k]:=gE hk0;have hTk:=hallt.get (gE hkn) (gE hk0);have hbt:=za4 hts0 oM;have hon:=Hk hcov hkn htb;have hRk:=ug hcov S k;have hFk:=ny hRk;have hSb:Rt (part M fun id=>(cu M T[k]).contains id):=mC hMr (i6 hMr T[k]);have hFs:=ny hSb;have htl2:=hTs _ (gM hkn);generalize ts0[k]=r at *;obtain ⟨p9,n9,c9⟩:=r;have hTk:bT g5 (.slice p9 n9 c9) T[k]:=hTk;obtain ⟨rfl,-⟩:=SlA.cap hTk;refine sQ ?_;refine dW [8] [(0,1),(1,1),(2,2),(3,2),(4,2),(5,1),(6,0),(7,0),(8,0)] zd9 kR ?_;refine pK I (qV 0 bq aw I I I) (pK I (qV 2 bq aw I I I) (yM I (yM I (pU I (iA bH bZ I I hbt oM sL) (pK I (eB (u:=.slice p9 T[k].length c9) dx I (za5 (za3 hts0 hT9)) hgs I) (SP.o I (cL call17 I (DA E g9 _ _ _ M T[k] (hu5.mono hT9) hMf (za3 hTk hT9) htl2)) dC (.inr (by rintro _ g10 _ ⟨rfl,hle10,u10,rfl,hu10⟩; exact⟨by first | exact Le.refl _ | assumption | exact Le.trans (by assumption) (by assumption),(by exact .refl _)⟩)) ?_))))));rintro _ g10 _ ⟨rfl,hle10,u10,rfl,hu10⟩;rw[hMr.tab] at hu10;refine SP.o rfl (cL call16 rfl (Cm E g10 _ _ _ (part M (inK M T S k)) (part M fun id=>(cu M T[k]).contains id) (hck.mono hle10) hu10 hFk hFs)) dC (.inr (by rintro _ g11 _ ⟨rfl,hle11,u11,rfl,hu11⟩; exact⟨by exact Le.trans (by assumption) (by assumption),(by exact .refl _)⟩)) ?_;rintro _ g11 _ ⟨rfl,hle11,u11,rfl,hu11⟩;rw[hRk.tab,hSb.tab,hon] at hu11;obtain ⟨q11,d11,rfl⟩:=hu11.form;refine SP.on I (sK 0 aw I I I I I ⟨I,trivial⟩) (.inl dC) ?_;rintro _ _ _ ⟨rfl,rfl⟩;refine pN (tN (rG (lM I (lU (SU.eq (v':=vi (((cntZ S (k+1):Nat):Int) - 1)) (aD I I oM) (zd8 vi hcs)) (lA I (nL (bN (tN (rG (lM I (yD I (lA I (nL ?_)))))))))))));exact gA (g11,k+1,q11,d11) sB I I ⟨by dsimp only; omega,hle9.trans (hle10.trans hle11),hu11⟩ (by dsimp only; omega)
    ·have htb:S.testBit k=false:=by
      cases h:S.testBit k with
      | false=>rfl
      | true=>rw[h] at hbit; simp at hbit
     have hcs:cntZ S k=cntZ S (k+1):=by
      rw[oY,htb];rfl
     have hoff:=Gs (M:=M) hkn htb;rw[← hoff] at hck ⊢;rw[hcs];refine kP (bN (tN (rG (lM I (yD I (lA I (nL ?_)))))));exact gA (g9,k+1,qk,dk) sB I I ⟨by dsimp only; omega,hle9,hck⟩ (by dsimp only; omega)
   ·obtain rfl:k=T.length:=oM;have hcap:=Bj (M:=M) oM hSlt;have hRc:=CZ hcov oM hSlt;rw[hcap] at hck ⊢;obtain ⟨a,ha⟩:∃ a,onesB S=a+1:=⟨onesB S - 1,by have:=D2 (S:=S) oM oM; omega⟩;have haN:a<T.length:=by have:=Hc hn4 hSlt; omega
    have hDc:dimN (eK M (tlB M 0 T) S)≤dimN M:=CR hMr hRc fun c hc=>(li.1 hc).1;have hcl:(eK M (tlB M 0 T) S).length≤M.length:=zc2 _ _;have hwf:=y5 hfld T.length (dimN M) oM hRc;have e18:((cntZ S T.length:Nat):Int) - 1=(a:Int):=by rw[yv hn4 hSlt,ha]; omega
    rw[e18];have hbd1:=fun j=>Dn hfld hMl (tlB M 0 T) (S:=S) oM j a j;have hbd2:=fun j:Nat=>vM hfld (X:=eK M (tlB M 0 T) S) (j:Int);have hsetj:=fun j=>BF pr M (tlB M 0 T) (n:=T.length) (D:=dimN M) (j:=j) ha haN;generalize hCd:eK M (tlB M 0 T) S=C at *;refine xI (tX (tX (bX (tN (rZ (lK (qV 0 bq aw I I I) (lM I (lW (cL call11 I (wN E g9 _ _ C pr hck hRc oM hpr)) ?_))))))));rintro _ g10 _ ⟨rfl,hle10,u10,rfl,hB⟩;obtain ⟨p10,c10,rfl⟩:=za2 hB;rw[ze3,zi1] at hB ⊢;refine lM I (yX I (yX I (lA I (aT I (rZ (aT I (bK ?_)))))));refine SC.to (g':=g10) (s':=rowA encSv 25 (.slice (some ⟨bm,0,none⟩) T.length T.length) (xs.map Prod.fst)::pt b8 (.cells #[.slice q2 M.length d2] 30 (0,0))::(cg xs++s)) (fun w hw=>hw.sublist (.cons _ (.refl _))) ?_;refine oP (ι:=Nat×Rws) (fun z=>[(7,vb true),(8,pp b8 0),(9,vi pr),(10,.slice tp ts0.length tc),(11,.slice up us.length uc),(13,vi T.length),(14,.slice (some ⟨bm,0,none⟩) T.length T.length),(16,vi S),(18,vi a),(20,.slice p10 (dimN C) c10),(22,vi z.1)]) (fun _=>g10) (fun z=>rowA encSv 25 (.slice (some ⟨bm,0,none⟩) T.length T.length) (z.2.map Prod.fst)::pt b8 (.cells #[.slice q2 M.length d2] 30 (0,0))::(cg z.2++s)) (fun z=>z.1≤dimN C∧z.2.length=T.length∧FD (dimN M) z.2∧z.2.map Prod.snd=gO pr M (tlB M 0 T) T.length (dimN M) S z.1) (fun z=>dimN C - z.1) (0,xs) sB I I ⟨zf3 _,hxn,hxof,hxm⟩ ?_;clear hxn hxof hxm;rintro ⟨j,ys⟩ ⟨hj,hyn,hyof,hym⟩;dsimp only at hj hyn hyof hym ⊢;refine sQ (sW I (lM I (lU (eN ak I) (yL I (tZ ?_)))));refine iP I (fun hlt4=>?_) (fun hlt4=>?_)
    ·have hjC:j<dimN C:=oM;have hya:a<ys.length:=oM;have hy2:(ys.map Prod.snd)[a]?=some (jC pr M (tlB M 0 T) (dimN M) S j a):=by rw[hym]; exact ly _ _ _ haN
     obtain ⟨vr,hgy⟩:∃ vr,ys[a]?=some (vr,jC pr M (tlB M 0 T) (dimN M) S j a):=by
      rw[zh6,gE hya] at hy2;injection hy2 with hy2
      exact⟨ys[a].1,by rw[gE hya,← hy2]⟩
     obtain ⟨-,br,hvr⟩:=hyof _ (zf8 hgy);dsimp only at hvr;subst hvr;have hgyf:(ys.map Prod.fst)[((a:Nat):Int).toNat]?=some ⟨some ⟨br,0,none⟩,dimN M,dimN M⟩:=by
      show (ys.map Prod.fst)[a]?=_;rw[zh6,hgy];rfl
     have hgj:(jC pr M (tlB M 0 T) (dimN M) S j a)[((j:Nat):Int).toNat]?=some (je pr M (tlB M 0 T) S j a j):=lv _ _ _ oM;have hrl:=jv pr M (tlB M 0 T) (dimN M) S j a;have hgb:((List.range (dimN C)).map fun d:Nat=>ko pr C d)[((j:Nat):Int).toNat]?=some (ko pr C ((j:Nat):Int)):=by
      show ((List.range (dimN C)).map fun d:Nat=>ko pr C d)[j]?=_;rw[zh6,List.getElem?_range hjC];rfl
     have hbb:=za4 hB (by rw[ze3,zi1]; omega);have hs1:=hsetj j;have hw1:=hbd1 j;have hw2:=hbd2 j;clear hsetj hbd1 hbd2;generalize je pr M (tlB M 0 T) S j a j=w1 at *;generalize ko pr C ((j:Nat):Int)=w2 at *;generalize jC pr M (tlB M 0 T) (dimN M) S j a=l0 at *;refine kP (tN (sQ (bK ?_)));refine dW [18] [(0,2),(1,2),(2,2),(3,1),(4,2),(5,2),(6,2),(7,2),(8,1),(9,2),(10,2),(11,1),(12,2),(13,2),(14,2),(15,1),(16,2),(17,2),(18,0)] zd9 kR ?_;refine yM I (yM I (pU I (iA bH bZ I I I oM sL) (pK I (eB (u:=.slice (some ⟨br,0,none⟩) (dimN M) (dimN M)) dx I (zb5 (e:=encSv) 0 I) hgyf I) (yM I (yM I (yM I (pU I (iA bH bZ I I I oM sL) (pK I (eB (u:=.slice (some ⟨br,0,none⟩) (dimN M) (dimN M)) dx I (zb5 (e:=encSv) 0 I) hgyf I) (yM I (pU I (iA ak zT3 I I I oM sL) (pK I (eB (e:=encInt) iT3 I (zb5 (e:=encInt) (a+2) (my hgy s)) hgj I) (yM I (yM I (pU I (iA ak zT3 I I hbb oM sL) (pK I (eB (e:=encInt) iT3 I (za5 hB) hgb I) (pU I (aD I I oM) (pU I (SU.eq (v':=.pointer (some ⟨br,0+j * 1,none⟩)) (iA ak zT3 I I I oM sL) I) (SP.on I (sT (e:=encInt) (a:=w1+w2) (j:=j) (v:=.slice (some ⟨br,0,none⟩) (dimN M) (dimN M)) (l:=l0) (a+2) zT3 I I (my hgy s) oM I) (.inl dC) ?_))))))))))))))))));rintro _ _ _ ⟨rfl,rfl⟩;refine pN (bN (tN (rG (lM I (yD I (lA I (nL (dR (s':=rowA encSv 25 (.slice (some ⟨bm,0,none⟩) T.length T.length) ((ys.set a (⟨some ⟨br,0,none⟩,dimN M,dimN M⟩,l0.set j (w1+w2))).map Prod.fst)::pt b8 (.cells #[.slice q2 M.length d2] 30 (0,0))::(cg (ys.set a (⟨some ⟨br,0,none⟩,dimN M,dimN M⟩,l0.set j (w1+w2)))++s)) (by rw[DH hgy,← qQ hgy]; exact .refl _) ?_))))))));exact gA (j+1,ys.set a (⟨some ⟨br,0,none⟩,dimN M,dimN M⟩,l0.set j (w1+w2))) sB I I ⟨by dsimp only; omega,by dsimp only; rw[zh9]; exact hyn,hyof.set hgy _,by dsimp only; rw[List.map_set,hym]; exact hs1⟩ (by dsimp only; omega)
    ·obtain rfl:j=dimN C:=oM;rw[hwf] at hym;refine xI (tX (tX (bX (bN (tN (rG (lM I (yD I (lA I (nL ?_))))))))));exact gA (g10,S+1,ys) sB I I ⟨by dsimp only; omega,by dsimp only; omega,hle7.trans (hle9.trans hle10),hyn,hyof,hym⟩ (by dsimp only; omega)
  ·obtain rfl:S=2 ^ T.length:=oM;refine SC.freezeTsH (hd:=[rowA encSv 25 (.slice (some ⟨bm,0,none⟩) T.length T.length) (xs.map Prod.fst),pt b8 (.cells #[.slice q2 M.length d2] 30 (0,0))]) fun g8 hle8 hall8=>?_;refine fS fun g9 hle9 hs9=>?_;have hL:aF g9 (.slice (some ⟨bm,0,none⟩) T.length T.length) (gO pr M (tlB M 0 T) T.length (dimN M) (2 ^ T.length) 0):=⟨xs.map Prod.fst,hs9,(Dr hxm hall8).mono fun _ _=>bJ.mono hle9⟩;have hP9:=hP1.mono (hle7.trans (hle8.trans hle9));generalize hWd:gO pr M (tlB M 0 T) T.length (dimN M) (2 ^ T.length) 0=W at *;have hWl:W.length<1099511627776∧∀ x∈W,x.length<1099511627776:=by
    rw[← hWd];refine⟨by rw[lx]; omega,fun x hx=>?_⟩;obtain ⟨a,-,rfl⟩:=ze8.1 hx;rw[jv];omega
   refine xI (tX (tX (bX (tN (sW I (lM I (yC I (zd7 (gT I I I dC) (bS sty40 I I I (ae ⟨I,trivial⟩) dC) dC ?_))))))));rintro _ _ _ ⟨b128,rfl,rfl,rfl⟩;refine zb3 fun g10 hle10 hb128=>?_;have hW:Pgs g10 (.slice (some ⟨b128,0,none⟩) 1 1) [W]:=⟨[eI (.slice (some ⟨bm,0,none⟩) T.length T.length)],SlA.lit hb128 rfl rfl,⟨hL.mono hle10,trivial⟩⟩;refine yC I (lY I I I (SU.eq (v':=.slice q1 1 c1) (SU.sliceH nS sV I I dC oM) hq1) (zd7 (gT I I I dC) (cL call18 I (kx E g10 _ _ _ [W] [W] hW (hP9.mono hle10) (show 1<1099511627776 by decide) (fun A hA=>by rw[zh4.1 hA]; exact hWl) (show 1<1099511627776 by decide) (fun A hA=>by rw[zh4.1 hA]; exact hWl.1))) dC ?_));rintro _ _ _ ⟨rfl,rfl,rfl⟩;rw[zf5 (rfl:[W]=[W])];refine yP I (aT I (rE (dR (s':=s) uR ?_)));exact za6 (.inl I) results4 I ⟨I,I,hle15.trans (hle7.trans (hle8.trans (hle9.trans hle10)))⟩
end Go.Proofs.YtkbagdedfdfjhaaGreatDoor
namespace Go.Proofs.YtkbagdedfdfjhaaGreatDoor.tilesFirstDone
open _root_.Go.Proofs.Tryz _root_.Go.Proofs.YtkbagdedfdfjhaaGreatDoor.Tryz
open Go Go.Sy Go.Pl Go.Proofs Go.Proofs.YtkbagdedfdfjhaaGreatDoor
open Go.ChangeShapes Go.WideShapes Go.ChangeAt Go.RowKit
set_option linter.unusedVariables false
theorem own:ownKnob Tryz.prog.godebug=none:=by kernel_rfl
theorem laidOut:laidOutB Tryz.prog=true:=by kernel_rfl
set_option maxRecDepth 100000 in
theorem lifted (os:Os)(started:os.Started)(H:Type)(enc:TypeId×Value→H) :
  ReturnsInHanded {} Tryz.checked os 4 .any (fun w args=>(Rows.tilesFirstSpec.pre enc Tryz.prog f4 Rows.tilesFirstRow.domain false w args∧laidMetH Tryz.prog Rows.tilesFirstRow.laid w)∧sizedMet enc Tryz.prog f4 (OpenSpec.ofChange Rows.tilesFirstSpec) false w args)
   (Rows.tilesFirstSpec.post enc Tryz.prog f4 false true false false):=by
 refine returnsInHanded_of_change_and (C:=Tryz.checked) (X:=fun w _=>laidMetH Tryz.prog Rows.tilesFirstRow.laid w) (fun _ _ _ hh h=>h.of_heap hh) own started kR func4
  (ChangeSpec.witness_shaped (enc:=enc) (C:=Tryz.checked) (os:=os) (X:=fun w _=>laidMetH Tryz.prog Rows.tilesFirstRow.laid w) false (World.laidAll Tryz.prog os Rows.tilesFirstRow.laid) #[.agg #[.int .i64 0,.slice none 0 0,.int .i64 0],.slice none 0 0,.agg #[.int .i64 0,.int .i64 0]] 8 (World.laidAll_os _ _ _)
   (World.shaped_of_ZipB kR kR) kR kR kR
   (by rw[MakeChecks.laidMetH_plain _ _ _ kR]; exact laidMet_laidAll _ kR kR)) ?_
 intro W base args ds gs before hval0 hW hcnd hsz0 hL _;have hval:∀ (j:Nat) t v,f4.params[j]?=some t→args[j]?=some v→Value.okWide Tryz.prog W .any base t v:=hval0;have hW':=hW;obtain ⟨p,q,hA0,hV,rfl,hfz,hnd⟩:=hW;have hA:DataW.TrodAll enc Tryz.prog W 0 (fun _=>true) true f4.params.toList args.toList ds p:=hA0;rw[params4] at hA hval;obtain ⟨v0,vs0,d0,ds0,p0,q0,hargs,rfl,rfl,h0,r0⟩:=trodAll_cons hA;obtain ⟨v1,vs1,d1,ds1,p1,q1,rfl,rfl,rfl,h1,r1⟩:=trodAll_cons r0;obtain ⟨v2,vs2,d2,ds2,p2,q2,rfl,rfl,rfl,h2,r2⟩:=trodAll_cons r1;obtain ⟨rfl,rfl,rfl⟩:=trodAll_nil r2;obtain rfl:args = #[v0,v1,v2]:=by cases args; simp_all
 obtain ⟨rfl,rfl⟩:=trodVars_none hV;have lt0:∀ x∈p0,x.block<W.heap.size:=by obtain ⟨m,hm⟩:=h0; exact DataW.trod_lt m _ _ _ hm
 have lt1:∀ x∈p1,x.block<W.heap.size:=by obtain ⟨m,hm⟩:=h1; exact DataW.trod_lt m _ _ _ hm
 have lt2:∀ x∈p2,x.block<W.heap.size:=by obtain ⟨m,hm⟩:=h2; exact DataW.trod_lt m _ _ _ hm
 obtain ⟨kd,y,u,ls,e0,hls⟩:=DE (hval 0 24 v0 rfl rfl) h0;obtain ⟨a1,n1,c1,s1⟩:=okWide_slice ak (hval 1 25 v1 rfl rfl);obtain ⟨ns1,hn1⟩:=Eo h1 (by rw[s1]; rfl);obtain ⟨x2_0,x2_1,e2,w2_0,w2_1⟩:=GH (hval 2 26 v2 rfl rfl) h2;clear hA0 hval0;have walk:Calls Tryz.prog 4 #[v0,v1,v2] W fun e w'=>e = .returned (.bool true)∧Below W.heap.size W w':=by
  rw[e0,e2];refine (qd (E0 W) I (xm W) [] u _ kd y ls ns1 x2_0 x2_1 hls hn1 W (EO W)).mono ?_;rintro e w' ⟨v,g',s',rfl,hat,rfl,rfl,hle⟩;exact⟨I,EQ hat hle⟩
 refine walk.mono fun e W' ⟨he,bel⟩=>?_;subst he;exact⟨_,I,_,_,_,[],_,[],hW',trodAll_mk1 (shut_bool uT4 _),(trodAll_cons_mk (Below.trod laidOut kR (zf9 kR) h0 bel lt0) (trodAll_cons_mk (Below.trod laidOut kR (zf9 kR) h1 bel lt1) (trodAll_cons_mk (Below.trod laidOut kR (zf9 kR) h2 bel lt2) trodAll_mk0))),I,bel.frame _,fun h=>by cases h⟩
def Fl (P:Program)(fn:Func)(c:OpenClaim):Bool:=(c.kinds == (if c.domain.isEmpty then [] else fn.params.toList.map fun t=>match P.underlying t with | some (.int k)=>some k | _=>none))
theorem il {a b:Bool}(h:a=true)(k:b=true):(a&&b)=true:=by rw[h,k]; rfl
theorem Cw {P:Program}{f:FuncId}{fn:Func}{s:ChangeSpec}{c:OpenClaim}
  (h0:(c.wf (OpenSpec.ofChange s))=true)
  (h1:(laidOutB P)=true)
  (h2:(mapsRowed P)=true)
  (h3:(fn.params.all (P.readableRec ·))=true)
  (h4:(namedTie P c.named s.vars)=true)
  (h5:((c.stops == []))=true)
  (h6:((P.stops == []))=true)
  (h7:((c.knobs == []))=true)
  (h8:((P.stopKnobs == []))=true)
  (h9:((c.inPlace == P.inPlace f))=true)
  (h10:((c.unfollowed == P.unfollowed f))=true)
  (h11:((c.recurses == P.recurses f))=true)
  (h12:((c.named == P.varsNamed f))=true)
  (h13:((c.maps == (fn.params.toList++s.plain.varTypes P).any (P.mapsRec ·)))=true)
  (h14:((c.ifaces == (fn.params.toList++s.plain.varTypes P).any (P.ifacesRec ·)))=true)
  (h15:((c.mapsOut == P.mapsAmong fn.resultTypes.toList))=true)
  (h16:((c.loops == (fn.params.toList++s.plain.varTypes P).any (P.loopsFrom ·)))=true)
  (h17:((c.wideKeys == (fn.params.toList++s.plain.varTypes P++fn.resultTypes.toList).any (P.wideKeysFrom ·)))=true)
  (h18:(s.vars.all (P.varReadable ·))=true)
  (h19:(fn.resultTypes.all (fun t=>P.readableRec t&&decide (t<P.types.size)))=true)
  (h20:((c.ifacesOut == fn.resultTypes.toList.any (P.ifacesRec ·)))=true)
  (h21:((c.loopsOut == fn.resultTypes.toList.any (P.loopsFrom ·)))=true)
  (h22:((c.plainKeys == P.plainKeys))=true)
  (h23:(c.shortTexts.isNone)=true)
  (h24:(P.stopsHeard)=true)
  (h25:(P.mayEnter)=true)
  (h26:((c.lifted == P.liftsFinal))=true)
  (h27:((P.make == some c.make))=true)
  (h28:(Fl P fn c)=true)
  (h29:((c.pinned == c.pinnedBy))=true)
  (h30:((c.veiled == (fn.params.toList++s.plain.varTypes P++fn.resultTypes.toList).any (P.veiledRec ·)))=true)
  (h31:(c.veiledFits P fn.params.toList (fn.params.toList++s.plain.varTypes P++fn.resultTypes.toList))=true)
  : joinedFacts P f fn s c=true:=by
 exact il (il (il (il (il (il (il (il (il (il (il (il (il (il (il (il (il (il (il (il (il (il (il (il (il (il (il (il (il (il (il h0 h1) h2) h3) h4) h5) h6) h7) h8) h9) h10) h11) h12) h13) h14) h15) h16) h17) h18) h19) h20) h21) h22) h23) h24) h25) h26) h27) h28) h29) h30) h31
theorem k0:(Rows.tilesFirstRow.wf (OpenSpec.ofChange Rows.tilesFirstSpec))=true:=by kernel_rfl
theorem k1:(laidOutB Tryz.prog)=true:=by kernel_rfl
theorem k2:(mapsRowed Tryz.prog)=true:=by kernel_rfl
theorem k3:(f4.params.all (Tryz.prog.readableRec ·))=true:=by kernel_rfl
theorem k4:(namedTie Tryz.prog Rows.tilesFirstRow.named Rows.tilesFirstSpec.vars)=true:=by kernel_rfl
theorem k5:((Rows.tilesFirstRow.stops == []))=true:=by kernel_rfl
theorem k6:((Tryz.prog.stops == []))=true:=by kernel_rfl
theorem k7:((Rows.tilesFirstRow.knobs == []))=true:=by kernel_rfl
theorem k8:((Tryz.prog.stopKnobs == []))=true:=by kernel_rfl
theorem k9:((Rows.tilesFirstRow.inPlace == Tryz.prog.inPlace 4))=true:=by kernel_rfl
theorem k10:((Rows.tilesFirstRow.unfollowed == Tryz.prog.unfollowed 4))=true:=by kernel_rfl
theorem k11:((Rows.tilesFirstRow.recurses == Tryz.prog.recurses 4))=true:=by kernel_rfl
theorem k12:((Rows.tilesFirstRow.named == Tryz.prog.varsNamed 4))=true:=by kernel_rfl
theorem k13:((Rows.tilesFirstRow.maps == (f4.params.toList++Rows.tilesFirstSpec.plain.varTypes Tryz.prog).any (Tryz.prog.mapsRec ·)))=true:=by kernel_rfl
theorem k14:((Rows.tilesFirstRow.ifaces == (f4.params.toList++Rows.tilesFirstSpec.plain.varTypes Tryz.prog).any (Tryz.prog.ifacesRec ·)))=true:=by kernel_rfl
theorem k15:((Rows.tilesFirstRow.mapsOut == Tryz.prog.mapsAmong f4.resultTypes.toList))=true:=by kernel_rfl
theorem k16:((Rows.tilesFirstRow.loops == (f4.params.toList++Rows.tilesFirstSpec.plain.varTypes Tryz.prog).any (Tryz.prog.loopsFrom ·)))=true:=by kernel_rfl
theorem k17:((Rows.tilesFirstRow.wideKeys == (f4.params.toList++Rows.tilesFirstSpec.plain.varTypes Tryz.prog++f4.resultTypes.toList).any (Tryz.prog.wideKeysFrom ·)))=true:=by kernel_rfl
theorem k18:(Rows.tilesFirstSpec.vars.all (Tryz.prog.varReadable ·))=true:=by kernel_rfl
theorem k19:(f4.resultTypes.all (fun t=>Tryz.prog.readableRec t&&decide (t<Tryz.prog.types.size)))=true:=by kernel_rfl
theorem k20:((Rows.tilesFirstRow.ifacesOut == f4.resultTypes.toList.any (Tryz.prog.ifacesRec ·)))=true:=by kernel_rfl
theorem k21:((Rows.tilesFirstRow.loopsOut == f4.resultTypes.toList.any (Tryz.prog.loopsFrom ·)))=true:=by kernel_rfl
theorem k22:((Rows.tilesFirstRow.plainKeys == Tryz.prog.plainKeys))=true:=by kernel_rfl
theorem k23:(Rows.tilesFirstRow.shortTexts.isNone)=true:=by kernel_rfl
theorem k24:(Tryz.prog.stopsHeard)=true:=by kernel_rfl
theorem k25:(Tryz.prog.mayEnter)=true:=by kernel_rfl
theorem k26:((Rows.tilesFirstRow.lifted == Tryz.prog.liftsFinal))=true:=by kernel_rfl
theorem k27:((Tryz.prog.make == some Rows.tilesFirstRow.make))=true:=by kernel_rfl
theorem k28:(Fl Tryz.prog f4 Rows.tilesFirstRow)=true:=by kernel_rfl
theorem k29:((Rows.tilesFirstRow.pinned == Rows.tilesFirstRow.pinnedBy))=true:=by kernel_rfl
theorem k30:((Rows.tilesFirstRow.veiled == (f4.params.toList++Rows.tilesFirstSpec.plain.varTypes Tryz.prog++f4.resultTypes.toList).any (Tryz.prog.veiledRec ·)))=true:=by kernel_rfl
theorem k31:(Rows.tilesFirstRow.veiledFits Tryz.prog f4.params.toList (f4.params.toList++Rows.tilesFirstSpec.plain.varTypes Tryz.prog++f4.resultTypes.toList))=true:=by kernel_rfl
theorem kp:Rows.tilesFirstRow.wfByText (OpenSpec.ofChange Rows.tilesFirstSpec)=true:=by kernel_rfl
theorem kf : Tryz.prog.funcNamed "cocycle/cocyclelaw24.TilesFirst" = some 4:=by kernel_rfl
theorem kr:Tryz.pinned.checked.prog.funcNamed Rows.tilesFirstRow.func=some 4:=by kernel_rfl
theorem kj:joinedFacts Tryz.pinned.checked.prog 4 f4 Rows.tilesFirstSpec Rows.tilesFirstRow=true :=
 Cw k0 k1 k2 k3 k4 k5 k6 k7 k8 k9 k10 k11 k12 k13 k14 k15 k16 k17 k18 k19 k20 k21 k22 k23 k24 k25 k26 k27 k28 k29 k30 k31
theorem ki:f4.isInstance Tryz.prog Rows.tilesFirstRow.origin Rows.tilesFirstRow.targs:=zf9 kR
theorem kw:f4.isWrapper Tryz.prog Rows.tilesFirstRow.wrapper Rows.tilesFirstRow.mainSum:=by unfold Func.isWrapper; first | (rw[zf7 (by decide +kernel)]; kernel_rfl) | (rw[zf6 (by decide +kernel)]; exact⟨I,I⟩)
theorem km : Tryz.prog.mainIs = some (true,("d4cc9f3dc6a9b5effe993f82a597ef4545549033ec323cd3a6c24d7557273b7e" : String).toList):=by kernel_rfl
theorem kl:false=Tryz.prog.looks []:=by kernel_rfl
theorem kg:false=Rows.tilesFirstRow.goesBy Tryz.prog:=by kernel_rfl
theorem kq:([24,25,26].all fun u=>!Tryz.prog.wantsStandIn u)=true:=by kernel_rfl
theorem over:Rows.tilesFirstRow.holds Tryz.pinned (OpenSpec.ofChange Rows.tilesFirstSpec) :=
 OpenClaim.holds_of_wide 4 f4 rfl rfl rfl rfl rfl rfl rfl ⟨rfl,rfl,rfl,rfl,rfl⟩ rfl rfl rfl rfl rfl kr func4 kj ki kw
  (fun os started H enc _=>lifted os started H enc)
theorem proved:Rows.TilesFirstCardSaid :=
 Claim7.holds_tied_plain_at .later [] [.data,.pinned] true (true, "d4cc9f3dc6a9b5effe993f82a597ef4545549033ec323cd3a6c24d7557273b7e") false
  over (fun _ h=>by cases h) kp (fun _ h=>by cases h) tilesFirst_row_tie rfl ⟨rfl,rfl⟩ km rfl
  (fun f fn hf hfn=>by
   obtain rfl:f=4:=Option.some.inj (kf.symm.trans hf) |>.symm;obtain rfl:fn=f4:=(Option.some.inj (func4.symm.trans hfn)).symm;exact⟨kl,fun j t ht=>by
    rw[params4] at ht;have hm:t∈[24,25,26]:=by simpa using Array.mem_of_getElem? ht
    exact (show Tryz.prog.wantsStandIn t=false by simpa using zj6.1 kq t hm)⟩)
  kg
#print axioms proved
end Go.Proofs.YtkbagdedfdfjhaaGreatDoor.tilesFirstDone
