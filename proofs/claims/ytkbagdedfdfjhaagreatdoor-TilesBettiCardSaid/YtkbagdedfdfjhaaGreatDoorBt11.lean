/- 11 -/
import Derived.Test.YtkbagdedfdfjhaaGreatDoorBt10
import Derived.Test.YtkbagdedfdfjhaaGreatDoorBt04
import Derived.Test.YtkbagdedfdfjhaaGreatDoorBt09
import Derived.Test.YtkbagdedfdfjhaaGreatDoorBt02
import Derived.Test.YtkbagdedfdfjhaaGreatDoorBt03
import Derived.Scope
import Derived.Below
set_option linter.unusedSimpArgs false
set_option linter.unusedVariables false
namespace Go.Proofs.YtkbagdedfdfjhaaGreatDoor
open _root_.Go.Proofs.Tryz _root_.Go.Proofs.YtkbagdedfdfjhaaGreatDoor.Tryz
open Go Go.Sy Go.Pl Go.Proofs
set_option maxRecDepth 100000
set_option maxHeartbeats 1000000
def wx (B:List UInt8)(i:Nat):List Int:=List.replicate ((B.length+3) / 4) ((beN (B.take i) * 256 ^ (B.length - i):Nat):Int)
theorem oc (l:List UInt8):beN l<256 ^ l.length:=by
 obtain ⟨r,rfl⟩:∃ r,l=List.reverse r:=⟨l.reverse,by simp⟩;induction r with
 | nil=>exact Nat.zero_lt_one
 | cons b t ih =>
  rw[List.reverse_cons,m8,zd9,ze2,Nat.pow_succ];have:=b.toNat_lt;have h:(beN t.reverse+1) * 256≤256 ^ t.reverse.length * 256:=Nat.mul_le_mul_right _ ih;omega
theorem zK {k:Nat}(h:k≤4):256 ^ k≤4294967296:=zk2 (Nat.pow_le_pow_right dC h) dC
theorem D4 {B:List UInt8}(h:B.length≤4):dN (wx B B.length)=dn (beN B):=by
 unfold wx;rw[List.take_length,Nat.sub_self,Nat.pow_zero,Nat.mul_one];by_cases h0:B=[]
 ·subst h0; rfl
 ·have h1:0<B.length:=List.length_pos_iff.2 h0;rw[show (B.length+3) / 4=1 by omega];exact gN _
theorem shlB (b j:Nat)(hb:b<256)(hj:j≤3):IntKind.u64.wrap ((b:Int) * 2 ^ min (8 * (j:Int)).toNat IntKind.u64.bits)=((b * 256 ^ j:Nat):Int):=by
 rcases (by omega:j=0∨j=1∨j=2∨j=3) with rfl | rfl | rfl | rfl
 ·rw[show (2:Int) ^ min (8 * ((0:Nat):Int)).toNat IntKind.u64.bits=1 by decide,show (256:Nat) ^ 0=1 by decide,wq]; omega
 ·rw[show (2:Int) ^ min (8 * ((1:Nat):Int)).toNat IntKind.u64.bits=256 by decide,show (256:Nat) ^ 1=256 by decide,wq]; omega
 ·rw[show (2:Int) ^ min (8 * ((2:Nat):Int)).toNat IntKind.u64.bits=65536 by decide,show (256:Nat) ^ 2=65536 by decide,wq]; omega
 ·rw[show (2:Int) ^ min (8 * ((3:Nat):Int)).toNat IntKind.u64.bits=16777216 by decide,show (256:Nat) ^ 3=16777216 by decide,wq]; omega
theorem rI (E:World)(g:PH)(s:Own)(ng:Bool)(B:List UInt8)(hB:B.length≤4) :
  Ctr Tryz.prog E 119 #[.agg #[vb ng,txt B]] g s (fun r g' s'=>s=s'∧Le g g'∧SlA gW g' r (dn (beN B))):=by
 obtain ⟨q,hq⟩:∃ q,q=(B.length+3) / 4:=⟨_,rfl⟩;refine za9 (args:=[.agg #[vb ng,txt B]]) func119 I ntmps119 (bE I) ?_;refine rZ (bW (bO I) fun b1=>?_);refine aT I (rZ (lU (fA mf I sizeOf9 I) (lK (qL isAgg9 I (cO 0 I I)) (lU (SU.lenTxt uT9 I) (yD I (lU (sU I I oM) (lU (SU.eq (v':=vi (q:Nat)) (SU.quo I I dC) (zd6 vi (by rw[Int.tdiv_eq_ediv_of_nonneg oM,zk4 _ oM]; omega))) ?_)))))));refine lW (mK gW 0 sty162 I I I oM oM) ?_;rintro _ _ _ ⟨b12,rfl,rfl,rfl⟩;refine aT I (sQ (rZ (lU (fA mf I sizeOf9 I) (lK (qL isAgg9 I (cO 1 I I)) (lU (SU.lenTxt uT9 I) (lM I (tZ (bK ?_))))))));refine oP (ι:=Nat) (fun i=>[(1,pp b1 0),(3,.slice (some ⟨b12,0,none⟩) q q),(15,vi B.length),(16,vi i)]) (fun _=>g) (fun i=>rowA gW 160 (.slice (some ⟨b12,0,none⟩) q q) (wx B i)::pt b1 (.cells #[vb ng,txt B] 121 (0,0))::s) (fun i=>i≤B.length) (fun i=>B.length - i) 0
  sB rfl (by unfold wx; rw[hq]; simp[beN]; rfl) (zf1 _) ?_
 intro i hi;refine rZ (yL I (tZ (sQ ?_)));refine iP I (fun hlt=>?_) (fun hlt=>?_)
 ·have hlt:i<B.length:=oM;have hq1:q=1:=oM;obtain ⟨k,hk⟩:∃ k,k=B.length - 1 - i:=⟨_,rfl⟩;have hk3:k≤3:=oM;have hx:B[((i:Nat):Int).toNat]?=some B[i]:=gE hlt;have hacc:wx B i=[((beN (B.take i) * 256 ^ (k+1):Nat):Int)]:=by
   unfold wx;rw[← hq,hq1,show B.length - i=k+1 by omega];rfl
  have hacc':wx B (i+1)=[(((beN (B.take i) * 256+B[i].toNat) * 256 ^ k:Nat):Int)]:=by
   unfold wx;rw[← hq,hq1,show B.length - (i+1)=k by omega,tS hlt,m8];rfl
  have hA:beN (B.take i) * 256 ^ (k+1)<4294967296:=by
   have h1:=oc (B.take i);rw[zd8,Nat.min_eq_left oM] at h1;have h2:beN (B.take i) * 256 ^ (k+1)<256 ^ i * 256 ^ (k+1):=Nat.mul_lt_mul_of_pos_right h1 (Nat.pow_pos dC);rw[← Nat.pow_add] at h2;exact Nat.lt_of_lt_of_le h2 (zK oM)
  have hb:=B[i].toNat_lt;have hor:=Gn (A:=beN (B.take i)) (b:=B[i].toNat) hb hk3 hA;rw[hacc];generalize B[i]=b at *;subst hq1;refine kP (tN (sQ (bK (sW I (aT I (rZ (lU (fA mf I sizeOf9 I) (lK (qL isAgg9 I (cO 1 I I)) (lU (SU.lenTxt uT9 I) (lU (sU I I oM) (lM I (lU (SU.eq (v':=vi (k:Nat)) (sU I I oM) (zd6 vi oM)) (aT I ?_)))))))))))));refine dW [16] [(0,2),(1,2),(2,2),(3,2),(4,1),(5,2),(6,1),(7,2),(8,2),(9,2),(10,2),(11,2),(12,2),(13,2),(14,2),(15,2),(16,0)] zd7 kR ?_;refine yM I (yM I (pU I (SU.eq (v':=vi (0:Nat)) (SU.quo I I dC) (zd6 vi (by rw[Int.tdiv_eq_ediv_of_nonneg oM,zk4 _ oM]; omega))) ?_));refine pU I (iA ba dT I I I oM (by simp[slen])) ?_;refine pK I (eB isAgg160 I (zb5 0 I) (j:=0) I I) (pU I (fA mf I sizeOf9 I) (pK I (qL isAgg9 I (cO 1 I I)) (yM I (pU I (SU.txtAt uT9 I I oM hx) (pU I (SU.eq (v':=.int .u64 (b.toNat:Int)) (zd4 uT5 ny I) (zd6 (Value.int .u64) (by rw[wq]; omega))) ?_)))));refine yM I (pU I (SU.eq (v':=vi (k:Nat)) (zd3 I I dC) (zd6 vi (by rw[Int.tmod_eq_emod_of_nonneg oM]; omega))) ?_);refine pU I (SU.mul I I oM) (pU I (SU.eq (v':=.int .u64 ((b.toNat * 256 ^ k:Nat):Int)) (SU.shl I I oM) (zd6 (Value.int .u64) (shlB _ _ hb hk3))) (pU I (SU.eq (v':=.int .u64 (((beN (B.take i) * 256+b.toNat) * 256 ^ k:Nat):Int)) (SU.or I I) (zd6 (Value.int .u64) hor)) (pU I (iA ba dT I I I oM (by simp[slen])) ?_)));refine SP.on I (sT (e:=gW) (a:=(((beN (B.take i) * 256+b.toNat) * 256 ^ k:Nat):Int)) (j:=0) 0 dT I I I (bE I) I) (.inl dC) ?_;rintro _ _ _ ⟨rfl,rfl⟩;refine pN (bN (tN (rG (yD I (lM I (nL ?_))))));exact gA (i+1) ⟨I,I,I,EM I oM,trivial⟩ I (by rw[hacc']; rfl) oM oM
 ·have hi':i=B.length:=oM;subst hi';have hlen:(wx B B.length).length=q:=by unfold wx; rw[List.length_replicate,hq]
  refine xI (tX (tX (bX (tN (sQ (fS fun g1 hle hs=>?_))))));refine rG (lM I (lW (cL call161 I (kU E g1 _ _ (wx B B.length) hs oM)) ?_));rintro v43 _ _ ⟨rfl,rfl,hm⟩;refine aT I (rE ?_);rw[D4 hB] at hm;refine dR (s':=s) uR ?_;exact za6 (.inl I) results119 I ⟨I,hle,hm⟩
theorem cm (n:Nat):dn n=[]∧n=0∨dn n=[(n:Int)]∧n≠0:=by
 unfold dn;split
 ·exact .inl ⟨I,by assumption⟩
 ·exact .inr ⟨I,by assumption⟩
theorem pR (n:Nat):dN [(n:Int),0]=dn n:=by
 rw[← gN n];simp[dN]
theorem kQ (m:Nat)(k:Int)(hk:32≤k)(hk2:k≤64)(h:m<4294967296):(m:Int).fdiv (2 ^ min k.toNat IntKind.u64.bits)=0:=by
 have h1:min k.toNat IntKind.u64.bits=k.toNat:=Nat.min_eq_left (by simp only[IntKind.bits]; omega);have h2:(2:Int) ^ k.toNat=((2 ^ k.toNat:Nat):Int):=by simp
 rw[h1,h2,m4];have h3:2 ^ 32≤2 ^ k.toNat:=Nat.pow_le_pow_right dC oM;have h4:(2:Nat) ^ 32=4294967296:=by decide
 rw[h4] at h3;rw[Nat.div_eq_of_lt oM];rfl
theorem Ga {n:Int}(h:0≤n∧n<18446744073709551616):IntKind.u64.wrap n=n:=by rw[wq]; omega
def EE (la:List Int)(n:Nat)(i:Nat):List Int:=if i=0 then List.replicate (la.length+1) 0 else [(n:Int),0]
theorem vI (E:World)(g:PH)(s:Own)(v u:Value)(n m:Nat)(hv:SlA gW g v (dn n))(hu:SlA gW g u (dn m))(h:n+m<4294967296) :
  Ctr Tryz.prog E 121 #[v,u] g s (fun r g' s'=>s=s'∧Le g g'∧SlA gW g' r (dn (n+m))):=by
 obtain ⟨p1,c1,rfl⟩:=za2 hv;obtain ⟨p2,c2,rfl⟩:=za2 hu;have hl0:∀ k,(dn k).length≤1:=fun k=>by rcases cm k with ⟨h,-⟩ | ⟨h,-⟩ <;> rw[h] <;> simp
 have hl1:=hl0 n;have hl2:=hl0 m;refine za9 (args:=[.slice p1 (dn n).length c1,.slice p2 (dn m).length c2]) func121 I ntmps121 (bE I) ?_;refine rZ (aT I ?_);refine SC.cut (ι:=Value×Value×Nat×Nat) (fun q=>[(0,q.1),(1,q.2.1)]) (fun _=>g) (fun _=>s) (fun q=>SlA gW g q.1 (dn q.2.2.1)∧SlA gW g q.2.1 (dn q.2.2.2)∧q.2.2.1+q.2.2.2=n+m∧(dn q.2.2.2).length≤(dn q.2.2.1).length) ?_ ?_
 ·refine sW I (lU (eN ba I) (lM I (lU (eN ba I) (yL I (tZ ?_)))));refine iP I (fun hlt=>?_) (fun hlt=>?_)
  ·refine rG (lM I (lM I (lA I (lA I (nL ?_)))));exact za7 (_,_,m,n) sB I I ⟨hu,hv,Nat.add_comm _ _,by dsimp only; omega⟩
  ·refine kP ?_;exact za7 (_,_,n,m) sB I I ⟨hv,hu,I,by dsimp only; omega⟩
 clear hv hu hl1 hl2 p1 p2 c1 c2;rintro ⟨v,u,a,b⟩ ⟨hv,hu,hab,hle⟩;dsimp only at hv hu hab hle ⊢;rw[← hab] at h ⊢;clear hab n m;obtain ⟨p1,c1,rfl⟩:=za2 hv;obtain ⟨p2,c2,rfl⟩:=za2 hu;have hl1:=hl0 a;have hl2:=hl0 b;have hca:=cm a;have hcb:=cm b;generalize dn a=la at *;generalize dn b=lb at *;refine sW I (lU (eN ba I) (lU (SU.eq (v':=vi ((la.length+1:Nat))) (aD I I oM) (zd6 vi oM)) (lW (mK gW 0 sty162 I I I oM oM) ?_)));rintro _ _ _ ⟨b19,rfl,rfl,rfl⟩;refine aT I (rZ (aT I (sQ (sW I (lU (eN ba I) (lM I (tZ (bK ?_))))))));refine oP (ι:=Nat) (fun i=>[(0,.slice p1 la.length c1),(1,.slice p2 lb.length c2),(5,.slice (some ⟨b19,0,none⟩) (la.length+1) (la.length+1)),(6,.int .u64 0),(21,vi la.length),(22,vi i)]) (fun _=>g) (fun i=>rowA gW 160 (.slice (some ⟨b19,0,none⟩) (la.length+1) (la.length+1)) (EE la (a+b) i)::s) (fun i=>i≤la.length) (fun i=>la.length - i) 0
  sB rfl rfl (zf1 _) ?_
 intro i hi;refine rZ (yL I (tZ (sQ ?_)));refine iP I (fun hlt=>?_) (fun hlt=>?_)
 ·rcases hca with ⟨rfl,ha⟩ | ⟨rfl,ha⟩
  ·exact absurd hlt (by simp)
  obtain rfl:i=0:=by simp at hi hlt; omega
  have hb1:=za4 hv Nat.zero_lt_one;refine kP (tN (sQ (bK (sW I (aT I (sW I (lM I (lU (iA ba dT I I hb1 dC (by simp[slen])) ?_))))))));refine lK (eB isAgg160 I (za5 hv) (j:=0) I I) (lM I (lU (SU.eq (v':=.int .u64 (a:Int)) (zd5 I I) (zd6 (Value.int .u64) (by rw[Ga oM]; omega))) ?_));refine aT I (sQ (sW I (lM I (lU (eN ba I) (yL I (tZ ?_))))));refine iP I (fun hl=>?_) (fun hl=>?_)
  ·rcases hcb with ⟨rfl,hb⟩ | ⟨rfl,hb⟩
   ·exact absurd hl (by simp)
   have hb2:=za4 hu Nat.zero_lt_one;refine rG (lM I (lM I (lM I (lU (iA ba dT I I hb2 dC (by simp[slen])) ?_))));refine lK (eB isAgg160 I (za5 hu) (j:=0) I I) (lU (SU.eq (v':=.int .u64 ((a+b:Nat):Int)) (zd5 I I) (zd6 (Value.int .u64) (by rw[Ga oM]; omega))) ?_);refine aT I (rG (lM I (lM I (lM I (lU (SU.eq (v':=.int .u64 ((a+b:Nat):Int)) (SU.and I I) (zd6 (Value.int .u64) (by rw[sf _ oM,Nat.mod_eq_of_lt h]))) ?_)))));refine lM I (lU (SU.eq (v':=.int .u64 0) (SU.shr I I dC) (zd6 (Value.int .u64) (kQ _ _ dC dC h))) (lU (iA ba dT I I I dC (by simp[slen])) ?_));refine oZ (sT (e:=gW) (a:=((a+b:Nat):Int)) (j:=0) 0 dT I I I (bE I) I) (lA I (nL (bN (tN (rG (yD I (lM I (nL ?_))))))));exact gA 1 sB I I (lR _) Nat.zero_lt_one
  ·rcases hcb with ⟨rfl,hb⟩ | ⟨rfl,hb⟩
   rotate_left
   ·exact absurd hl (by simp)
   subst hb;rw[Nat.add_zero] at h ⊢;refine kP (tN (rG (lM I (lM I (lM I (lU (SU.eq (v':=.int .u64 ((a:Nat):Int)) (SU.and I I) (zd6 (Value.int .u64) (by rw[sf _ oM,Nat.mod_eq_of_lt h]))) ?_))))));refine lM I (lU (SU.eq (v':=.int .u64 0) (SU.shr I I dC) (zd6 (Value.int .u64) (kQ _ _ dC dC h))) (lU (iA ba dT I I I dC (by simp[slen])) ?_));refine oZ (sT (e:=gW) (a:=((a:Nat):Int)) (j:=0) 0 dT I I I (bE I) I) (lA I (nL (bN (tN (rG (yD I (lM I (nL ?_))))))));exact gA 1 sB I I (lR _) Nat.zero_lt_one
 ·obtain rfl:i=la.length:=oM;have hlen:(EE la (a+b) la.length).length=la.length+1:=by
   unfold EE;split
   ·simp
   ·simp; omega
  have hfin:dN ((EE la (a+b) la.length).set la.length 0)=dn (a+b):=by
   rcases hca with ⟨rfl,ha⟩ | ⟨rfl,ha⟩
   ·rcases hcb with ⟨rfl,hb⟩ | ⟨rfl,hb⟩
    ·subst ha hb; rfl
    ·simp at hle
   ·exact pR _
  refine xI (tX (tX (bX (tN (sW I (lM I (lU (eN ba I) (lM I (lU (iA ba dT I I I oM sL) (oZ (sT (e:=gW) (a:=0) (j:=la.length) 0 dT I I I oM I) (tZ (sQ ?_))))))))))));refine SC.to (g':=g) (s':=rowA gW 160 (.slice (some ⟨b19,0,none⟩) (la.length+1) (la.length+1)) ((EE la (a+b) la.length).set la.length 0)::s) (fun w hw=>hw) ?_;refine fS fun g1 hle1 hs1=>?_;refine rG (lM I (lW (cL call161 I (kU E g1 _ _ ((EE la (a+b) la.length).set la.length 0) (by unfold SlA; rw[zh7,hlen]; rw[zh7,hlen] at hs1; exact hs1) (by rw[zh7]; omega))) ?_));rintro v55 _ _ ⟨rfl,rfl,hm⟩;refine aT I (rE ?_);rw[hfin] at hm;exact za6 (.inl I) results121 I ⟨I,hle1,hm⟩
def Cg (a b:Nat):Int:=if a<b then -1 else if b<a then 1 else 0
theorem vH (E:World)(g:PH)(s:Own)(v u:Value)(n m:Nat)(hv:SlA gW g v (dn n))(hu:SlA gW g u (dn m)) :
  Ctr Tryz.prog E 164 #[v,u] g s (fun r g' s'=>r=vi (Cg n m)∧g=g'∧s=s'):=by
 obtain ⟨p1,c1,rfl⟩:=za2 hv;obtain ⟨p2,c2,rfl⟩:=za2 hu
 rcases cm n with ⟨h1,ha⟩ | ⟨h1,ha⟩
 ·rcases cm m with ⟨h2,hb⟩ | ⟨h2,hb⟩
  ·rw[h1] at hv ⊢;rw[h2] at hu ⊢;subst ha hb;refine za9 (args:=[.slice p1 0 c1,.slice p2 0 c2]) func164 I ntmps164 (bE I) ?_;refine rZ (aT I (sQ (bK (sW I (lU (eN ba I) (lM I (lU (eN ba I) (yL I (aT I (cF I (sW I (lU (eN ba I) (lM I (lU (eN ba I) (lU (gR I I) (aT I (cF I (kP ?_))))))))))))))))));refine bN (tN (sQ (sW I (lU (eN ba I) (lU (sU I I oM) (aT I (bK ?_)))))));refine oP (ι:=Unit) (fun _=>[(5,vi (-1))]) (fun _=>g) (fun _=>s) (fun _=>True) (fun _=>0) () ⟨I,trivial⟩ I I trivial ?_;intro _ _;refine sQ (sW I (lU (gQ I I) (tZ (cF I (xI (tX (tX (bX (tN (rZ (aT I (rE ?_))))))))))));exact za6 (.inl I) results164 I ⟨I,I,I⟩
  ·rw[h1] at hv ⊢;rw[h2] at hu ⊢;subst ha;refine za9 (args:=[.slice p1 0 c1,.slice p2 1 c2]) func164 I ntmps164 (bE I) ?_;refine rZ (aT I (sQ (bK (sW I (lU (eN ba I) (lM I (lU (eN ba I) (yL I (aT I (cT I (rZ (aT I (rE (bR (tR ?_)))))))))))))));exact za6 (.inl I) results164 I ⟨zd6 vi (by unfold Cg; rw[zf5 oM]),I,I⟩
 ·rcases cm m with ⟨h2,hb⟩ | ⟨h2,hb⟩
  ·rw[h1] at hv ⊢;rw[h2] at hu ⊢;subst hb;refine za9 (args:=[.slice p1 1 c1,.slice p2 0 c2]) func164 I ntmps164 (bE I) ?_;refine rZ (aT I (sQ (bK (sW I (lU (eN ba I) (lM I (lU (eN ba I) (yL I (aT I (cF I (sW I (lU (eN ba I) (lM I (lU (eN ba I) (lU (gR I I) (aT I (cT I (sQ ?_))))))))))))))))));refine rG (aT I (rE (bR (tR ?_))));exact za6 (.inl I) results164 I ⟨zd6 vi (by unfold Cg; rw[zf4 oM,zf5 oM]),I,I⟩
  ·rw[h1] at hv ⊢;rw[h2] at hu ⊢;have hb1:=za4 hv Nat.zero_lt_one;have hb2:=za4 hu Nat.zero_lt_one;refine za9 (args:=[.slice p1 1 c1,.slice p2 1 c2]) func164 I ntmps164 (bE I) ?_;refine rZ (aT I (sQ (bK (sW I (lU (eN ba I) (lM I (lU (eN ba I) (yL I (aT I (cF I (sW I (lU (eN ba I) (lM I (lU (eN ba I) (lU (gR I I) (aT I (cF I (kP ?_))))))))))))))))));refine bN (tN (sQ (sW I (lU (eN ba I) (lU (sU I I oM) (aT I (bK ?_)))))));refine oP (ι:=Nat) (fun i=>[(0,.slice p1 1 c1),(1,.slice p2 1 c2),(5,vi ((i:Int) - 1))]) (fun _=>g) (fun _=>s) (fun i=>i≤1∧(i=0→n=m)) (fun i=>i) 1 sB I I ⟨lR _,fun h=>absurd h dC⟩ ?_;rintro i ⟨hi,hz⟩;refine sQ (sW I (lU (gQ I I) (tZ ?_)));refine iP I (fun hge=>?_) (fun hge=>?_)
   ·obtain rfl:i=1:=oM;refine kP (tN (sQ (bK (bK (sQ ?_)))));refine dW [] [(0,2),(1,2),(2,2),(3,1),(4,2),(5,2),(6,2),(7,1),(8,2),(9,2)] zd7 kR ?_;refine yM I (yM I (pU I (iA ba dT I I hb1 dC (by simp[slen])) ?_));refine pK I (eB isAgg160 I (za5 hv) (j:=0) I I) (yM I (yM I (pU I (iA ba dT I I hb2 dC (by simp[slen])) ?_)));refine pK I (eB isAgg160 I (za5 hu) (j:=0) I I) (pU I (lS I I) (pU I (aS I) (pN (tN ?_))));refine iP I (fun hlt=>?_) (fun hlt=>?_)
    ·refine rZ (aT I (rE (bR (bR (tR (tR (bR (tR ?_))))))));exact za6 (.inl I) results164 I ⟨zd6 vi (by unfold Cg; rw[zf5 oM]),I,I⟩
    ·refine sQ ?_;refine dW [] [(0,2),(1,2),(2,2),(3,1),(4,2),(5,2),(6,2),(7,1),(8,2),(9,2)] zd7 kR ?_;refine yM I (yM I (pU I (iA ba dT I I hb1 dC (by simp[slen])) ?_));refine pK I (eB isAgg160 I (za5 hv) (j:=0) I I) (yM I (yM I (pU I (iA ba dT I I hb2 dC (by simp[slen])) ?_)));refine pK I (eB isAgg160 I (za5 hu) (j:=0) I I) (pU I (gR I I) (pU I (aS I) (pN (tN ?_))));refine iP I (fun hgt=>?_) (fun hgt=>?_)
     ·refine rZ (aT I (rE (bR (bR (tR (tR (bR (tR ?_))))))));exact za6 (.inl I) results164 I ⟨zd6 vi (by unfold Cg; rw[zf4 oM,zf5 oM]),I,I⟩
     ·refine kP (bN (bN (tN (rG (lM I (lU (sU I I oM) (lA I (nL ?_))))))));exact gA 0 sB I I ⟨by decide,fun _=>by omega⟩ dC
   ·refine xI (tX (tX (bX (tN (rZ (aT I (rE ?_)))))));have hnm:=hz oM;exact za6 (.inl I) results164 I ⟨zd6 vi (by unfold Cg; rw[zf4 oM,zf4 oM]),I,I⟩
def FV (la:List Int)(n:Nat)(i:Nat):List Int:=if i=0 then List.replicate la.length 0 else [(n:Int)]
theorem vG (E:World)(g:PH)(s:Own)(v u:Value)(a b:Nat)(hv:SlA gW g v (dn a))(hu:SlA gW g u (dn b))(hab:b≤a)(h:a<4294967296) :
  Ctr Tryz.prog E 122 #[v,u] g s (fun r g' s'=>s=s'∧Le g g'∧SlA gW g' r (dn (a - b))):=by
 obtain ⟨p1,c1,rfl⟩:=za2 hv;obtain ⟨p2,c2,rfl⟩:=za2 hu;have hl0:∀ k,(dn k).length≤1:=fun k=>by rcases cm k with ⟨h,-⟩ | ⟨h,-⟩ <;> rw[h] <;> simp
 have hl1:=hl0 a;have hl2:=hl0 b;have hca:=cm a;have hcb:=cm b;generalize dn a=la at *;generalize dn b=lb at *;refine za9 (args:=[.slice p1 la.length c1,.slice p2 lb.length c2]) func122 I ntmps122 (bE I) ?_;refine rZ (aT I (sW I (lU (eN ba I) (lW (mK gW 0 sty162 I I I oM oM) ?_))));rintro _ _ _ ⟨b11,rfl,rfl,rfl⟩;refine aT I (rZ (aT I (sQ (sW I (lU (eN ba I) (lM I (tZ (bK ?_))))))));refine oP (ι:=Nat) (fun i=>[(0,.slice p1 la.length c1),(1,.slice p2 lb.length c2),(5,.slice (some ⟨b11,0,none⟩) la.length la.length),(6,.int .u64 0),(13,vi la.length),(14,vi i)]) (fun _=>g) (fun i=>rowA gW 160 (.slice (some ⟨b11,0,none⟩) la.length la.length) (FV la (a - b) i)::s) (fun i=>i≤la.length) (fun i=>la.length - i) 0
  sB rfl rfl (zf1 _) ?_
 intro i hi;refine rZ (yL I (tZ (sQ ?_)));refine iP I (fun hlt=>?_) (fun hlt=>?_)
 ·rcases hca with ⟨rfl,ha⟩ | ⟨rfl,ha⟩
  ·exact absurd hlt (by simp)
  obtain rfl:i=0:=by simp at hi hlt; omega
  have hb1:=za4 hv Nat.zero_lt_one;refine kP (tN (sQ (bK (sW I (aT I (sW I (lM I (lU (iA ba dT I I hb1 dC (by simp[slen])) ?_))))))));refine lK (eB isAgg160 I (za5 hv) (j:=0) I I) (lM I (lU (SU.eq (v':=.int .u64 (a:Int)) (SU.subW I I) (zd6 (Value.int .u64) (by rw[Ga oM]; omega))) ?_));refine aT I (sQ (sW I (lM I (lU (eN ba I) (yL I (tZ ?_))))));refine iP I (fun hl=>?_) (fun hl=>?_)
  ·rcases hcb with ⟨rfl,hb⟩ | ⟨rfl,hb⟩
   ·exact absurd hl (by simp)
   have hb2:=za4 hu Nat.zero_lt_one;have hs:a - b<4294967296:=oM;refine rG (lM I (lM I (lM I (lU (iA ba dT I I hb2 dC (by simp[slen])) ?_))));refine lK (eB isAgg160 I (za5 hu) (j:=0) I I) (lU (SU.eq (v':=.int .u64 ((a - b:Nat):Int)) (SU.subW I I) (zd6 (Value.int .u64) (by rw[Ga oM]; omega))) ?_);refine aT I (rG (lM I (lM I (lM I (lU (SU.eq (v':=.int .u64 ((a - b:Nat):Int)) (SU.and I I) (zd6 (Value.int .u64) (by rw[sf _ oM,Nat.mod_eq_of_lt hs]))) ?_)))));refine lM I (lU (SU.eq (v':=.int .u64 0) (SU.shr I I dC) (zd6 (Value.int .u64) (kQ _ _ dC dC hs))) (lU (iA ba dT I I I dC (by simp[slen])) ?_));refine oZ (sT (e:=gW) (a:=((a - b:Nat):Int)) (j:=0) 0 dT I I I (bE I) I) (lA I (nL (bN (tN (rG (yD I (lM I (nL ?_))))))));exact gA 1 sB I I (lR _) Nat.zero_lt_one
  ·rcases hcb with ⟨rfl,hb⟩ | ⟨rfl,hb⟩
   rotate_left
   ·exact absurd hl (by simp)
   subst hb;rw[Nat.sub_zero];refine kP (tN (rG (lM I (lM I (lM I (lU (SU.eq (v':=.int .u64 ((a:Nat):Int)) (SU.and I I) (zd6 (Value.int .u64) (by rw[sf _ oM,Nat.mod_eq_of_lt h]))) ?_))))));refine lM I (lU (SU.eq (v':=.int .u64 0) (SU.shr I I dC) (zd6 (Value.int .u64) (kQ _ _ dC dC h))) (lU (iA ba dT I I I dC (by simp[slen])) ?_));refine oZ (sT (e:=gW) (a:=((a:Nat):Int)) (j:=0) 0 dT I I I (bE I) I) (lA I (nL (bN (tN (rG (yD I (lM I (nL ?_))))))));exact gA 1 sB I I (lR _) Nat.zero_lt_one
 ·obtain rfl:i=la.length:=oM;have hlen:(FV la (a - b) la.length).length=la.length:=by
   unfold FV;split
   ·simp
   ·simp; omega
  have hfin:dN (FV la (a - b) la.length)=dn (a - b):=by
   rcases hca with ⟨rfl,ha⟩ | ⟨rfl,ha⟩
   ·subst ha;rw[Nat.zero_sub]; rfl
   ·exact gN _
  refine xI (tX (tX (bX (tN (sQ (fS fun g1 hle1 hs1=>?_))))));refine rG (lM I (lW (cL call161 I (kU E g1 _ _ (FV la (a - b) la.length) (by unfold SlA; rw[hlen]; rw[hlen] at hs1; exact hs1) oM)) ?_));rintro v42 _ _ ⟨rfl,rfl,hm⟩;refine aT I (rE ?_);rw[hfin] at hm;exact za6 (.inl I) results122 I ⟨I,hle1,hm⟩
theorem uW {k:Nat}(h:k<4294967296):ie (dn k)=jM k:=by
 have h1:=oh (k:Int) (by rw[Int.natAbs_natCast]; omega);rw[Int.natAbs_natCast] at h1;rw[← h1];have h2:tH (k:Int)=[(k:Int),0]:=by
  unfold tH;rw[Int.natAbs_natCast,Nat.mod_eq_of_lt h,Nat.div_eq_of_lt h];rfl
 have h3:dN (dn k)=dn k:=by
  rcases cm k with ⟨e,h0⟩ | ⟨e,h0⟩
  ·rw[e]; rfl
  ·rw[← gN k,gN k,e,gN k,e]
 unfold ie;rw[h3,h2,pR]
theorem sZ {k:Nat}(h:k<18446744073709551616):jM k=[]↔k=0:=by
 refine⟨fun e=>?_,fun e=>by subst e; rfl⟩;have:=m9 h;rw[e] at this;exact this.symm
theorem wz {neg:Bool}{k:Nat}{z:Int}(hk:k=z.natAbs)(h:k<4294967296)(hn:k≠0→neg=decide (z<0)):uX neg (ie (dn k))=pm z:=by
 rw[uW h];subst hk;show Value.agg #[vb (neg&&decide (jM z.natAbs≠[])),txt (jM z.natAbs)]=Value.agg #[vb (decide (z<0)&&decide (jM z.natAbs≠[])),txt (jM z.natAbs)];by_cases h0:z.natAbs=0
 ·have:jM z.natAbs=[]:=(sZ oM).2 h0;rw[this];simp
 ·rw[hn h0]
theorem ly {z:Int}(h:z.natAbs<4294967296):pm z = .agg #[vb (decide (z<0)),txt (jM z.natAbs)]:=by
 show Value.agg #[vb (decide (z<0)&&decide (jM z.natAbs≠[])),txt (jM z.natAbs)]=_;by_cases h0:z.natAbs=0
 ·have:¬ z<0:=oM;simp[this]
 ·have:jM z.natAbs≠[]:=fun e=>h0 ((sZ oM).1 e);simp[this]
theorem SU.neqB {P:Program}{N:Nat}{f:Fr}{dst:Option Tmp}{ty:TypeId}{pos:String}{af:Array Edge}{gd:Option (Nat×Bool)}{x y:Operand}{T U:TypeId}{a b:Bool}(hT:P.underlying T=some .bool)(hx:ev f x=some (vb a))(hy:ev f y=some (vb b)) :
  SU P N ⟨dst,.binOp .neq T x y U,ty,pos,af,gd⟩ f (.bool (!(a == b))):=fun ac w ha=>by
 have hg:(eqGuard .neq T x y (.bool a) (.bool b)).run P w = .ok () w:=by simp[eqGuard]
 have hb:=run_neq_bool (P:=P) w T a b hT;simp only[execOp,ha.ev hx,ha.ev hy,Sem.run_bind,hg,zc7,hb];rfl
theorem ry (k:Nat):(dn k).length<1099511627776:=by rcases cm k with ⟨e,-⟩ | ⟨e,-⟩ <;> rw[e] <;> simp
theorem DF (b c:Nat):Cg b c<0↔b<c:=by
 unfold Cg;split
 ·simp; omega
 ·split <;> simp <;> omega
section
variable {A B:List Int}{R K C:Nat}{L:List Int}{i k j:Nat}
end
def en (l:List ai)(x:Int):Int:=(l.map fun s=>if s.cell=x then s.sign else 0).sum
theorem uI (a:ai)(l:List ai)(x:Int):en (a::l) x=(if a.cell=x then a.sign else 0)+en l x:=by simp[en]
theorem FK {l:List ai}{x:Int}(h:∀ s∈l,s.cell≠x):en l x=0:=by
 induction l with
 | nil=>rfl
 | cons a l ih =>
  rw[uI,zf4 (h a (by simp)),ih fun s hs=>h s (by simp[hs])];rfl
theorem GV {l:List ai}(h1:l.Pairwise fun a b=>a.cell<b.cell)(h2:∀ s∈l,s.sign=1∨s.sign = -1)(x:Int):(en l x).natAbs≤1:=by
 induction l with
 | nil=>simp[en]
 | cons a l ih =>
  obtain ⟨h3,h4⟩:=zj5.1 h1;rw[uI];by_cases e:a.cell=x
  ·rw[zf5 e,FK fun s hs=>by have:=h3 s hs; omega]
   rcases h2 a (by simp) with e2 | e2 <;> rw[e2] <;> decide
  ·rw[zf4 e,Int.zero_add];exact ih h4 fun s hs=>h2 s (by simp[hs])
theorem oS {α:Type}(l:List α)(f:α→α)(i j:Nat)(d:α)(hj:j<l.length):(l.modify i f).getD j d=if i=j then f (l.getD j d) else l.getD j d:=by
 rw[zg5,zg5,List.getElem?_modify,gE hj];by_cases e:i=j <;> simp[e]
def ent (M:List (List Int))(i k:Nat):Int:=(M.getD i []).getD k 0
theorem BR {M:List (List Int)}{R C:Nat}(h:gL M R C){i k i' k':Nat}(hi:i<R)(hk:k<C)(z:Int):ent (addAt M i' k' z) i k=if i=i'∧k=k' then IntKind.i64.wrap (ent M i k+z) else ent M i k:=by
 have hl:i<M.length:=by rw[h.1]; exact hi
 have hr:=(h.2 _ (gM hl)).1;have hm:(M.getD i [])=M[i]:=by rw[zg5,gE hl]; rfl
 unfold ent addAt;rw[oS _ _ _ _ _ hl,hm];by_cases e:i'=i
 ·rw[zf5 e,oS _ _ _ _ _ (by rw[hr]; exact hk)];by_cases e2:k'=k
  ·rw[zf5 e2,zf5 ⟨e.symm,e2.symm⟩]
  ·rw[zf4 e2,zf4 (fun h=>e2 h.2.symm)]
 ·rw[zf4 e,zf4 (fun h=>e h.1.symm)]
theorem xW {n:Int}(h:n.natAbs<4611686018427387904):IntKind.i64.wrap n=n:=zk4 _ oM
theorem DB {M:List (List Int)}{R C:Nat}{rows:List Int}(h:gL M R C)(hR:rows.length=R)(hs:rows.Pairwise (· < ·)){i k k':Nat}(hi:i<R)(hk:k<C)(x:ai)(hb:k=k'→(ent M i k+x.sign).natAbs<4611686018427387904) :
  ent (cQ rows k' M x) i k=ent M i k+if k=k' then (if x.cell=rows.getD i 0 then x.sign else 0) else 0:=by
 have hl:i<rows.length:=oM;have hg:rows.getD i 0=rows[i]:=by rw[zg5,gE hl]; rfl
 rw[hg];unfold cQ;by_cases hc:rows.contains x.cell=true
 ·rw[zf5 hc,BR h hi hk];have hm:=List.contains_iff_mem.1 hc;obtain ⟨j,hj,e⟩:=zc4 hm;have hlb:lbI rows x.cell=j:=by rw[← e]; exact jp hj hs
  rw[hlb];by_cases e2:k=k'
  ·subst e2;by_cases e3:i=j
   ·subst e3;rw[zf5 ⟨rfl,rfl⟩,zf5 rfl,zf5 e.symm,xW (hb rfl)]
   ·have:x.cell≠rows[i]:=fun e4=>by
     rw[← e] at e4;have h1:=jp hj hs;have h2:=jp hl hs;rw[e4] at h1;omega
    rw[zf4 (fun h=>e3 h.1),zf5 rfl,zf4 this,Int.add_zero]
  ·rw[zf4 (fun h=>e2 h.2),zf4 e2,Int.add_zero]
 ·rw[zf4 hc];have:x.cell≠rows[i]:=fun e=>hc (by rw[List.contains_iff_mem,e]; exact gM hl);rw[zf4 this];simp
theorem xD {R C:Nat}{rows:List Int}(hR:rows.length=R)(hs:rows.Pairwise (· < ·)){i k k':Nat}(hi:i<R)(hk:k<C):∀ (l:List ai) {M:List (List Int)},gL M R C→(∀ s∈l,s.sign=1∨s.sign = -1)→(k=k'→(ent M i k).natAbs+l.length<4611686018427387904) →
  ent (l.foldl (cQ rows k') M) i k=ent M i k+if k=k' then en l (rows.getD i 0) else 0
 | [],M,_,_,_=>by simp[en]
 | x::l,M,h,hsg,hb=>by
  have h1:=hsg x (by simp);have hx:x.sign.natAbs=1:=by rcases h1 with e | e <;> rw[e] <;> rfl
  have hst:=DB h hR hs hi hk x (k':=k') (fun e=>by
   have:=hb e;rw[ze3] at this;have h2:=Int.natAbs_add_le (ent M i k) x.sign;omega)
  rw[zi3,xD hR hs hi hk l (h.step rows k' x) (fun s hs=>hsg s (by simp[hs])) (fun e=>by
   have:=hb e;rw[ze3] at this;rw[hst,zf5 e];have h2:=Int.natAbs_add_le (ent M i k) (if x.cell=rows.getD i 0 then x.sign else 0);have h3:(if x.cell=rows.getD i 0 then x.sign else 0).natAbs≤1:=by split <;> omega
   omega),hst]
  by_cases e:k=k'
  ·rw[zf5 e,zf5 e,zf5 e,uI,Int.add_assoc]
  ·rw[zf4 e,zf4 e,zf4 e];omega
theorem nY {tab:List Cl}{rows cols:List Int}(hs:rows.Pairwise (· < ·))(hc:∀ k<cols.length,(∀ s∈(ek tab (cols.getD k 0)).sides,s.sign=1∨s.sign = -1)∧(ek tab (cols.getD k 0)).sides.length<1099511627776){i k:Nat}(hi:i<rows.length)(hk:k<cols.length):∀ n≤cols.length,
  ent (jk tab rows cols n) i k=if k<n then en (ek tab (cols.getD k 0)).sides (rows.getD i 0) else 0
 | 0,_=>by
  have h0:(List.replicate rows.length (List.replicate cols.length (0:Int))).getD i []=List.replicate cols.length 0:=by
   rw[zg5,List.getElem?_replicate,zf5 hi]; rfl
  unfold ent jk;rw[h0,zg5,List.getElem?_replicate,zf5 hk,zf4 oM];rfl
 | n+1,hn=>by
  have ih:=nY hs hc hi hk n oM;obtain ⟨h1,h2⟩:=hc n oM;rw[jk,xD rfl hs hi hk _ (dV tab rows cols n) h1 (fun e=>by
   rw[ih,zf4 oM];have:(0:Int).natAbs=0:=rfl;omega),ih]
  by_cases e:k=n
  ·subst e;rw[zf4 oM,zf5 rfl,zf5 oM,Int.zero_add]
  ·rw[zf4 e,Int.add_zero];by_cases e2:k<n
   ·rw[zf5 e2,zf5 oM]
   ·rw[zf4 e2,zf4 oM]
theorem xA {C:Nat}:∀ {M:List (List Int)} {i k:Nat},(∀ r∈M,r.length=C)→i<M.length→k<C→M.flatten.getD (i * C+k) 0=ent M i k
 | [],_,_,_,h,_=>by simp at h
 | r::M,0,k,hl,_,hk=>by
  have h1:r.length=C:=hl r (by simp);unfold ent;rw[List.flatten_cons,Nat.zero_mul,Nat.zero_add,zg5,zg6 oM];simp
 | r::M,i+1,k,hl,hi,hk=>by
  have h1:r.length=C:=hl r (by simp);have ih:=xA (M:=M) (i:=i) (k:=k) (fun x hx=>hl x (by simp[hx])) (by simpa using hi) hk;have h2:(i+1) * C+k - r.length=i * C+k:=by rw[h1,Nat.add_mul]; omega
  unfold ent at ih ⊢;rw[List.flatten_cons,zg5,zg7 (by rw[h1,Nat.add_mul]; omega),h2,← zg5,ih];simp
theorem Dw {C:Nat}{M:List (List Int)}(hl:∀ r∈M,r.length=C){n:Int}(h:n∈M.flatten):∃ i k,i<M.length∧k<C∧n=ent M i k:=by
 obtain ⟨r,hr,hn⟩:=List.mem_flatten.1 h;obtain ⟨i,hi,rfl⟩:=zc4 hr;obtain ⟨k,hk,rfl⟩:=zc4 hn;refine⟨i,k,hi,by rw[← hl _ hr]; exact hk,?_⟩;unfold ent;rw[zg5,zg5,gE hi,Option.getD_some,gE hk];rfl
theorem qz {M:List Cl}(h:Rt M){d x:Int}(hx:x∈cj M d):ek (ae M) x∈M∧(ek (ae M) x).dim=d∧(ek (ae M) x).id=x:=by
 unfold cj at hx;rw[h.tab] at hx;obtain ⟨c,hc,rfl⟩:=ze6.1 hx;obtain ⟨hc,hd⟩:=zg8.1 hc;unfold ek;rw[h.tab,h.find hc];exact⟨hc,by simpa using hd,I⟩
theorem xr {l:List Int}{k:Nat}(h:k<l.length):l.getD k 0∈l:=by
 rw[zg5,gE h];exact gM h
theorem yh {M:List Cl}(h:Rt M){c:Cl}(hc:c∈M):c.sides.length<1099511627776:=by
 have h1:=(h.form c hc).cnt;have h2:(c.sides.map ai.cell).length≤(M.map Cl.id).length:=by
  have hnd:(c.sides.map ai.cell).Nodup:=by
   rw[List.Nodup,zj6];exact (h.form c hc).asc.imp fun h=>by omega
  refine hnd.length_le_of_subset fun x hx=>?_;obtain ⟨s,hs,rfl⟩:=ze6.1 hx;obtain ⟨d,hd,-⟩:=(h.form c hc).found s hs;unfold aM at hd;have h3:=List.find?_some hd;have h4:=zj8 hd;simp only[zi8] at h3;exact ze6.2 ⟨d,h4,h3⟩
 simp only[ze1] at h2;have:=h.few;omega
theorem Es {M:List Cl}(h:Rt M)(d:Int):∀ k<(cj M d).length,(∀ s∈(ek (ae M) ((cj M d).getD k 0)).sides,s.sign=1∨s.sign = -1)∧(ek (ae M) ((cj M d).getD k 0)).sides.length<1099511627776:=fun k hk=>by
 obtain ⟨h1,-,-⟩:=qz h (xr hk);exact⟨(h.form _ h1).sg,yh h h1⟩
def xS (M:List Cl)(d:Int):List Int:=(jk (ae M) (cj M (d - 1)) (cj M d) (cj M d).length).flatten
theorem Di {M:List Cl}(h:Rt M){d:Int}{i k:Nat}(hi:i<(cj M (d - 1)).length)(hk:k<(cj M d).length):(xS M d).getD (i * (cj M d).length+k) 0=en (ek (ae M) ((cj M d).getD k 0)).sides ((cj M (d - 1)).getD i 0):=by
 have hs:=dV (ae M) (cj M (d - 1)) (cj M d) (cj M d).length;unfold xS;rw[xA (fun r hr=>(hs.2 r hr).1) (by rw[hs.1]; exact hi) hk,nY (uG M (d - 1)) (Es h d) hi hk _ (lR _),zf5 hk]
theorem Fy {M:List Cl}(h:Rt M)(d:Int):∀ n∈xS M d,n.natAbs≤1:=fun n hn=>by
 have hs:=dV (ae M) (cj M (d - 1)) (cj M d) (cj M d).length;obtain ⟨i,k,hi,hk,rfl⟩:=Dw (fun r hr=>(hs.2 r hr).1) hn;rw[hs.1] at hi;rw[nY (uG M (d - 1)) (Es h d) hi hk _ (lR _),zf5 hk];obtain ⟨h1,-,-⟩:=qz h (xr hk);exact GV (h.form _ h1).asc (h.form _ h1).sg _
theorem xf (M:List Cl)(d:Int):(xS M d).length=(cj M (d - 1)).length * (cj M d).length:=by
 have hs:=dV (ae M) (cj M (d - 1)) (cj M d) (cj M d).length;unfold xS;rw[kY fun r hr=>(hs.2 r hr).1,hs.1]
theorem Bs {M:List Cl}(hf:M.length≤200)(ht:ae M=M)(d:Int):uQ (ae M) (cj M (d - 1)) (cj M d)=((cj M (d - 1)).length,(cj M d).length,xS M d):=by
 have h1:=uT M (d - 1);have h2:=uT M d;rw[ht] at h1 h2;have h3:=xf M d;unfold uQ;rw[zf4 (by simp; omega)];split
 ·rename_i h0;rw[h0,Nat.zero_mul] at h3;rw[ze8 h3,h0]
 ·rfl
end Go.Proofs.YtkbagdedfdfjhaaGreatDoor
namespace Go.Sy
open Go Go.MapKept
section
variable {P:Program}{w:World}{t kt et ty:TypeId}{z:Value}{b:Nat}{es:Array MapEntry}{clk:Nat}{l:List (Int×Value)}
end
section
variable {P:Program}{N:Nat}{E:World}{ops:Array Oper}{Q:Exit→Act→World→Prop}{f:Fr}{g:PH}{s:Own}{dst:Option Tmp}{ty:TypeId}{pos:String}{af:Array Edge}{gd:Option (Nat×Bool)}
variable {t kt et:TypeId}{z:Value}{b:Nat}{l:List (Int×Value)}{x y:Operand}{k:Int}
end
end Go.Sy
namespace Go.Sy
open Go
section
variable {P:Program}{N:Nat}{E:World}{f:Fr}{g:PH}{s:Own}{dst:Option Tmp}{ty:TypeId}{pos:String}{af:Array Edge}{gd:Option (Nat×Bool)}
theorem SQ.sof {o:Oper}{v:Value}(h:SQ P N E o f g s v):SO P N E o f g s fun v' g' s'=>v'=v∧g=g'∧s=s':=SO.mono h.so fun _ _ _ ⟨h1,h2,h3⟩=>⟨h1,h2.symm,h3.symm⟩
theorem SQ.loadOne {x:Operand}{T:TypeId}{b o:Nat}{v:Value}(hT:∀ w,(isAgg T).run P w = .ok true w)(hk:∀ w,(sizeOf T).run P w = .ok 1 w)(hx:ev f x=some (pp b o))(hc:eC g s ⟨b,o,none⟩ v) :
  SQ P N E ⟨dst,.load T x,ty,pos,af,gd⟩ f g s (.agg #[v]) :=
 SQ.loadAggAt (vs:=[v]) hT hk hx rfl fun j u hu=>by
  cases j with
  | zero=>simp at hu; subst hu; exact hc
  | succ j=>simp at hu
end
section
variable {α:Type}{k:Nat}{P:Program}{N:Nat}{E:World}{f:Fr}{g:PH}{s:Own}{dst:Option Tmp}{ty:TypeId}{pos:String}{af:Array Edge}{gd:Option (Nat×Bool)}
end
section
variable {P:Program}{N:Nat}{E:World}{f:Fr}{g:PH}{s:Own}{fn:Func}{R:Value→PH→Own→Prop}{e:Exit}
theorem ST.retCCT {T U T' U':TypeId}{t t' u b b' k k':Nat}{cs cs':Array Value}{fr fr':Nat×Nat}{x:Value}(i i':Nat)(s':Own)(he:e = .ret∨e = .normal)(hr:fn.results = #[.cell t T,.cell t' T',.tmp u])(hv:a8 f t=some (pp b 0))(hv':a8 f t'=some (pp b' 0))(hu:a8 f u=some x)
  (hT:∀ w,(isAgg T).run P w = .ok true w) (hk:∀ w,(sizeOf T).run P w = .ok k w) (hT':∀ w,(isAgg T').run P w = .ok true w) (hk':∀ w,(sizeOf T').run P w = .ok k' w)
  (hs:s[i]?=some (pt b (.cells cs U fr))) (hc:cs.size=k) (hsb:s[i']?=some (pt b' (.cells cs' U' fr'))) (hc':cs'.size=k') (hs':s'.Sublist s) (hR:R (.tuple #[.agg cs,.agg cs',x]) g s'):ST N E (bodyPost P fn (pD E R)) e f g s :=
 fun a w ha hw=>by
  have h1:=ew (P:=P) hw hT (by rw[hc]; exact hk) hs;have h1':=ew (P:=P) hw hT' (by rw[hc']; exact hk') hsb;have h2:=ha.at_ t _ hv;have h2':=ha.at_ t' _ hv';have h5:=ha.at_ u _ hu;simp only[Array.getD_eq_getD_getElem?] at h2 h2' h5;have h3:(results fn a.tmps).run P w = .ok (.tuple #[.agg cs,.agg cs',x]) w:=by simp[results,hr,asAddr,pp,h2,h2',h1,h1',h5]
  have h4:pD E R (.returned (.tuple #[.agg cs,.agg cs',x])) w:=⟨_,g,s',rfl,hw.sublist hs',hR⟩
  rcases he with rfl | rfl
  ·exact⟨ha.defers,_,h3,h4⟩
  ·exact⟨ha.defers,_,h3,h4⟩
end
end Go.Sy
namespace Go.Sy
open Go Go.MapKept
instance quiet_scope {Q:Exit→Act→World→Prop}[h:Quiet Q]:Quiet (Exit.noGoto Q):=⟨fun c a a' w hd hq=>h.out c a a' w hd hq⟩
section
variable {P:Program}{N:Nat}{E:World}{Q:Exit→Act→World→Prop}{f:Fr}{g:PH}{s:Own}
theorem SC.scope {c:Code}(h:SC P N E c (Exit.noGoto Q) f g s):SC P N E (.scope c) Q f g s:=fun a w ha hw=>wp_scope_straight (h a w ha hw)
theorem ST.scopeR (h:ST N E Q .ret f g s):ST N E (Exit.noGoto Q) .ret f g s:=h
end
end Go.Sy
namespace Go.Pl
def aw (l:List Nat)(f:Nat→Int):Int:=(l.map f).sum
theorem fj (f:Nat→Int):aw [] f=0:=rfl
theorem cd (a:Nat)(l:List Nat)(f:Nat→Int):aw (a::l) f=f a+aw l f:=by simp[aw]
theorem fk (l m:List Nat)(f:Nat→Int):aw (l++m) f=aw l f+aw m f:=by simp[aw]
theorem mL (l:List Nat)(f g:Nat→Int):aw l (fun j=>f j+g j)=aw l f+aw l g:=by
 induction l with
 | nil=>rfl
 | cons a l ih=>simp only[cd,ih]; omega
theorem cz (l:List Nat)(c:Int)(f:Nat→Int):aw l (fun j=>c * f j)=c * aw l f:=by
 induction l with
 | nil=>simp[aw]
 | cons a l ih=>simp only[cd,ih,Int.mul_add]
theorem eP (l:List Nat)(c:Int)(f:Nat→Int):aw l (fun j=>f j * c)=aw l f * c:=by
 induction l with
 | nil=>simp[aw]
 | cons a l ih=>simp only[cd,ih,Int.add_mul]
theorem fM (l:List Nat):aw l (fun _=>0)=0:=by
 induction l with
 | nil=>rfl
 | cons a l ih=>simp only[cd,ih]; rfl
theorem ag {l:List Nat}{f g:Nat→Int}(h:∀ j∈l,f j=g j):aw l f=aw l g:=by
 unfold aw;rw[List.map_congr_left h]
theorem eO (l m:List Nat)(f:Nat→Nat→Int):aw l (fun i=>aw m fun j=>f i j)=aw m fun j=>aw l fun i=>f i j:=by
 induction l with
 | nil=>simp only[fj,fM]
 | cons a l ih=>simp only[cd,ih,mL]
def Eqm (p a b:Int):Prop:=p ∣ a - b
section
variable {p:Int}
theorem Eqm.refl (a:Int):Eqm p a a:=by unfold Eqm; rw[Int.sub_self]; exact Int.dvd_zero p
theorem Eqm.symm {a b:Int}(h:Eqm p a b):Eqm p b a:=by
 unfold Eqm at *;have:=Int.dvd_neg.2 h;rwa [Int.neg_sub] at this
theorem Eqm.trans {a b c:Int}(h:Eqm p a b)(k:Eqm p b c):Eqm p a c:=by
 unfold Eqm at *;have:=Int.dvd_add h k;rwa [show a - b+(b - c)=a - c by omega] at this
theorem Eqm.add {a b c d:Int}(h:Eqm p a b)(k:Eqm p c d):Eqm p (a+c) (b+d):=by
 unfold Eqm at *;have:=Int.dvd_add h k;rwa [show a - b+(c - d)=a+c - (b+d) by omega] at this
theorem Eqm.mul {a b c d:Int}(h:Eqm p a b)(k:Eqm p c d):Eqm p (a * c) (b * d):=by
 unfold Eqm at *;have h1:p ∣ (a - b) * c:=Int.dvd_mul_of_dvd_left h;have h2:p ∣ b * (c - d):=Int.dvd_mul_of_dvd_right k;have:=Int.dvd_add h1 h2;rwa [Int.sub_mul,Int.mul_sub,show a * c - b * c+(b * c - b * d)=a * c - b * d by omega] at this
theorem Eqm.of {a b:Int}(h:a=b):Eqm p a b:=by rw[h]; exact .refl b
theorem Eqm.sum {l:List Nat}{f g:Nat→Int}(h:∀ j∈l,Eqm p (f j) (g j)):Eqm p (aw l f) (aw l g):=by
 induction l with
 | nil=>exact .refl _
 | cons a l ih =>
  rw[cd,cd];exact (h a (by simp)).add (ih fun j hj=>h j (by simp[hj]))
theorem Eqm.sum0 {l:List Nat}{f:Nat→Int}(h:∀ j∈l,Eqm p (f j) 0):Eqm p (aw l f) 0:=by
 have:=Eqm.sum (g:=fun _=>0) h;rwa [fM] at this
def Fld (p:Int):Prop:=¬ Eqm p 1 0∧∀ a,¬ Eqm p a 0→∃ b,Eqm p (a * b) 1
theorem re (hp:Fld p):∀ (s:Nat) (cs:List Nat) (Y:Nat→Nat→Int),cs.Nodup→s<cs.length→∃ v:Nat→Int,(∃ j∈cs,¬ Eqm p (v j) 0)∧∀ i,i<s→Eqm p (aw cs fun j=>Y i j * v j) 0
 | 0,cs,Y,_,hs=>by
  cases cs with
  | nil=>simp at hs
  | cons a l=>exact⟨fun _=>1,⟨a,by simp,hp.1⟩,fun i hi=>by omega⟩
 | s+1,cs,Y,hn,hs=>by
  by_cases hall:∀ j∈cs,Eqm p (Y s j) 0
  ·obtain ⟨v,h1,h2⟩:=re hp s cs Y hn (by omega);refine⟨v,h1,fun i hi=>?_⟩;by_cases e:i=s
   ·subst e;refine Eqm.sum0 fun j hj=>?_;have:=(hall j hj).mul (Eqm.refl (v j));rwa [Int.zero_mul] at this
   ·exact h2 i (by omega)
  ·have ⟨j0,hj0,hy⟩:∃ j0∈cs,¬ Eqm p (Y s j0) 0:=by
    apply Classical.byContradiction;intro h;exact hall fun j hj=>Classical.byContradiction fun k=>h ⟨j,hj,k⟩
   obtain ⟨b,hb⟩:=hp.2 _ hy;obtain ⟨l1,l2,rfl⟩:=List.append_of_mem hj0;have hn2:(l1++l2).Nodup:=by
    have:=(List.nodup_append.1 hn);refine List.nodup_append.2 ⟨this.1,(List.nodup_cons.1 this.2.1).2,fun x hx y hy=>this.2.2 x hx y (by simp[hy])⟩
   have hnot:∀ j∈l1++l2,j≠j0:=fun j hj e=>by
    subst e;have h3:=List.nodup_append.1 hn
    rcases List.mem_append.1 hj with h | h
    ·exact h3.2.2 j h j (by simp) rfl
    ·exact (List.nodup_cons.1 h3.2.1).1 h
   obtain ⟨v,⟨j1,hj1,hv1⟩,h2⟩:=re hp s (l1++l2) (fun i j=>Y i j - Y i j0 * b * Y s j) hn2 (by simp at hs ⊢; omega)
   let t:Int:=-(b * aw (l1++l2) fun j=>Y s j * v j)
   let w:Nat→Int:=fun j=>if j=j0 then t else v j
   have hw:∀ j∈l1++l2,w j=v j:=fun j hj=>if_neg (hnot j hj);have hsum:∀ i,aw (l1++j0::l2) (fun j=>Y i j * w j)=(aw (l1++l2) fun j=>Y i j * v j)+Y i j0 * t:=fun i=>by
    rw[fk,cd,fk];have e1:aw l1 (fun j=>Y i j * w j)=aw l1 fun j=>Y i j * v j:=ag fun j hj=>by rw[hw j (by simp[hj])]
    have e2:aw l2 (fun j=>Y i j * w j)=aw l2 fun j=>Y i j * v j:=ag fun j hj=>by rw[hw j (by simp[hj])]
    have e3:w j0=t:=if_pos rfl;rw[e1,e2,e3];omega
   refine⟨w,⟨j1,by rcases List.mem_append.1 hj1 with h | h <;> simp[h],by rw[hw j1 hj1]; exact hv1⟩,fun i hi=>?_⟩;rw[hsum i];by_cases e:i=s
   ·subst e;have h3:Eqm p (Y i j0 * t) (-(aw (l1++l2) fun j=>Y i j * v j)):=by
     have:=(hb.mul (Eqm.refl (-(aw (l1++l2) fun j=>Y i j * v j))));rw[Int.one_mul] at this;refine Eqm.trans (Eqm.of ?_) this;show Y i j0 * -(b * _)=_;rw[Int.mul_neg,Int.mul_neg,Int.mul_assoc]
    have:=(Eqm.refl (aw (l1++l2) fun j=>Y i j * v j)).add h3;rwa [Int.add_right_neg] at this
   ·have h4:=h2 i (by omega);refine Eqm.trans (Eqm.of ?_) h4;have h5:(aw (l1++l2) fun j=>(Y i j - Y i j0 * b * Y s j) * v j)=(aw (l1++l2) fun j=>Y i j * v j)+aw (l1++l2) fun j=>-(Y i j0 * b) * (Y s j * v j):=by
     rw[← mL];refine ag fun j _=>?_;rw[Int.sub_mul,Int.neg_mul,Int.mul_assoc (Y i j0 * b)];omega
    rw[h5,cz];show _+Y i j0 * -(b * _)=_;rw[Int.mul_neg,Int.neg_mul,Int.mul_assoc]
theorem Ef (hp:Fld p){r s:Nat}{X Y:Nat→Nat→Int}(h:∀ i,i<r→∀ j,j<r→Eqm p (aw (List.range s) fun k=>X i k * Y k j) (if i=j then 1 else 0)):r≤s:=by
 apply Classical.byContradiction;intro hlt;obtain ⟨v,⟨j,hj,hv⟩,h2⟩:=re hp s (List.range r) Y List.nodup_range (by simp; omega);rw[List.mem_range] at hj;apply hv;have h3:Eqm p (aw (List.range r) fun k=>(aw (List.range s) fun i=>X j i * Y i k) * v k) (aw (List.range r) fun k=>(if j=k then 1 else 0) * v k) :=
  Eqm.sum fun k hk=>(h j hj k (List.mem_range.1 hk)).mul (Eqm.refl _)
 have h4:(aw (List.range r) fun k=>(aw (List.range s) fun i=>X j i * Y i k) * v k)=aw (List.range s) fun i=>X j i * aw (List.range r) fun k=>Y i k * v k:=by
  have e:∀ k,(aw (List.range s) fun i=>X j i * Y i k) * v k=aw (List.range s) fun i=>X j i * (Y i k * v k):=fun k=>by
   rw[← eP];exact ag fun i _=>Int.mul_assoc _ _ _
  simp only[e];rw[eO];exact ag fun i _=>cz _ _ _
 have h5:Eqm p (aw (List.range s) fun i=>X j i * aw (List.range r) fun k=>Y i k * v k) 0:=Eqm.sum0 fun i hi=>by
  have:=(Eqm.refl (X j i)).mul (h2 i (List.mem_range.1 hi));rwa [Int.mul_zero] at this
 have h6:∀ n,j<n→(aw (List.range n) fun k=>(if j=k then 1 else 0) * v k)=v j:=fun n hn=>by
  induction n with
  | zero=>omega
  | succ n ih =>
   rw[List.range_succ,fk,cd,fj];by_cases e:j=n
   ·subst e;rw[if_pos rfl,Int.one_mul,ag (g:=fun _=>0) (fun k hk=>by rw[if_neg (by have:=List.mem_range.1 hk; omega),Int.zero_mul]),fM];omega
   ·rw[ih (by omega),if_neg e];omega
 rw[h4,h6 r hj] at h3;exact h3.symm.trans h5
structure dg (p:Int)(A:Nat→Nat→Int)(m n r:Nat):Prop where
 thru:∃ X Y:Nat→Nat→Int,∀ i,i<m→∀ j,j<n→Eqm p (A i j) (aw (List.range r) fun k=>X i k * Y k j)
 one:∃ L R:Nat→Nat→Int,∀ i,i<r→∀ j,j<r→Eqm p (aw (List.range m) fun a=>L i a * aw (List.range n) fun b=>A a b * R b j) (if i=j then 1 else 0)
theorem dg.le (hp:Fld p){A A' U V:Nat→Nat→Int}{m n m' n' r r':Nat}(h:dg p A m n r)(h':dg p A' m' n' r')
  (hu:∀ i,i<m'→∀ j,j<n'→Eqm p (A' i j) (aw (List.range m) fun a=>U i a * aw (List.range n) fun b=>A a b * V b j)):r'≤r:=by
 obtain ⟨X,Y,hXY⟩:=h.thru;obtain ⟨L,R,hLR⟩:=h'.one;refine Ef hp (X:=fun i k=>aw (List.range m') fun a=>L i a * aw (List.range m) fun c=>U a c * X c k) (Y:=fun k j=>aw (List.range n') fun b=>(aw (List.range n) fun d=>Y k d * V d b) * R b j) fun i hi j hj=>?_;refine Eqm.trans ?_ (hLR i hi j hj);have key:∀ a,a<m'→∀ b,b<n'→Eqm p (aw (List.range r) fun k=>(aw (List.range m) fun c=>U a c * X c k) * aw (List.range n) fun d=>Y k d * V d b) (A' a b):=fun a ha b hb=>by
  refine Eqm.trans ?_ (hu a ha b hb).symm;have e1:(aw (List.range r) fun k=>(aw (List.range m) fun c=>U a c * X c k) * aw (List.range n) fun d=>Y k d * V d b)=aw (List.range m) fun c=>U a c * aw (List.range n) fun d=>(aw (List.range r) fun k=>X c k * Y k d) * V d b:=by
   have f1:∀ k,((aw (List.range m) fun c=>U a c * X c k) * aw (List.range n) fun d=>Y k d * V d b)=aw (List.range m) fun c=>aw (List.range n) fun d=>U a c * (X c k * Y k d * V d b):=fun k=>by
    rw[← eP];refine ag fun c _=>?_;rw[← cz];refine ag fun d _=>?_;simp only[Int.mul_assoc]
   simp only[f1];rw[eO];refine ag fun c _=>?_;rw[eO,← cz];refine ag fun d _=>?_;rw[cz,eP]
  rw[e1];exact Eqm.sum fun c hc=>(Eqm.refl _).mul (Eqm.sum fun d hd=>(hXY c (List.mem_range.1 hc) d (List.mem_range.1 hd)).symm.mul (Eqm.refl _))
 have e2:(aw (List.range r) fun k=>(aw (List.range m') fun a=>L i a * aw (List.range m) fun c=>U a c * X c k) * aw (List.range n') fun b=>(aw (List.range n) fun d=>Y k d * V d b) * R b j)=aw (List.range m') fun a=>L i a * aw (List.range n') fun b=>(aw (List.range r) fun k=>(aw (List.range m) fun c=>U a c * X c k) * aw (List.range n) fun d=>Y k d * V d b) * R b j:=by
  have f1:∀ k,((aw (List.range m') fun a=>L i a * aw (List.range m) fun c=>U a c * X c k) * aw (List.range n') fun b=>(aw (List.range n) fun d=>Y k d * V d b) * R b j)=aw (List.range m') fun a=>aw (List.range n') fun b=>L i a * (((aw (List.range m) fun c=>U a c * X c k) * aw (List.range n) fun d=>Y k d * V d b) * R b j):=fun k=>by
   rw[← eP];refine ag fun a _=>?_;rw[← cz];refine ag fun b _=>?_;simp only[Int.mul_assoc]
  simp only[f1];rw[eO];refine ag fun a _=>?_;rw[eO,← cz];refine ag fun b _=>?_;rw[cz,eP]
 rw[e2];exact Eqm.sum fun a ha=>(Eqm.refl _).mul (Eqm.sum fun b hb=>(key a (List.mem_range.1 ha) b (List.mem_range.1 hb)).mul (Eqm.refl _))
theorem dg.turn {A:Nat→Nat→Int}{m n r:Nat}(h:dg p A m n r):dg p (fun i j=>A j i) n m r:=by
 obtain ⟨X,Y,hXY⟩:=h.thru;obtain ⟨L,R,hLR⟩:=h.one;refine⟨⟨fun i k=>Y k i,fun k j=>X j k,fun i hi j hj=>(hXY j hj i hi).trans (Eqm.of (ag fun k _=>Int.mul_comm _ _))⟩,⟨fun i a=>R a i,fun b j=>L j b,fun i hi j hj=>?_⟩⟩;have h1:=hLR j hj i hi;rw[show (if j=i then (1:Int) else 0)=if i=j then 1 else 0 by by_cases e:i=j <;> simp[e,eq_comm]] at h1;refine Eqm.trans (Eqm.of ?_) h1;have f1:∀ a,R a i * (aw (List.range m) fun b=>A b a * L j b)=aw (List.range m) fun b=>L j b * (A b a * R a i):=fun a=>by
  rw[← cz];refine ag fun b _=>?_;rw[Int.mul_comm,Int.mul_comm (A b a),Int.mul_assoc]
 simp only[f1];rw[eO];exact ag fun b _=>cz _ _ _
end
end Go.Pl
namespace Go.Pl
section
variable {p:Int}
theorem fh (n i:Nat)(h:i<n)(f:Nat→Int):(aw (List.range n) fun k=>(if i=k then 1 else 0) * f k)=f i:=by
 induction n with
 | zero=>omega
 | succ n ih =>
  rw[List.range_succ,fk,cd,fj];by_cases e:i=n
  ·subst e;rw[if_pos rfl,Int.one_mul,ag (g:=fun _=>0) (fun k hk=>by rw[if_neg (by have:=List.mem_range.1 hk; omega),Int.zero_mul]),fM];omega
  ·rw[ih (by omega),if_neg e];omega
def dq (p:Int)(A:Nat→Nat→Int)(m n:Nat)(v:Nat→Int):Prop:=∃ w:Nat→Int,∀ j,j<n→Eqm p (v j) (aw (List.range m) fun a=>w a * A a j)
theorem dq.self {A:Nat→Nat→Int}{m n i:Nat}(h:i<m):dq p A m n (A i):=⟨fun k=>if i=k then 1 else 0,fun j _=>Eqm.of (fh m i h fun k=>A k j).symm⟩
theorem dq.add {A:Nat→Nat→Int}{m n:Nat}{u v:Nat→Int}(c:Int)(h:dq p A m n u)(k:dq p A m n v):dq p A m n fun j=>u j+c * v j:=by
 obtain ⟨x,hx⟩:=h;obtain ⟨y,hy⟩:=k;refine⟨fun a=>x a+c * y a,fun j hj=>((hx j hj).add ((Eqm.refl c).mul (hy j hj))).trans (Eqm.of ?_)⟩;rw[← cz,← mL];exact ag fun a _=>by rw[Int.add_mul,Int.mul_assoc]
theorem dq.mul {A:Nat→Nat→Int}{m n:Nat}{v:Nat→Int}(c:Int)(k:dq p A m n v):dq p A m n fun j=>c * v j:=by
 obtain ⟨y,hy⟩:=k;refine⟨fun a=>c * y a,fun j hj=>((Eqm.refl c).mul (hy j hj)).trans (Eqm.of ?_)⟩;rw[← cz];exact ag fun a _=>by rw[Int.mul_assoc]
theorem dq.congr {A:Nat→Nat→Int}{m n:Nat}{u v:Nat→Int}(k:dq p A m n v)(h:∀ j,j<n→Eqm p (u j) (v j)):dq p A m n u:=by
 obtain ⟨y,hy⟩:=k;exact⟨y,fun j hj=>(h j hj).trans (hy j hj)⟩
theorem dq.sum {A:Nat→Nat→Int}{m n:Nat}{B:Nat→Nat→Int}(w:Nat→Int):∀ {l:List Nat},(∀ a∈l,dq p A m n (B a))→dq p A m n fun j=>aw l fun a=>w a * B a j
 | [],_=>⟨fun _=>0,fun j _=>Eqm.of (by
   show (0:Int)=_;rw[ag (g:=fun _=>0) (fun a _=>Int.zero_mul _),fM])⟩
 | a::l,h=>by
  have h1:=(dq.sum w fun b hb=>h b (by simp[hb]):dq p A m n fun j=>aw l fun a=>w a * B a j);refine (h1.add (w a) (h a (by simp))).congr fun j _=>Eqm.of ?_;rw[cd];omega
theorem dq.trans {A B:Nat→Nat→Int}{m n k:Nat}{v:Nat→Int}(h:dq p B k n v)(hb:∀ a,a<k→dq p A m n (B a)):dq p A m n v:=by
 obtain ⟨w,hw⟩:=h;exact (dq.sum w fun a ha=>hb a (List.mem_range.1 ha)).congr hw
structure lq (p:Int)(A:Nat→Nat→Int)(m n:Nat)(M:Nat→Nat→Int)(J:List Nat)(c:Nat):Prop where
 fwd:∀ i,i<m→dq p A m n (M i)
 bwd:∀ i,i<m→dq p M m n (A i)
 col:∀ j∈J,j<c
 piv:∀ k j,J[k]?=some j→∀ i,i<m→Eqm p (M i j) (if i=k then 1 else 0)
 low:∀ i,J.length≤i→i<m→∀ j,j<c→Eqm p (M i j) 0
 len:J.length≤m
theorem lq.start (A:Nat→Nat→Int)(m n:Nat):lq p A m n A [] 0:=⟨fun _ h=>.self h,fun _ h=>.self h,by simp,by simp,fun _ _ _ j hj=>by omega,Nat.zero_le _⟩
theorem lq.none {A M:Nat→Nat→Int}{m n c:Nat}{J:List Nat}(h:lq p A m n M J c)(h0:∀ i,J.length≤i→i<m→Eqm p (M i c) 0):lq p A m n M J (c+1) :=
 ⟨h.fwd,h.bwd,fun j hj=>by have:=h.col j hj; omega,h.piv,fun i h1 h2 j hj=>by
  by_cases e:j=c
  ·subst e; exact h0 i h1 h2
  ·exact h.low i h1 h2 j (by omega),h.len⟩
theorem lq.pivot {A M M':Nat→Nat→Int}{m n c i0:Nat}{b:Int}{J:List Nat}(h:lq p A m n M J c)(hc:c<n)(h1:J.length≤i0)(h2:i0<m)(hb:Eqm p (b * M i0 c) 1)
  (hM:∀ i,i<m→∀ j,j<n→Eqm p (M' i j) (if i=J.length then b * M i0 j else M (if i=i0 then J.length else i) j - M (if i=i0 then J.length else i) c * (b * M i0 j))):lq p A m n M' (J++[c]) (c+1):=by
 have hr:J.length<m:=by omega
 have hsw:∀ i,i<m→(if i=i0 then J.length else i)<m:=fun i hi=>by split <;> omega
 have rowr:∀ j,j<n→Eqm p (M' J.length j) (b * M i0 j):=fun j hj=>by
  have:=hM J.length hr j hj;rwa [if_pos rfl] at this
 have rown:∀ i,i<m→i≠J.length→∀ j,j<n→Eqm p (M' i j) (M (if i=i0 then J.length else i) j - M (if i=i0 then J.length else i) c * (b * M i0 j)):=fun i hi hne j hj=>by
  have:=hM i hi j hj;rwa [if_neg hne] at this
 have colc:∀ i,i<m→Eqm p (M' i c) (if i=J.length then 1 else 0):=fun i hi=>by
  by_cases e:i=J.length
  ·subst e;rw[if_pos rfl];exact (rowr c hc).trans hb
  ·rw[if_neg e];refine (rown i hi e c hc).trans ?_;have h3:=(Eqm.refl (-(M (if i=i0 then J.length else i) c))).mul hb;have h4:=(Eqm.refl (M (if i=i0 then J.length else i) c)).add h3;rw[Int.mul_one,Int.add_right_neg] at h4;refine (Eqm.of ?_).trans h4;rw[Int.neg_mul];omega
 -- the old rows lie in the new ones
 have old0:dq p M' m n (M i0):=by
  have h3:dq p M' m n fun j=>M i0 c * M' J.length j:=(dq.self hr).mul _;refine h3.congr fun j hj=>?_;have h4:=(Eqm.refl (M i0 c)).mul (rowr j hj);have h5:=hb.mul (Eqm.refl (M i0 j));rw[Int.one_mul] at h5;refine (h5.symm.trans (Eqm.of ?_)).trans h4.symm;rw[← Int.mul_assoc,Int.mul_comm b]
 have old:∀ i,i<m→dq p M' m n (M i):=fun i hi=>by
  by_cases e0:i=i0
  ·subst e0; exact old0
  ·-- i sits at place t of the new matrix
   have ⟨t,ht,htr,hti⟩:∃ t,t<m∧t≠J.length∧(if t=i0 then J.length else t)=i:=by
    by_cases e:i=J.length
    ·exact⟨i0,h2,fun e2=>e0 (by rw[e,e2]),by rw[if_pos rfl]; exact e.symm⟩
    ·exact⟨i,hi,e,if_neg e0⟩
   have h3:dq p M' m n fun j=>M' t j+(M i c * b) * M i0 j:=(dq.self ht).add _ old0;refine h3.congr fun j hj=>?_;have h4:=rown t ht htr j hj;rw[hti] at h4;refine Eqm.symm ((h4.add (Eqm.refl _)).trans (Eqm.of ?_));rw[Int.mul_assoc];omega
 refine⟨fun i hi=>?_,fun i hi=>(h.bwd i hi).trans old,fun j hj=>?_,fun k j hk i hi=>?_,fun i hi1 hi2 j hj=>?_,by simp; omega⟩
 ·by_cases e:i=J.length
  ·subst e;exact ((h.fwd i0 h2).mul b).congr rowr
  ·refine ((h.fwd _ (hsw i hi)).add (-(M (if i=i0 then J.length else i) c * b)) (h.fwd i0 h2)).congr fun j hj=>(rown i hi e j hj).trans (Eqm.of ?_);rw[Int.neg_mul,Int.mul_assoc];omega
 ·rcases List.mem_append.1 hj with h3 | h3
  ·have:=h.col j h3; omega
  ·simp at h3; omega
 ·by_cases hkl:k<J.length
  ·rw[List.getElem?_append_left hkl] at hk;have hjc:j<c:=h.col j (List.mem_of_getElem? hk);have z0:Eqm p (M i0 j) 0:=h.low i0 h1 h2 j hjc;have z1:∀ x,Eqm p (x * M i0 j) 0:=fun x=>by
    have:=(Eqm.refl x).mul z0;rwa [Int.mul_zero] at this
   by_cases e:i=J.length
   ·subst e;rw[if_neg (by omega)];exact (rowr j (by omega)).trans (z1 b)
   ·refine (rown i hi e j (by omega)).trans ?_;have h3:Eqm p (M (if i=i0 then J.length else i) j - M (if i=i0 then J.length else i) c * (b * M i0 j)) (M (if i=i0 then J.length else i) j):=by
     have h4:=z1 (-(M (if i=i0 then J.length else i) c * b));have h5:=(Eqm.refl (M (if i=i0 then J.length else i) j)).add h4;rw[Int.add_zero] at h5;refine (Eqm.of ?_).trans h5;rw[Int.neg_mul,Int.mul_assoc];omega
    refine h3.trans ?_;by_cases e0:i=i0
    ·rw[if_pos e0,if_neg (by omega)];exact h.low J.length (Nat.le_refl _) hr j hjc
    ·rw[if_neg e0];exact h.piv k j hk i hi
  ·have hk2:k=J.length∧j=c:=by
    rw[List.getElem?_append_right (by omega)] at hk;cases hd:k - J.length with
    | zero=>rw[hd] at hk; simp at hk; exact⟨by omega,hk.symm⟩
    | succ d=>rw[hd] at hk; simp at hk
   obtain ⟨rfl,rfl⟩:=hk2;exact colc i hi
 ·rw[List.length_append,List.length_singleton] at hi1;by_cases e:j=c
  ·subst e;have:=colc i hi2;rwa [if_neg (by omega)] at this
  ·have hjc:j<c:=by omega
   have z0:Eqm p (M i0 j) 0:=h.low i0 h1 h2 j hjc;refine (rown i hi2 (by omega) j (by omega)).trans ?_;have h4:=(Eqm.refl (-(M (if i=i0 then J.length else i) c * b))).mul z0;rw[Int.mul_zero] at h4;have h6:Eqm p (M (if i=i0 then J.length else i) j) 0:=h.low _ (by split <;> omega) (hsw i hi2) j hjc;have h5:=h6.add h4;refine (Eqm.of ?_).trans h5;rw[Int.neg_mul,Int.mul_assoc];omega
theorem Aq {f:Nat→Int}(w:Nat→Int){r m:Nat}(hr:r≤m)(h:∀ a,r≤a→a<m→Eqm p (f a) 0):Eqm p (aw (List.range m) fun a=>w a * f a) (aw (List.range r) fun a=>w a * f a):=by
 induction m with
 | zero=>rw[show r=0 by omega]; exact .refl _
 | succ m ih =>
  by_cases e:r=m+1
  ·rw[e]; exact .refl _
  ·rw[List.range_succ,fk,cd,fj];have h1:=(Eqm.refl (w m)).mul (h m (by omega) (by omega));rw[Int.mul_zero] at h1;have h2:=(ih (by omega) fun a k1 k2=>h a k1 (by omega)).add h1;rw[Int.add_zero] at h2;rwa [Int.add_zero]
theorem lq.rank {A M:Nat→Nat→Int}{m n:Nat}{J:List Nat}(h:lq p A m n M J n):dg p A m n J.length:=by
 have hb:∀ i,∃ w:Nat→Int,i<m→∀ j,j<n→Eqm p (A i j) (aw (List.range m) fun a=>w a * M a j):=fun i=>by
  by_cases hi:i<m
  ·obtain ⟨w,hw⟩:=h.bwd i hi;exact⟨w,fun _=>hw⟩
  ·exact⟨fun _=>0,fun k=>absurd k hi⟩
 have hf:∀ i,∃ w:Nat→Int,i<m→∀ j,j<n→Eqm p (M i j) (aw (List.range m) fun a=>w a * A a j):=fun i=>by
  by_cases hi:i<m
  ·obtain ⟨w,hw⟩:=h.fwd i hi;exact⟨w,fun _=>hw⟩
  ·exact⟨fun _=>0,fun k=>absurd k hi⟩
 refine⟨⟨fun i=>(hb i).choose,M,fun i hi j hj=>?_⟩,⟨fun i=>(hf i).choose,fun b k=>if J[k]?=some b then 1 else 0,fun i hi k hk=>?_⟩⟩
 ·refine ((hb i).choose_spec hi j hj).trans ?_;exact Aq _ h.len fun a h1 h2=>h.low a h1 h2 j hj
 ·obtain ⟨jc,hjc⟩:∃ jc,J[k]?=some jc:=⟨J[k],List.getElem?_eq_getElem hk⟩;have hjn:jc<n:=h.col jc (List.mem_of_getElem? hjc);have him:i<m:=by have:=h.len; omega
  have e:∀ a,(aw (List.range n) fun b=>A a b * (if J[k]?=some b then 1 else 0))=A a jc:=fun a=>by
   rw[hjc];rw[ag (g:=fun b=>(if jc=b then 1 else 0) * A a b) (fun b _=>by rw[Int.mul_comm]; congr 1; by_cases q:jc=b <;> simp[q])];exact fh n jc hjn _
  simp only[e];exact ((hf i).choose_spec him jc hjn).symm.trans (h.piv k jc hjc i him)
theorem dg.same (hp:Fld p){A:Nat→Nat→Int}{m n r r':Nat}(h:dg p A m n r)(h':dg p A m n r'):r=r':=by
 have key:∀ i,i<m→∀ j,j<n→Eqm p (A i j) (aw (List.range m) fun a=>(if i=a then 1 else 0) * aw (List.range n) fun b=>A a b * (if j=b then 1 else 0)):=fun i hi j hj=>by
  rw[fh m i hi,ag (g:=fun b=>(if j=b then 1 else 0) * A i b) (fun b _=>Int.mul_comm _ _),fh n j hj];exact .refl _
 exact Nat.le_antisymm (h'.le hp h key) (h.le hp h' key)
end
end Go.Pl
namespace Go.Pl
section
variable {p:Int}
def a7 (k:Nat)(A B:Nat→Nat→Int):Nat→Nat→Int:=fun i j=>aw (List.range k) fun t=>A i t * B t j
def Meq (p:Int)(m n:Nat)(A B:Nat→Nat→Int):Prop:=∀ i,i<m→∀ j,j<n→Eqm p (A i j) (B i j)
def lp:Nat→Nat→Int:=fun i j=>if i=j then 1 else 0
theorem cX (k l:Nat)(A B C:Nat→Nat→Int):a7 l (a7 k A B) C=a7 k A (a7 l B C):=by
 funext i j;unfold a7;have e:∀ t,(aw (List.range k) fun u=>A i u * B u t) * C t j=aw (List.range k) fun u=>A i u * (B u t * C t j):=fun t=>by
  rw[← eP];exact ag fun u _=>Int.mul_assoc _ _ _
 simp only[e];rw[eO];exact ag fun u _=>cz _ _ _
theorem Meq.refl {m n:Nat}(A:Nat→Nat→Int):Meq p m n A A:=fun _ _ _ _=>.refl _
theorem Meq.of {m n:Nat}{A B:Nat→Nat→Int}(h:A=B):Meq p m n A B:=by rw[h]; exact .refl B
theorem Meq.symm {m n:Nat}{A B:Nat→Nat→Int}(h:Meq p m n A B):Meq p m n B A:=fun i hi j hj=>(h i hi j hj).symm
theorem Meq.trans {m n:Nat}{A B C:Nat→Nat→Int}(h:Meq p m n A B)(k:Meq p m n B C):Meq p m n A C:=fun i hi j hj=>(h i hi j hj).trans (k i hi j hj)
theorem Meq.mul {m n k:Nat}{A A' B B':Nat→Nat→Int}(h:Meq p m k A A')(g:Meq p k n B B'):Meq p m n (a7 k A B) (a7 k A' B'):=fun i hi j hj =>
 Eqm.sum fun t ht=>(h i hi t (List.mem_range.1 ht)).mul (g t (List.mem_range.1 ht) j hj)
theorem qY {m n:Nat}(A:Nat→Nat→Int):Meq p m n (a7 m lp A) A:=fun i hi j _=>Eqm.of (fh m i hi fun t=>A t j)
theorem mU {m n:Nat}(A:Nat→Nat→Int):Meq p m n (a7 n A lp) A:=fun i _ j hj=>by
 refine Eqm.of ?_;unfold a7 lp;rw[ag (g:=fun b=>(if j=b then 1 else 0) * A i b) (fun b _=>by
  rw[Int.mul_comm];by_cases q:j=b
  ·rw[if_pos q.symm,if_pos q]
  ·rw[if_neg (fun e=>q e.symm),if_neg q])]
 exact fh n j hj _
theorem pG (r s:Nat)(f:Nat→Int):aw (List.range (r+s)) f=aw (List.range r) f+aw (List.range s) fun t=>f (r+t):=by
 induction s with
 | zero=>simp[aw]
 | succ s ih =>
  rw[← Nat.add_assoc,List.range_succ,fk,ih,List.range_succ,fk];simp only[cd,fj];omega
theorem kE {A:Nat→Nat→Int}{m n r:Nat}:dg p A m n r↔(∃ X Y,Meq p m n A (a7 r X Y))∧∃ L R,Meq p r r (a7 m L (a7 n A R)) lp :=
 ⟨fun h=>⟨h.thru,h.one⟩,fun h=>⟨h.1,h.2⟩⟩
def gJ (m:Nat)(A B:Nat→Nat→Int):Nat→Nat→Int:=fun i j=>if i<m then A i j else B (i - m) j
def iT (n:Nat)(A B:Nat→Nat→Int):Nat→Nat→Int:=fun i j=>if j<n then A i j else B i (j - n)
theorem rh (k m:Nat)(A B C:Nat→Nat→Int):a7 k (gJ m A B) C=gJ m (a7 k A C) (a7 k B C):=by
 funext i j;unfold a7 gJ;split <;> rfl
theorem qI (k n:Nat)(A B C:Nat→Nat→Int):a7 k A (iT n B C)=iT n (a7 k A B) (a7 k A C):=by
 funext i j;unfold a7 iT;split <;> rfl
theorem m7 (r s:Nat)(A B C D:Nat→Nat→Int):a7 (r+s) (iT r A B) (gJ r C D)=fun i j=>a7 r A C i j+a7 s B D i j:=by
 funext i j;unfold a7;rw[pG];congr 1
 ·refine ag fun t ht=>?_;have:=List.mem_range.1 ht;unfold iT gJ;rw[if_pos this,if_pos this]
 ·refine ag fun t _=>?_;unfold iT gJ;rw[if_neg (by omega),if_neg (by omega),Nat.add_sub_cancel_left]
theorem Meq.over {m k n:Nat}{A A' B B':Nat→Nat→Int}(h:Meq p m n A A')(g:Meq p k n B B'):Meq p (m+k) n (gJ m A B) (gJ m A' B'):=fun i hi j hj=>by
 unfold gJ;split
 ·rename_i h1;exact h i h1 j hj
 ·exact g (i - m) (by omega) j hj
theorem Meq.bes {m n l:Nat}{A A' B B':Nat→Nat→Int}(h:Meq p m n A A')(g:Meq p m l B B'):Meq p m (n+l) (iT n A B) (iT n A' B'):=fun i hi j hj=>by
 unfold iT;split
 ·rename_i h1;exact h i hi j h1
 ·exact g i hi (j - n) (by omega)
def dD:Nat→Nat→Int:=fun _ _=>0
def ww (A B:Nat→Nat→Int):Nat→Nat→Int:=fun i j=>A i j+B i j
def rO (A:Nat→Nat→Int):Nat→Nat→Int:=fun i j=>-A i j
theorem Db (k:Nat)(A B:Nat→Nat→Int):a7 k (rO A) B=rO (a7 k A B):=by
 funext i j;unfold a7 rO;rw[ag (g:=fun t=>(-1) * (A i t * B t j)) (fun t _=>by rw[Int.neg_mul]; omega),cz];show -1 * _ = - aw _ _;omega
theorem nM (k:Nat)(A:Nat→Nat→Int):a7 k A dD=dD:=by
 funext i j;unfold a7 dD;rw[ag (g:=fun _=>0) (fun t _=>Int.mul_zero _),fM]
theorem Meq.add {m n:Nat}{A A' B B':Nat→Nat→Int}(h:Meq p m n A A')(g:Meq p m n B B'):Meq p m n (ww A B) (ww A' B'):=fun i hi j hj=>(h i hi j hj).add (g i hi j hj)
theorem Meq.neg {m n:Nat}{A A':Nat→Nat→Int}(h:Meq p m n A A'):Meq p m n (rO A) (rO A'):=fun i hi j hj=>by
 have:=(Eqm.refl (-1)).mul (h i hi j hj);refine (Eqm.of ?_).trans (this.trans (Eqm.of ?_))<;>unfold rO <;> omega
theorem zf (r s:Nat):Meq p (r+s) (r+s) (gJ r (iT r lp dD) (iT r dD lp)) lp:=fun i _ j _=>by
 refine Eqm.of ?_;unfold gJ iT lp dD;by_cases h1:i<r <;> by_cases h2:j<r <;> simp only[h1,h2,if_true,if_false] <;> split <;> (try split)<;>omega
theorem tF (A:Nat→Nat→Int):ww A dD=A:=by funext i j; simp[ww,dD]
theorem D1 (A:Nat→Nat→Int):ww A (rO A)=dD:=by
 funext i j;show A i j + -A i j=0;omega
theorem rj (k:Nat)(A B C:Nat→Nat→Int):a7 k A (ww B C)=ww (a7 k A B) (a7 k A C):=by
 funext i j;unfold a7 ww;rw[← mL];exact ag fun t _=>Int.mul_add _ _ _
theorem w8 (k:Nat)(A B:Nat→Nat→Int):a7 k A (rO B)=rO (a7 k A B):=by
 funext i j;unfold a7 rO;rw[ag (g:=fun t=>(-1) * (A i t * B t j)) (fun t _=>by rw[Int.mul_neg]; omega),cz];show -1 * _ = - aw _ _;omega
theorem nF (k:Nat)(A:Nat→Nat→Int):a7 k dD A=dD:=by
 funext i j;unfold a7 dD;rw[ag (g:=fun _=>0) (fun t _=>Int.zero_mul _),fM]
structure Red (p:Int)(M:Nat→Nat→Int)(m n r:Nat)(X E L R:Nat→Nat→Int):Prop where
 thru:Meq p m n M (a7 r X E)
 rows:Meq p r n (a7 m L M) E
 one:Meq p r r (a7 n E R) lp
def rN (r:Nat)(E R:Nat→Nat→Int):Nat→Nat→Int:=ww lp (rO (a7 r R E))
section
variable {M X E L R:Nat→Nat→Int}{m n r:Nat}(h:Red p M m n r X E L R)
include h
theorem Red.rank:dg p M m n r:=kE.2 ⟨⟨X,E,h.thru⟩,L,R,by
 rw[← cX];exact (h.rows.mul (.refl _)).trans h.one⟩
theorem Red.nul:Meq p r n (a7 n E (rN r E R)) dD:=by
 unfold rN;rw[rj,w8,← cX];refine ((mU E).add ((h.one.mul (.refl E)).trans (qY E)).neg).trans (.of (D1 E))
theorem Red.zero:Meq p m n (a7 n M (rN r E R)) dD:=by
 refine (h.thru.mul (.refl _)).trans ?_;rw[cX];refine ((Meq.refl X).mul h.nul).trans (.of (nM r X))
theorem Red.over {P:Nat→Nat→Int}{k s:Nat}(hs:dg p (a7 n P (rN r E R)) k n s):dg p (gJ m M P) (m+k) n (r+s):=by
 obtain ⟨⟨X2,Y2,hXY⟩,L2,R2,hLR⟩:=kE.1 hs;have hsum:Meq p n n (ww (a7 r R E) (rN r E R)) lp:=.of (by
  funext i j;show a7 r R E i j+(lp i j + -a7 r R E i j)=lp i j;omega)
 have hP:Meq p k n P (ww (a7 r (a7 n P R) E) (a7 s X2 Y2)):=by
  refine (mU P).symm.trans ?_;refine ((Meq.refl P).mul hsum.symm).trans ?_;rw[rj,← cX];exact (Meq.refl _).add hXY
 refine kE.2 ⟨⟨gJ m (iT r X dD) (iT r (a7 n P R) X2),gJ r E Y2,?_⟩,gJ r (iT m L dD) (iT m (rO (a7 r (a7 k L2 (a7 n P R)) L)) L2),iT r R (a7 n (rN r E R) R2),?_⟩
 ·rw[rh,m7,m7];refine Meq.over ?_ ?_
  ·refine h.thru.trans (.of ?_);rw[nF];exact (tF _).symm
  ·exact hP
 ·rw[rh,rh,m7,m7];have hE:Meq p r (r+s) (a7 m L (a7 n M (iT r R (a7 n (rN r E R) R2)))) (iT r lp dD):=by
   rw[← cX];refine (h.rows.mul (.refl _)).trans ?_;rw[qI];refine Meq.bes h.one ?_;rw[← cX];exact (h.nul.mul (.refl R2)).trans (.of (nF n R2))
  refine Meq.trans (Meq.over (A':=iT r lp dD) (B':=iT r dD lp) ?_ ?_) (zf r s)
  ·rw[nF];exact (Meq.of (tF _)).trans hE
  ·have h1:Meq p s (r+s) (a7 m (rO (a7 r (a7 k L2 (a7 n P R)) L)) (a7 n M (iT r R (a7 n (rN r E R) R2)))) (rO (iT r (a7 k L2 (a7 n P R)) dD)):=by
    rw[Db,cX];refine Meq.neg (((Meq.refl _).mul hE).trans ?_);rw[qI,nM];exact Meq.bes (mU _) (.refl _)
   have h2:Meq p s (r+s) (a7 k L2 (a7 n P (iT r R (a7 n (rN r E R) R2)))) (iT r (a7 k L2 (a7 n P R)) lp):=by
    rw[qI,qI];refine Meq.bes (.refl _) ?_;rw[← cX n n P];exact hLR
   refine (Meq.add h1 h2).trans (.of ?_);funext i j;show -(iT r (a7 k L2 (a7 n P R)) dD i j)+iT r (a7 k L2 (a7 n P R)) lp i j=iT r dD lp i j;unfold iT dD;split <;> omega
end
theorem lq.red {A M:Nat→Nat→Int}{m n:Nat}{J:List Nat}(h:lq p A m n M J n):∃ X L R,Red p A m n J.length X M L R:=by
 have hb:∀ i,∃ w:Nat→Int,i<m→∀ j,j<n→Eqm p (A i j) (aw (List.range m) fun a=>w a * M a j):=fun i=>by
  by_cases hi:i<m
  ·obtain ⟨w,hw⟩:=h.bwd i hi;exact⟨w,fun _=>hw⟩
  ·exact⟨fun _=>0,fun k=>absurd k hi⟩
 have hf:∀ i,∃ w:Nat→Int,i<m→∀ j,j<n→Eqm p (M i j) (aw (List.range m) fun a=>w a * A a j):=fun i=>by
  by_cases hi:i<m
  ·obtain ⟨w,hw⟩:=h.fwd i hi;exact⟨w,fun _=>hw⟩
  ·exact⟨fun _=>0,fun k=>absurd k hi⟩
 refine⟨fun i=>(hb i).choose,fun i=>(hf i).choose,fun b k=>if J[k]?=some b then 1 else 0,⟨fun i hi j hj=>?_,fun i hi j hj=>?_,fun i hi k hk=>?_⟩⟩
 ·exact ((hb i).choose_spec hi j hj).trans (Aq _ h.len fun a h1 h2=>h.low a h1 h2 j hj)
 ·exact ((hf i).choose_spec (by have:=h.len; omega) j hj).symm
 ·obtain ⟨jc,hjc⟩:∃ jc,J[k]?=some jc:=⟨J[k],List.getElem?_eq_getElem hk⟩;have hjn:jc<n:=h.col jc (List.mem_of_getElem? hjc);have e:a7 n M (fun b k=>if J[k]?=some b then 1 else 0) i k=M i jc:=by
   show (aw (List.range n) fun t=>M i t * (if J[k]?=some t then 1 else 0))=_;rw[hjc];rw[ag (g:=fun b=>(if jc=b then 1 else 0) * M i b) (fun b _=>by rw[Int.mul_comm]; congr 1; by_cases q:jc=b <;> simp[q])];exact fh n jc hjn _
  rw[e];exact h.piv k jc hjc i (by have:=h.len; omega)
end
end Go.Pl
namespace Go.Pl
theorem tf {p:Int}(h:p=2∨p=3∨p=5∨p=7):Fld p:=by
 refine⟨fun h1=>?_,fun a ha=>?_⟩
 ·obtain ⟨k,hk⟩:=h1
  rcases h with rfl | rfl | rfl | rfl <;> omega
 ·rcases h with rfl | rfl | rfl | rfl
  ·have:a % 2≠0:=fun e=>ha ⟨a / 2,by omega⟩;exact⟨1,⟨a / 2,by omega⟩⟩
  ·have:a % 3≠0:=fun e=>ha ⟨a / 3,by omega⟩;by_cases h1:a % 3=1
   ·exact⟨1,⟨a / 3,by omega⟩⟩
   ·exact⟨2,⟨a / 3 * 2+1,by omega⟩⟩
  ·have:a % 5≠0:=fun e=>ha ⟨a / 5,by omega⟩;by_cases h1:a % 5=1
   ·exact⟨1,⟨a / 5,by omega⟩⟩
   by_cases h2:a % 5=2
   ·exact⟨3,⟨a / 5 * 3+1,by omega⟩⟩
   by_cases h3:a % 5=3
   ·exact⟨2,⟨a / 5 * 2+1,by omega⟩⟩
   ·exact⟨4,⟨a / 5 * 4+3,by omega⟩⟩
  ·have:a % 7≠0:=fun e=>ha ⟨a / 7,by omega⟩;by_cases h1:a % 7=1
   ·exact⟨1,⟨a / 7,by omega⟩⟩
   by_cases h2:a % 7=2
   ·exact⟨4,⟨a / 7 * 4+1,by omega⟩⟩
   by_cases h3:a % 7=3
   ·exact⟨5,⟨a / 7 * 5+2,by omega⟩⟩
   by_cases h4:a % 7=4
   ·exact⟨2,⟨a / 7 * 2+1,by omega⟩⟩
   by_cases h5:a % 7=5
   ·exact⟨3,⟨a / 7 * 3+2,by omega⟩⟩
   ·exact⟨6,⟨a / 7 * 6+5,by omega⟩⟩
section
variable {p:Int}
theorem Eqm.neg {a b:Int}(h:Eqm p a b):Eqm p (-a) (-b):=by
 have:=(Eqm.refl (-1)).mul h;refine (Eqm.of ?_).trans (this.trans (Eqm.of ?_))<;>omega
theorem Eqm.sub {a b c d:Int}(h:Eqm p a b)(k:Eqm p c d):Eqm p (a - c) (b - d):=by
 have:=h.add k.neg;rwa [← Int.sub_eq_add_neg,← Int.sub_eq_add_neg] at this
theorem xE (hp:Fld p)(A:Nat→Nat→Int)(m n:Nat):∀ c,c≤n→∃ M J,lq p A m n M J c
 | 0,_=>⟨A,[],.start A m n⟩
 | c+1,hc=>by
  obtain ⟨M,J,h⟩:=xE hp A m n c (by omega);by_cases h0:∀ i,J.length≤i→i<m→Eqm p (M i c) 0
  ·exact⟨M,J,h.none h0⟩
  ·have ⟨i0,h1,h2,h3⟩:∃ i0,J.length≤i0∧i0<m∧¬ Eqm p (M i0 c) 0:=by
    apply Classical.byContradiction;intro k;exact h0 fun i a b=>Classical.byContradiction fun e=>k ⟨i,a,b,e⟩
   obtain ⟨b,hb⟩:=hp.2 _ h3;rw[Int.mul_comm] at hb;exact⟨fun i j=>if i=J.length then b * M i0 j else M (if i=i0 then J.length else i) j - M (if i=i0 then J.length else i) c * (b * M i0 j),J++[c],h.pivot (by omega) h1 h2 hb fun i _ j _=>.refl _⟩
theorem Ag (hp:Fld p)(A:Nat→Nat→Int)(m n:Nat):∃ r X E L R,Red p A m n r X E L R:=by
 obtain ⟨M,J,h⟩:=xE hp A m n n (Nat.le_refl _);obtain ⟨X,L,R,h1⟩:=h.red;exact⟨_,X,M,L,R,h1⟩
open Classical in
noncomputable def rk (p:Int) (A:Nat→Nat→Int) (m n:Nat):Nat:=if h:∃ r,dg p A m n r then h.choose else 0
theorem tM (hp:Fld p){A:Nat→Nat→Int}{m n r:Nat}(h:dg p A m n r):rk p A m n=r:=by
 have h1:∃ r,dg p A m n r:=⟨r,h⟩;unfold rk;rw[dif_pos h1];exact dg.same hp h1.choose_spec h
theorem tK (hp:Fld p)(A:Nat→Nat→Int)(m n:Nat):dg p A m n (rk p A m n):=by
 obtain ⟨r,X,E,L,R,h⟩:=Ag hp A m n;rw[tM hp h.rank];exact h.rank
theorem dg.congr {A B:Nat→Nat→Int}{m n r:Nat}(h:dg p A m n r)(e:Meq p m n A B):dg p B m n r:=by
 obtain ⟨⟨X,Y,h1⟩,L,R,h2⟩:=kE.1 h;exact kE.2 ⟨⟨X,Y,e.symm.trans h1⟩,L,R,((Meq.refl L).mul (e.symm.mul (.refl R))).trans h2⟩
theorem fl (hp:Fld p){A B:Nat→Nat→Int}{m n:Nat}(e:Meq p m n A B):rk p A m n=rk p B m n:=(tM hp ((tK hp B m n).congr e.symm))
theorem Ab (hp:Fld p)(A:Nat→Nat→Int)(m n:Nat):rk p (fun i j=>A j i) n m=rk p A m n:=tM hp (tK hp A m n).turn
theorem lq.rk (hp:Fld p){A M:Nat→Nat→Int}{m n:Nat}{J:List Nat}(h:lq p A m n M J n):Pl.rk p A m n=J.length:=tM hp h.rank
theorem Ba (hp:Fld p){A B U V:Nat→Nat→Int}{m n m' n':Nat}(h:Meq p m' n' B (a7 m U (a7 n A V))):rk p B m' n'≤rk p A m n :=
 (tK hp A m n).le hp (tK hp B m' n') (U:=U) (V:=V) h
theorem uD (hp:Fld p)(A:Nat→Nat→Int)(m n:Nat):rk p A m n≤n:=by
 obtain ⟨X,Y,h⟩:=(tK hp A m n).thru;obtain ⟨L,R,k⟩:=(tK hp A m n).one;refine Ef hp (X:=fun i b=>aw (List.range m) fun a=>L i a * A a b) (Y:=R) fun i hi j hj=>?_;refine (Eqm.of ?_).trans (k i hi j hj);have e:∀ t,(aw (List.range m) fun a=>L i a * A a t) * R t j=aw (List.range m) fun a=>L i a * (A a t * R t j):=fun t=>by
  rw[← eP];exact ag fun a _=>Int.mul_assoc _ _ _
 simp only[e];rw[eO];exact ag fun a _=>cz _ _ _
theorem jP (hp:Fld p)(A:Nat→Nat→Int)(m n:Nat):rk p A m n≤m:=by
 rw[← Ab hp];exact uD hp _ _ _
def mx {α β:Type}(R:List α)(C:List β)(e:α→β→Int):Nat→Nat→Int:=fun i j=>match R[i]?,C[j]? with
 | some r,some c=>e r c
 | _,_=>0
noncomputable def rkL {α β:Type} (p:Int) (R:List α) (C:List β) (e:α→β→Int):Nat:=rk p (mx R C e) R.length C.length
theorem fW {α β:Type}{R:List α}{C:List β}{e:α→β→Int}{i j:Nat}{r:α}{c:β}(hr:R[i]?=some r)(hc:C[j]?=some c):mx R C e i j=e r c:=by
 unfold mx;rw[hr,hc]
theorem nH (n i:Nat)(h:i<n)(f:Nat→Int):(aw (List.range n) fun k=>f k * (if k=i then 1 else 0))=f i:=by
 rw[ag (g:=fun b=>(if i=b then 1 else 0) * f b) (fun b _=>by
  rw[Int.mul_comm];congr 1;by_cases q:i=b <;> simp[q,eq_comm])]
 exact fh n i h f
theorem Fb (hp:Fld p){A B:Nat→Nat→Int}{m n m' n':Nat}(f g:Nat→Nat)(u v:Nat→Int)(hf:∀ i,i<m'→f i<m)(hg:∀ j,j<n'→g j<n)(h:∀ i,i<m'→∀ j,j<n'→Eqm p (B i j) (u i * (A (f i) (g j) * v j))):rk p B m' n'≤rk p A m n:=by
 refine Ba hp (U:=fun i a=>if f i=a then u i else 0) (V:=fun b j=>(if b=g j then 1 else 0) * v j) fun i hi j hj=>?_;refine (h i hi j hj).trans (Eqm.of ?_);unfold a7;have e1:∀ a,(aw (List.range n) fun b=>A a b * ((if b=g j then 1 else 0) * v j))=A a (g j) * v j:=fun a=>by
  rw[ag (g:=fun b=>(A a b * (if b=g j then 1 else 0)) * v j) (fun b _=>(Int.mul_assoc _ _ _).symm),eP,nH n (g j) (hg j hj)]
 simp only[e1];rw[ag (g:=fun a=>(if f i=a then 1 else 0) * (u i * (A a (g j) * v j))) (fun a _=>by split <;> simp),fh m (f i) (hf i hi)]
theorem D9 (hp:Fld p){α β α' β':Type}{R:List α}{C:List β}{R':List α'}{C':List β'}{e:α→β→Int}{e':α'→β'→Int}(f:α'→α)(g:β'→β)(u:α'→Int)(v:β'→Int)(hf:∀ r∈R',f r∈R)(hg:∀ c∈C',g c∈C)(h:∀ r∈R',∀ c∈C',Eqm p (e' r c) (u r * (e (f r) (g c) * v c))):rkL p R' C' e'≤rkL p R C e:=by
 have hF:∀ i:Nat,∃ k:Nat,∀ r,R'[i]?=some r→k<R.length∧R[k]?=some (f r):=fun i=>by
  cases hr:R'[i]? with
  | none=>exact⟨0,fun r hr=>by cases hr⟩
  | some r =>
   obtain ⟨k,hk,e⟩:=List.mem_iff_getElem.1 (hf r (List.mem_of_getElem? hr));exact⟨k,fun r1 h1=>by cases h1; exact⟨hk,by rw[List.getElem?_eq_getElem hk,e]⟩⟩
 have hG:∀ j:Nat,∃ k:Nat,∀ c,C'[j]?=some c→k<C.length∧C[k]?=some (g c):=fun j=>by
  cases hc:C'[j]? with
  | none=>exact⟨0,fun c hc=>by cases hc⟩
  | some c =>
   obtain ⟨k,hk,e⟩:=List.mem_iff_getElem.1 (hg c (List.mem_of_getElem? hc));exact⟨k,fun c1 h1=>by cases h1; exact⟨hk,by rw[List.getElem?_eq_getElem hk,e]⟩⟩
 refine Fb hp (fun i=>(hF i).choose) (fun j=>(hG j).choose) (fun i=>(R'[i]?).elim 0 u) (fun j=>(C'[j]?).elim 0 v) (fun i hi=>?_) (fun j hj=>?_) fun i hi j hj=>?_
 ·exact ((hF i).choose_spec _ (List.getElem?_eq_getElem hi)).1
 ·exact ((hG j).choose_spec _ (List.getElem?_eq_getElem hj)).1
 ·have hr:R'[i]?=some R'[i]:=List.getElem?_eq_getElem hi;have hc:C'[j]?=some C'[j]:=List.getElem?_eq_getElem hj;have h1:=((hF i).choose_spec _ hr).2;have h2:=((hG j).choose_spec _ hc).2;rw[fW hr hc,fW h1 h2,hr,hc];exact h _ (List.getElem_mem hi) _ (List.getElem_mem hj)
theorem jQ (hp:Fld p){α β:Type}{R R':List α}{C C':List β}{e:α→β→Int}(hR:∀ r,r∈R↔r∈R')(hC:∀ c,c∈C↔c∈C'):rkL p R C e=rkL p R' C' e:=by
 have key:∀ (e:α→β→Int) r c,Eqm p (e r c) (1 * (e r c * 1)):=fun e r c=>.of (by omega);exact Nat.le_antisymm (D9 hp id id (fun _=>1) (fun _=>1) (fun r h=>(hR r).1 h) (fun c h=>(hC c).1 h) fun r _ c _=>key e r c) (D9 hp id id (fun _=>1) (fun _=>1) (fun r h=>(hR r).2 h) (fun c h=>(hC c).2 h) fun r _ c _=>key e r c)
theorem qU (hp:Fld p){α β:Type}(R:List α)(C:List β)(e:α→β→Int):rkL p C R (fun c r=>e r c)=rkL p R C e:=by
 unfold rkL;rw[← Ab hp];congr 1;funext i j;unfold mx;cases R[i]? <;> cases C[j]? <;> rfl
theorem Ai {α β:Type}(R R2:List α)(C:List β)(e:α→β→Int):Meq p (R.length+R2.length) C.length (mx (R++R2) C e) (gJ R.length (mx R C e) (mx R2 C e)):=fun i hi j _=>Eqm.of (by
 unfold gJ;by_cases h:i<R.length
 ·rw[if_pos h];unfold mx;rw[List.getElem?_append_left h]
 ·rw[if_neg h];unfold mx;rw[List.getElem?_append_right (by omega)])
theorem Ac (hp:Fld p){M P X E L R:Nat→Nat→Int}{m k n r:Nat}(h:Red p M m n r X E L R):rk p (gJ m M P) (m+k) n=r+rk p (a7 n P (rN r E R)) k n:=tM hp (h.over (tK hp _ _ _))
theorem CE {α:Type}(l:List α)(f:α→Int)(g:Nat→Int)(h:∀ i a,l[i]?=some a→g i=f a):aw (List.range l.length) g=(l.map f).sum:=by
 unfold aw;congr 1;refine List.ext_getElem? fun i=>?_;rw[List.getElem?_map,List.getElem?_map];cases ha:l[i]? with
 | none =>
  have:l.length≤i:=List.getElem?_eq_none_iff.1 ha;rw[List.getElem?_eq_none (by rw[List.length_range]; exact this)];rfl
 | some a =>
  have:i<l.length:=(List.getElem?_eq_some_iff.1 ha).1;rw[List.getElem?_range this];exact congrArg some (h i a ha)
end
end Go.Pl
namespace Go.Pl
def at2 (M:List (List Int)):Nat→Nat→Int:=fun i j=>(M.getD i []).getD j 0
def Co (m n:Nat)(f:Nat→Nat→Int):List (List Int):=(List.range m).map fun i=>(List.range n).map (f i)
theorem AK {m n:Nat}{f:Nat→Nat→Int}{i j:Nat}(hi:i<m)(hj:j<n):at2 (Co m n f) i j=f i j:=by
 have h1:(Co m n f).getD i []=(List.range n).map (f i):=by
  unfold Co;rw[List.getD_eq_getElem?_getD,List.getElem?_map,List.getElem?_range hi];rfl
 unfold at2;rw[h1,List.getD_eq_getElem?_getD,List.getElem?_map,List.getElem?_range hj];rfl
def Cf (p a:Int):Int:=(((List.range p.toNat).find? fun b:Nat=>decide ((b * a) % p=1)).getD 0:Nat)
def zu (p:Int)(m n:Nat):Nat→Nat→List (List Int)→Nat→Nat
 | 0,_,_,k=>k
 | f+1,c,M,k=>match (List.range m).find? fun i=>decide (k≤i)&&decide (at2 M i c % p≠0) with
  | none=>zu p m n f (c+1) M k
  | some i0=>zu p m n f (c+1) (Co m n fun i j=>(if i=k then Cf p (at2 M i0 c) * at2 M i0 j else at2 M (if i=i0 then k else i) j - at2 M (if i=i0 then k else i) c * (Cf p (at2 M i0 c) * at2 M i0 j)) % p) (k+1)
theorem nt (p a:Int):Eqm p (a % p) a:=by
 refine⟨-(a / p),?_⟩;rw[Int.mul_neg];have:=Int.emod_add_mul_ediv a p;omega
theorem rB {p:Int}(hp:Fld p)(hinv:∀ a,a % p≠0→Eqm p (Cf p a * a) 1){A:Nat→Nat→Int}{m n:Nat}:∀ (f c:Nat) (M:List (List Int)) (J:List Nat),f+c=n→lq p A m n (at2 M) J c→zu p m n f c M J.length=rk p A m n
 | 0,c,M,J,hc,h=>by
  have:c=n:=by omega
  subst this;exact (h.rk hp).symm
 | f+1,c,M,J,hc,h=>by
  unfold zu;cases hf:(List.range m).find? fun i=>decide (J.length≤i)&&decide (at2 M i c % p≠0) with
  | none =>
   refine rB hp hinv f (c+1) M J (by omega) (h.none fun i h1 h2=>?_);have:=List.find?_eq_none.1 hf i (List.mem_range.2 h2);simp only[Bool.and_eq_true,decide_eq_true_eq,not_and,Classical.not_not] at this;have h0:=this h1;exact⟨at2 M i c / p,by have:=Int.emod_add_mul_ediv (at2 M i c) p; omega⟩
  | some i0 =>
   have h1:=List.find?_some hf;have h2:=List.mem_range.1 (List.mem_of_find?_eq_some hf);simp only[Bool.and_eq_true,decide_eq_true_eq] at h1;have h3:=h.pivot (M':=at2 (Co m n fun i j=>(if i=J.length then Cf p (at2 M i0 c) * at2 M i0 j else at2 M (if i=i0 then J.length else i) j - at2 M (if i=i0 then J.length else i) c * (Cf p (at2 M i0 c) * at2 M i0 j)) % p)) (by omega) h1.1 h2 (hinv _ h1.2) fun i hi j hj=>by
    rw[AK hi hj];exact nt _ _
   have:=rB hp hinv f (c+1) _ (J++[c]) (by omega) h3;rw[List.length_append,List.length_singleton] at this;exact this
theorem FB (a:Int)(h:a % 2≠0):Eqm 2 (Cf 2 a * a) 1:=by
 have h1:Cf 2 a=1:=by
  unfold Cf;have:(((1:Nat):Int) * a) % 2=1:=by omega
  have h0:¬ (((0:Nat):Int) * a) % 2=1:=by simp
  rw[show List.range (2:Int).toNat=[0,1] from rfl,List.find?_cons_of_neg (by rw[decide_eq_true_eq]; exact h0),List.find?_cons_of_pos (by rw[decide_eq_true_eq]; exact this)];rfl
 rw[h1];exact⟨a / 2,by omega⟩
def rkF {α β:Type}(R:List α)(C:List β)(e:α→β→Int):Nat:=zu 2 R.length C.length C.length 0 (Co R.length C.length (mx R C e)) 0
theorem Gj {α β:Type}(R:List α)(C:List β)(e:α→β→Int):rkL 2 R C e=rkF R C e:=by
 have hp:Fld 2:=tf (.inl rfl);unfold rkF rkL;have h1:Meq 2 R.length C.length (mx R C e) (at2 (Co R.length C.length (mx R C e))):=fun i hi j hj=>Eqm.of (AK hi hj).symm;rw[fl hp h1];exact (rB hp FB C.length 0 _ [] (by omega) (lq.start _ _ _)).symm
def fV (p:Int):Bool:=decide (p=2)||decide (p=3)||decide (p=5)||decide (p=7)
end Go.Pl
namespace Go.Pl
section
variable {p:Int}
theorem kC {α:Type}(l:List α)(f g:α→Int):(l.map fun a=>f a+g a).sum=(l.map f).sum+(l.map g).sum:=by
 induction l with
 | nil=>rfl
 | cons a l ih=>rw[List.map_cons,List.map_cons,List.map_cons,List.sum_cons,List.sum_cons,List.sum_cons,ih]; omega
theorem je {α:Type}(l:List α)(f:α→Int)(c:Int):(l.map fun a=>f a * c).sum=(l.map f).sum * c:=by
 induction l with
 | nil=>simp
 | cons a l ih=>rw[List.map_cons,List.map_cons,List.sum_cons,List.sum_cons,ih,Int.add_mul]
theorem mM {α:Type}(l:List α)(f:α→Int)(c:Int):(l.map fun a=>c * f a).sum=c * (l.map f).sum:=by
 induction l with
 | nil=>simp
 | cons a l ih=>rw[List.map_cons,List.map_cons,List.sum_cons,List.sum_cons,ih,Int.mul_add]
theorem CT (hp:Fld p)(m n:Nat):rk p dD m n=0:=tM hp ⟨⟨dD,dD,fun i _ j _=>by rw[List.range_zero,fj]; exact .refl _⟩,⟨dD,dD,fun i hi=>absurd hi (Nat.not_lt_zero i)⟩⟩
variable {α β:Type}
theorem Ad (hp:Fld p){x:α}{R:List α}{C:List β}{e:α→β→Int}(w:α→Int)(h:∀ c∈C,Eqm p (e x c) (R.map fun r=>w r * e r c).sum):rkL p (x::R) C e=rkL p R C e:=by
 rw[jQ hp (R':=R++[x]) (C':=C) (fun r=>by simp[or_comm]) (fun c=>Iff.rfl)];obtain ⟨r,X,E,L,Q,hr⟩:=Ag hp (mx R C e) R.length C.length;unfold rkL;rw[List.length_append,fl hp (Ai R [x] C e),Ac hp hr,tM hp hr.rank,List.length_singleton];have hP:Meq p 1 C.length (mx [x] C e) (a7 R.length (fun _ a=>match R[a]? with | some r=>w r | none=>0) (mx R C e)):=fun i hi j hj=>by
  obtain rfl:i=0:=by omega
  have hc:C[j]?=some C[j]:=List.getElem?_eq_getElem hj;rw[fW (r:=x) rfl hc];refine (h _ (List.getElem_mem hj)).trans (Eqm.of ?_);unfold a7;rw[CE R fun r=>w r * e r C[j]];intro t r ht;dsimp only;rw[ht,fW ht hc]
 have hz:Meq p 1 C.length (a7 C.length (mx [x] C e) (rN r E Q)) dD:=by
  refine (hP.mul (.refl _)).trans ?_;rw[cX];exact ((Meq.refl _).mul hr.zero).trans (.of (nM _ _))
 rw[fl hp hz,CT hp];rfl
theorem Af (hp:Fld p){y:β}{R:List α}{C:List β}{e:α→β→Int}(w:β→Int)(h:∀ r∈R,Eqm p (e r y) (C.map fun c=>e r c * w c).sum):rkL p R (y::C) e=rkL p R C e:=by
 rw[← qU hp R (y::C) e,← qU hp R C e];refine Ad hp w fun r hr=>(h r hr).trans (.of ?_);congr 1;exact List.map_congr_left fun c _=>Int.mul_comm _ _
theorem kT (hp:Fld p){R:List α}{C:List β}{e e':α→β→Int}(h:∀ r∈R,∀ c∈C,Eqm p (e r c) (e' r c)):rkL p R C e=rkL p R C e':=by
 unfold rkL;refine fl hp fun i hi j hj=>?_;rw[fW (List.getElem?_eq_getElem hi) (List.getElem?_eq_getElem hj),fW (List.getElem?_eq_getElem hi) (List.getElem?_eq_getElem hj)];exact h _ (List.getElem_mem hi) _ (List.getElem_mem hj)
def pvE (e:α→β→Int)(t:α)(s:β)(b:Int):α→β→Int:=fun r c=>e r c - e r s * (b * e t c)
theorem Bb (hp:Fld p){t:α}{s:β}{R:List α}{C:List β}{e:α→β→Int}{b:Int}(hb:Eqm p (e t s * b) 1):rkL p (t::R) (s::C) e=1+rkL p R C (pvE e t s b):=by
 have hred:Red p (mx [t] (s::C) e) 1 (C.length+1) 1 lp (mx [t] (s::C) e) lp (fun k _=>if k=0 then b else 0):=by
  refine⟨(qY _).symm,qY _,fun i hi j hj=>?_⟩;obtain rfl:i=0:=by omega
  obtain rfl:j=0:=by omega
  unfold a7;rw[ag (g:=fun k=>(mx [t] (s::C) e 0 k * b) * (if k=0 then 1 else 0)) (fun k _=>by by_cases q:k=0 <;> simp[q]),nH _ 0 (by omega)];exact hb
 have h1:=Ac hp (P:=mx R (s::C) e) (k:=R.length) hred;have h2:rkL p (t::R) (s::C) e=1+rk p (a7 (C.length+1) (mx R (s::C) e) (rN 1 (mx [t] (s::C) e) fun k _=>if k=0 then b else 0)) R.length (C.length+1):=by
  rw[← h1];unfold rkL;rw[List.length_cons,List.length_cons,Nat.add_comm R.length 1];exact fl hp (Ai [t] R (s::C) e)
 rw[h2];congr 1;have h3:Meq p R.length (C.length+1) (a7 (C.length+1) (mx R (s::C) e) (rN 1 (mx [t] (s::C) e) fun k _=>if k=0 then b else 0)) (mx R (s::C) (pvE e t s b)):=by
  unfold rN;rw[rj,w8,← cX];refine ((mU _).add (.refl _)).trans fun i hi j hj=>Eqm.of ?_;have hr:R[i]?=some R[i]:=List.getElem?_eq_getElem hi;have hc:(s::C)[j]?=some (s::C)[j]:=List.getElem?_eq_getElem hj;show mx R (s::C) e i j + - a7 1 (a7 (C.length+1) (mx R (s::C) e) fun k _=>if k=0 then b else 0) (mx [t] (s::C) e) i j=_;have e1:a7 (C.length+1) (mx R (s::C) e) (fun k _=>if k=0 then b else 0) i 0=e R[i] s * b:=by
   unfold a7;rw[ag (g:=fun k=>(mx R (s::C) e i k * b) * (if k=0 then 1 else 0)) (fun k _=>by by_cases q:k=0 <;> simp[q]),nH _ 0 (by omega),fW hr (c:=s) rfl]
  have e2:a7 1 (a7 (C.length+1) (mx R (s::C) e) fun k _=>if k=0 then b else 0) (mx [t] (s::C) e) i j=e R[i] s * b * e t (s::C)[j]:=by
   show aw [0] _=_;rw[cd,fj,Int.add_zero,e1,fW (r:=t) rfl hc]
  rw[e2,fW hr hc,fW hr hc];unfold pvE;rw[Int.mul_assoc];omega
 have h4:rkL p R (s::C) (pvE e t s b)=rkL p R C (pvE e t s b):=Af hp (fun _=>0) fun r _=>by
  have:(C.map fun c=>pvE e t s b r c * 0).sum=0:=by rw[je,Int.mul_zero]
  rw[this];unfold pvE;have h5:Eqm p (e r s * (b * e t s)) (e r s * 1):=(Eqm.refl _).mul (by rw[Int.mul_comm]; exact hb);have h6:=(Eqm.refl (p:=p) (e r s)).sub h5;rw[Int.mul_one,Int.sub_self] at h6;exact h6
 rw[← h4];unfold rkL;rw[List.length_cons];exact fl hp h3
end
end Go.Pl
namespace Go.Pl
section
variable {p:Int}{α:Type}
theorem em {l m:List Int}(h:l.Perm m):l.sum=m.sum:=by
 induction h with
 | nil=>rfl
 | cons a _ ih=>rw[List.sum_cons,List.sum_cons,ih]
 | swap a b l=>rw[List.sum_cons,List.sum_cons,List.sum_cons,List.sum_cons]; omega
 | trans _ _ h1 h2=>rw[h1,h2]
theorem D7 {a m z S b:Int}(h1:Eqm p (a * m+(z+S)) 0)(h2:Eqm p z 0)(h3:Eqm p (m * b) 1):Eqm p a (S * -b):=by
 have e1:Eqm p (a * m) (-S):=by
  have:=(h1.sub h2).sub (Eqm.refl (p:=p) S);refine (Eqm.of ?_).trans (this.trans (Eqm.of ?_))<;>omega
 have e2:Eqm p (a * (m * b)) (a * 1):=(Eqm.refl a).mul h3;have e3:Eqm p (a * m * b) (-S * b):=e1.mul (.refl b);rw[Int.mul_assoc] at e3;refine (Eqm.of (Int.mul_one a).symm).trans (e2.symm.trans (e3.trans (Eqm.of ?_)));rw[Int.neg_mul,Int.mul_neg]
structure Cx (p:Int)(P:List α)(dm:α→Int)(e:α→α→Int):Prop where
 nd:P.Nodup
 deg:∀ x∈P,∀ y∈P,dm y≠dm x - 1→Eqm p (e x y) 0
 dd:∀ x∈P,∀ z∈P,Eqm p (P.map fun y=>e x y * e y z).sum 0
def grd (P:List α)(dm:α→Int)(d:Int):List α:=P.filter fun x=>decide (dm x=d)
theorem dp {P:List α}{dm:α→Int}{d:Int}{x:α}:x∈grd P dm d↔x∈P∧dm x=d:=by
 unfold grd;rw[List.mem_filter,decide_eq_true_eq]
noncomputable def rkG (p:Int) (P:List α) (dm:α→Int) (e:α→α→Int) (d:Int):Nat:=rkL p (grd P dm d) (grd P dm (d - 1)) e
noncomputable def zH (p:Int) (P:List α) (dm:α→Int) (e:α→α→Int) (d:Int):Int:=(grd P dm d).length - (rkG p P dm e d:Int) - (rkG p P dm e (d+1):Int)
section
variable {P P':List α}{dm:α→Int}{e:α→α→Int}{t s:α}{b:Int}(hp:Fld p)(h:Cx p P dm e)(hP:P.Perm (t::s::P'))(hd:dm s=dm t - 1)(hb:Eqm p (e t s * b) 1)
include hP
theorem kF (f:α→Int):(P.map f).sum=f t+(f s+(P'.map f).sum):=by
 rw[em (hP.map f),List.map_cons,List.map_cons,List.sum_cons,List.sum_cons]
theorem fo {x:α}:x∈P↔x=t∨x=s∨x∈P':=by
 rw[hP.mem_iff,List.mem_cons,List.mem_cons]
include h
theorem C3:t≠s∧t ∉ P'∧s ∉ P'∧P'.Nodup:=by
 have h1:=hP.nodup_iff.1 h.nd;rw[List.nodup_cons,List.nodup_cons,List.mem_cons] at h1;exact⟨fun k=>h1.1 (.inl k),fun k=>h1.1 (.inr k),h1.2.1,h1.2.2⟩
include hb
omit hP h in
theorem Ec (x:α):Eqm p (pvE e t s b x s) 0:=by
 unfold pvE;have h5:Eqm p (e x s * (b * e t s)) (e x s * 1):=(Eqm.refl _).mul (by rw[Int.mul_comm]; exact hb);have h6:=(Eqm.refl (p:=p) (e x s)).sub h5;rw[Int.mul_one,Int.sub_self] at h6;exact h6
omit hP h in
theorem Gl (z:α):Eqm p (pvE e t s b t z) 0:=by
 unfold pvE;have h5:Eqm p (e t s * (b * e t z)) (1 * e t z):=by rw[← Int.mul_assoc]; exact hb.mul (.refl _)
 have h6:=(Eqm.refl (p:=p) (e t z)).sub h5;rw[Int.one_mul,Int.sub_self] at h6;exact h6
omit hb in
theorem GR {x z:α}(hx:x∈P)(hz:z∈P):Eqm p (P.map fun y=>pvE e t s b x y * pvE e t s b y z).sum 0:=by
 have ht:t∈P:=(fo hP).2 (.inl rfl);have hs:s∈P:=(fo hP).2 (.inr (.inl rfl));have e1:(P.map fun y=>pvE e t s b x y * pvE e t s b y z).sum=(P.map fun y=>e x y * e y z).sum+(P.map fun y=>e x y * e y s).sum * (-(b * e t z))+((-(e x s * b)) * (P.map fun y=>e t y * e y z).sum+(e x s * b) * ((P.map fun y=>e t y * e y s).sum * (b * e t z))):=by
  rw[← je,← kC,← mM,← je (f:=fun y=>e t y * e y s),← mM,← kC,← kC];congr 1;refine List.map_congr_left fun y _=>?_;unfold pvE;simp only[Int.sub_mul,Int.mul_sub,Int.neg_mul,Int.mul_neg,Int.mul_assoc];omega
 rw[e1];have a1:=h.dd x hx z hz;have a2:=(h.dd x hx s hs).mul (Eqm.refl (p:=p) (-(b * e t z)));have a3:=(Eqm.refl (p:=p) (-(e x s * b))).mul (h.dd t ht z hz);have a4:=(Eqm.refl (p:=p) (e x s * b)).mul ((h.dd t ht s hs).mul (Eqm.refl (p:=p) (b * e t z)));rw[Int.zero_mul] at a2 a4;rw[Int.mul_zero] at a3 a4;have:=(a1.add a2).add (a3.add a4);exact this
theorem Cx.step (hd:dm s=dm t - 1):Cx p P' dm (pvE e t s b):=by
 have hsub:∀ {x},x∈P'→x∈P:=fun hx=>(fo hP).2 (.inr (.inr hx));have ht:t∈P:=(fo hP).2 (.inl rfl);have hs:s∈P:=(fo hP).2 (.inr (.inl rfl));refine⟨(C3 h hP).2.2.2,fun x hx y hy hne=>?_,fun x hx z hz=>?_⟩
 ·unfold pvE;have h1:=h.deg x (hsub hx) y (hsub hy) hne;have h2:Eqm p (e x s * (b * e t y)) 0:=by
   by_cases k:dm s=dm x - 1
   ·have h3:=h.deg t ht y (hsub hy) (by omega);have:=(Eqm.refl (p:=p) (e x s)).mul ((Eqm.refl (p:=p) b).mul h3);rw[Int.mul_zero,Int.mul_zero] at this;exact this
   ·have:=(h.deg x (hsub hx) s hs k).mul (Eqm.refl (p:=p) (b * e t y));rw[Int.zero_mul] at this;exact this
  have:=h1.sub h2;exact this
 ·have h1:=GR (b:=b) h hP (hsub hx) (hsub hz);rw[kF hP] at h1;have h2:=(Eqm.refl (p:=p) (pvE e t s b x t)).mul (Gl hb z);have h3:=(Ec hb x).mul (Eqm.refl (p:=p) (pvE e t s b s z));rw[Int.mul_zero] at h2;rw[Int.zero_mul] at h3;have h4:=h1.sub (h2.add h3);refine (Eqm.of ?_).trans h4;omega
omit h hP hb in
theorem zW {l:List α}{q:α→Bool}{f:α→Int}(hf:∀ x∈l,q x=false→Eqm p (f x) 0):Eqm p (l.map f).sum ((l.filter q).map f).sum:=by
 induction l with
 | nil=>exact .refl _
 | cons a l ih =>
  have h1:=ih fun x hx=>hf x (by simp[hx]);rw[List.map_cons,List.sum_cons,List.filter_cons];cases hq:q a with
  | true =>
   rw[if_pos rfl,List.map_cons,List.sum_cons];exact (Eqm.refl _).add h1
  | false =>
   rw[if_neg (by simp)];have h2:=(hf a (by simp) hq).add h1;rw[Int.zero_add] at h2;exact h2
omit h hb in
theorem gh {x:α}{d:Int}:x∈grd P dm d↔(x=t∧dm t=d)∨(x=s∧dm s=d)∨x∈grd P' dm d:=by
 rw[dp,dp,fo hP];constructor
 ·rintro ⟨rfl | rfl | h1,h2⟩
  ·exact .inl ⟨rfl,h2⟩
  ·exact .inr (.inl ⟨rfl,h2⟩)
  ·exact .inr (.inr ⟨h1,h2⟩)
 ·rintro (⟨rfl,h2⟩ | ⟨rfl,h2⟩ | ⟨h1,h2⟩)
  ·exact⟨.inl rfl,h2⟩
  ·exact⟨.inr (.inl rfl),h2⟩
  ·exact⟨.inr (.inr h1),h2⟩
omit h hb in
theorem Fz (d:Int):(grd P dm d).length=(grd P' dm d).length+(if dm t=d then 1 else 0)+if dm s=d then 1 else 0:=by
 unfold grd;rw[(hP.filter _).length_eq,List.filter_cons,List.filter_cons];by_cases h1:dm t=d <;> by_cases h2:dm s=d <;> simp[h1,h2]
include hp
theorem wV (hd:dm s=dm t - 1)(k:Int):rkG p P dm e k=rkG p P' dm (pvE e t s b) k+if k=dm t then 1 else 0:=by
 have hsub:∀ {x},x∈P'→x∈P:=fun hx=>(fo hP).2 (.inr (.inr hx));have ht:t∈P:=(fo hP).2 (.inl rfl);have hs:s∈P:=(fo hP).2 (.inr (.inl rfl));have hsame:∀ x∈P,dm x≠dm t→∀ y,Eqm p (e x y) (pvE e t s b x y):=fun x hx hne y=>by
  have h1:=(h.deg x hx s hs (by omega)).mul (Eqm.refl (p:=p) (b * e t y));rw[Int.zero_mul] at h1;have h2:=(Eqm.refl (p:=p) (e x y)).sub h1.symm;rw[Int.sub_zero] at h2;exact h2
 unfold rkG;by_cases k1:k=dm t
 ·rw[if_pos k1,jQ hp (R':=t::grd P' dm k) (C':=s::grd P' dm (k - 1)) (fun x=>by
   rw[gh hP,List.mem_cons];constructor
   ·rintro (⟨h1,-⟩ | ⟨-,h1⟩ | h1)
    ·exact .inl h1
    ·omega
    ·exact .inr h1
   ·rintro (h1 | h1)
    ·exact .inl ⟨h1,k1.symm⟩
    ·exact .inr (.inr h1)) (fun x=>by
   rw[gh hP,List.mem_cons];constructor
   ·rintro (⟨-,h1⟩ | ⟨h1,-⟩ | h1)
    ·omega
    ·exact .inl h1
    ·exact .inr h1
   ·rintro (h1 | h1)
    ·exact .inr (.inl ⟨h1,by omega⟩)
    ·exact .inr (.inr h1)),Bb hp hb]
  omega
 ·rw[if_neg k1,Nat.add_zero];by_cases k2:k=dm t+1
  ·rw[jQ hp (R':=grd P' dm k) (C':=t::grd P' dm (k - 1)) (fun x=>by
    rw[gh hP];constructor
    ·rintro (⟨-,h1⟩ | ⟨-,h1⟩ | h1)
     ·omega
     ·omega
     ·exact h1
    ·exact fun h1=>.inr (.inr h1)) (fun x=>by
    rw[gh hP,List.mem_cons];constructor
    ·rintro (⟨h1,-⟩ | ⟨-,h1⟩ | h1)
     ·exact .inl h1
     ·omega
     ·exact .inr h1
    ·rintro (h1 | h1)
     ·exact .inl ⟨h1,by omega⟩
     ·exact .inr (.inr h1)),Af hp (fun y=>-(e y s * b)) fun x hx=>?_]
   ·exact kT hp fun x hx y _=>hsame x (hsub (dp.1 hx).1) (by have:=(dp.1 hx).2; omega) y
   ·obtain ⟨hx,hxd⟩:=dp.1 hx;have h1:=h.dd x (hsub hx) s hs;rw[kF hP] at h1;have h2:=(h.deg x (hsub hx) s hs (by omega)).mul (Eqm.refl (p:=p) (e s s));rw[Int.zero_mul] at h2;have h4:Eqm p (P'.map fun y=>e x y * -(e y s * b)).sum ((grd P' dm (k - 1)).map fun y=>e x y * -(e y s * b)).sum:=zW fun y hy hq=>by
     have hy1:dm y≠k - 1:=by simpa using hq
     have h5:=(h.deg x (hsub hx) y (hsub hy) (by omega)).mul (Eqm.refl (p:=p) (-(e y s * b)));rw[Int.zero_mul] at h5;exact h5
    refine Eqm.trans ?_ h4;have h6:(P'.map fun y=>e x y * -(e y s * b)).sum=(P'.map fun y=>e x y * e y s).sum * (-b):=by
     rw[← je];congr 1;exact List.map_congr_left fun y _=>by rw[Int.mul_neg,Int.mul_neg,Int.mul_assoc]
    rw[h6];exact D7 h1 h2 hb
  ·by_cases k3:k=dm s
   ·rw[jQ hp (R':=s::grd P' dm k) (C':=grd P' dm (k - 1)) (fun x=>by
     rw[gh hP,List.mem_cons];constructor
     ·rintro (⟨-,h1⟩ | ⟨h1,-⟩ | h1)
      ·omega
      ·exact .inl h1
      ·exact .inr h1
     ·rintro (h1 | h1)
      ·exact .inr (.inl ⟨h1,k3.symm⟩)
      ·exact .inr (.inr h1)) (fun x=>by
     rw[gh hP];constructor
     ·rintro (⟨-,h1⟩ | ⟨-,h1⟩ | h1)
      ·omega
      ·omega
      ·exact h1
     ·exact fun h1=>.inr (.inr h1)),Ad hp (fun y=>-(b * e t y)) fun c hc=>?_]
    ·exact kT hp fun x hx y _=>hsame x (hsub (dp.1 hx).1) (by have:=(dp.1 hx).2; omega) y
    ·obtain ⟨hc,hcd⟩:=dp.1 hc;have h1:=h.dd t ht c (hsub hc);rw[kF hP] at h1;have h2:=(h.deg t ht t ht (by omega)).mul (Eqm.refl (p:=p) (e t c));rw[Int.zero_mul] at h2;have h4:Eqm p (P'.map fun y=>-(b * e t y) * e y c).sum ((grd P' dm k).map fun y=>-(b * e t y) * e y c).sum:=zW fun y hy hq=>by
      have hy1:dm y≠k:=by simpa using hq
      have h5:=((Eqm.refl (p:=p) b).mul (h.deg t ht y (hsub hy) (by omega))).neg.mul (Eqm.refl (p:=p) (e y c));rw[Int.mul_zero,Int.neg_zero,Int.zero_mul] at h5;exact h5
     refine Eqm.trans ?_ h4;have h6:(P'.map fun y=>-(b * e t y) * e y c).sum=(P'.map fun y=>e t y * e y c).sum * (-b):=by
      rw[← je];congr 1;exact List.map_congr_left fun y _=>by rw[Int.neg_mul,Int.mul_neg,Int.mul_comm b,Int.mul_right_comm]
     rw[h6];refine D7 (m:=e t s) (z:=e t t * e t c) ?_ h2 hb;refine (Eqm.of ?_).trans h1;rw[Int.mul_comm (e s c)];omega
   ·rw[jQ hp (R':=grd P' dm k) (C':=grd P' dm (k - 1)) (fun x=>by
     rw[gh hP];constructor
     ·rintro (⟨-,h1⟩ | ⟨-,h1⟩ | h1)
      ·omega
      ·omega
      ·exact h1
     ·exact fun h1=>.inr (.inr h1)) (fun x=>by
     rw[gh hP];constructor
     ·rintro (⟨-,h1⟩ | ⟨-,h1⟩ | h1)
      ·omega
      ·omega
      ·exact h1
     ·exact fun h1=>.inr (.inr h1))]
    exact kT hp fun x hx y _=>hsame x (hsub (dp.1 hx).1) (by have:=(dp.1 hx).2; omega) y
theorem B6 (hd:dm s=dm t - 1)(d:Int):zH p P dm e d=zH p P' dm (pvE e t s b) d:=by
 unfold zH;rw[wV hp h hP hb hd,wV hp h hP hb hd,Fz hP];by_cases k1:d=dm t
 ·rw[if_pos k1,if_pos k1.symm,if_neg (show ¬ d+1=dm t by omega),if_neg (show ¬ dm s=d by omega)];omega
 ·by_cases k2:d+1=dm t
  ·rw[if_neg k1,if_pos k2,if_neg (show ¬ dm t=d by omega),if_pos (show dm s=d by omega)];omega
  ·rw[if_neg k1,if_neg k2,if_neg (show ¬ dm t=d by omega),if_neg (show ¬ dm s=d by omega)];omega
omit hp h in
theorem Fi {f:α→Int}(hf:f t=0)(hz:Eqm p (P.map fun y=>e t y * f y).sum 0)(x:α):Eqm p (P'.map fun y=>pvE e t s b x y * f y).sum (P.map fun y=>e x y * f y).sum:=by
 have e1:(P.map fun y=>pvE e t s b x y * f y).sum=(P.map fun y=>e x y * f y).sum+(-(e x s * b)) * (P.map fun y=>e t y * f y).sum:=by
  rw[← mM,← kC];congr 1;refine List.map_congr_left fun y _=>?_;unfold pvE;simp only[Int.sub_mul,Int.neg_mul,Int.mul_assoc];omega
 have e2:=kF hP fun y=>pvE e t s b x y * f y;rw[hf,Int.mul_zero,Int.zero_add] at e2;have e3:=(Ec hb x).mul (Eqm.refl (p:=p) (f s));rw[Int.zero_mul] at e3;have e4:=(Eqm.refl (p:=p) (-(e x s * b))).mul hz;rw[Int.mul_zero] at e4;have e5:=((Eqm.refl (p:=p) (P.map fun y=>e x y * f y).sum).add e4).sub e3;refine (Eqm.of ?_).trans (e5.trans (Eqm.of ?_))
 ·rw[← e1,e2];omega
 ·omega
end
theorem pZ [DecidableEq α](hp:Fld p){dm:α→Int}(lv:α→Nat){κ:Type}(f:κ→α→Int)(bd:κ→α→Int)(U:List α):∀ (Q:List (α×α)) (P:List α) (e:α→α→Int),Cx p P dm e→P.Perm (U++Q.flatMap fun q=>[q.1,q.2])→(∀ q∈Q,dm q.2=dm q.1 - 1)→(∀ q∈Q,¬ Eqm p (e q.1 q.2) 0)→(∀ q∈Q,∀ q'∈Q,q≠q'→lv q.1≤lv q'.1→Eqm p (e q.1 q'.2) 0)→(∀ k,∀ q∈Q,f k q.1=0∧Eqm p (bd k q.1) 0)→(∀ k,∀ x∈P,Eqm p (P.map fun y=>e x y * f k y).sum (bd k x)) →
  ∃ e',(∀ d,zH p P dm e d=zH p U dm e' d)∧∀ k,∀ x∈U,Eqm p (U.map fun y=>e' x y * f k y).sum (bd k x)
 | [],P,e,hc,hP,_,_,_,_,hb=>by
  rw[List.flatMap_nil,List.append_nil] at hP;refine⟨e,fun d=>?_,fun k x hx=>?_⟩
  ·have hg:∀ j,∀ x,x∈grd P dm j↔x∈grd U dm j:=fun j x=>by rw[dp,dp,hP.mem_iff]
   have hr:∀ j,rkG p P dm e j=rkG p U dm e j:=fun j=>jQ hp (hg j) (hg (j - 1));unfold zH;rw[hr,hr];have:(grd P dm d).length=(grd U dm d).length:=(hP.filter _).length_eq;rw[this]
  ·have:=hb k x (hP.mem_iff.2 hx);rwa [em (hP.map _)] at this
 | (t,s)::Q,P,e,hc,hP,hd,hu,htri,hf,hb=>by
  have hP1:P.Perm (t::s::(U++Q.flatMap fun q=>[q.1,q.2])):=by
   refine hP.trans ?_;rw[List.flatMap_cons];show (U++(t::s::_)).Perm _;exact List.perm_middle.trans ((List.perm_middle).cons t)
  have hd1:=hd (t,s) (by simp);obtain ⟨b,hb1⟩:=hp.2 _ (hu (t,s) (by simp));have hstep:=hc.step hP1 hb1 hd1;have htP:t∈P:=hP1.mem_iff.2 (by simp);have hsP:s∈P:=hP1.mem_iff.2 (by simp);have hnd:=hP1.nodup_iff.1 hc.nd;have hne:∀ q∈Q,q≠(t,s):=fun q hq k=>by
   subst k;rw[List.nodup_cons] at hnd;exact hnd.1 (by
    rw[List.mem_cons,List.mem_append,List.mem_flatMap];exact .inr (.inr ⟨_,hq,by simp⟩))
  have hPt:∀ k,Eqm p (P.map fun y=>e t y * f k y).sum 0:=fun k=>(hb k t htP).trans (hf k (t,s) (by simp)).2;have hoff:∀ q∈Q,∀ q'∈Q,lv q.1≤lv q'.1→Eqm p (e q.1 s * (b * e t q'.2)) 0:=fun q hq q' hq' hl=>by
   by_cases hl2:lv q.1≤lv t
   ·have:=(htri q (by simp[hq]) (t,s) (by simp) (hne q hq) hl2).mul (Eqm.refl (p:=p) (b * e t q'.2));rw[Int.zero_mul] at this;exact this
   ·have:=(Eqm.refl (p:=p) (e q.1 s)).mul ((Eqm.refl (p:=p) b).mul (htri (t,s) (by simp) q' (by simp[hq']) (fun h=>hne q' hq' h.symm) (by show lv t≤lv q'.1; omega)));rw[Int.mul_zero,Int.mul_zero] at this;exact this
  have a1:∀ q∈Q,¬ Eqm p (pvE e t s b q.1 q.2) 0:=fun q hq k=>by
   refine hu q (by simp[hq]) ?_;have h4:=k.add (hoff q hq q hq (Nat.le_refl _));refine (Eqm.of ?_).trans h4;exact (Int.sub_add_cancel _ _).symm
  have a2:∀ q∈Q,∀ q'∈Q,q≠q'→lv q.1≤lv q'.1→Eqm p (pvE e t s b q.1 q'.2) 0:=fun q hq q' hq' hqq hl =>
   (htri q (by simp[hq]) q' (by simp[hq']) hqq hl).sub (hoff q hq q' hq' hl)
  have a3:∀ k,∀ x∈U++Q.flatMap (fun q=>[q.1,q.2]),Eqm p ((U++Q.flatMap fun q=>[q.1,q.2]).map fun y=>pvE e t s b x y * f k y).sum (bd k x):=fun k x hx =>
   (Fi hP1 hb1 (hf k (t,s) (by simp)).1 (hPt k) x).trans (hb k x (hP1.mem_iff.2 (by rw[List.mem_cons,List.mem_cons]; exact .inr (.inr hx))))
  have hrec:=pZ hp lv f bd U Q (U++Q.flatMap fun q=>[q.1,q.2]) (pvE e t s b) hstep (.refl _) (fun q hq=>hd q (by simp[hq])) a1 a2 (fun k q hq=>hf k q (by simp[hq])) a3;obtain ⟨e',h1,h2⟩:=hrec;exact⟨e',fun d=>by rw[B6 hp hc hP1 hb1 hd1,h1],h2⟩
end
end Go.Pl
namespace Go.Sy
open Go
section
variable {P:Program}{N:Nat}{E:World}{dst:Option Tmp}{ty:TypeId}{pos:String}{af:Array Edge}{gd:Option (Nat×Bool)}{f:Fr}{g:PH}{s:Own}
theorem SU.mkFuncB {n:FuncId}{l:List Operand}{vs:List Value}(hl:evs f l=some vs):SU P N ⟨dst,.makeFunc (.func n) l.toArray #[],ty,pos,af,gd⟩ f (.func (.func n) vs.toArray #[]):=fun a w ha=>by
 simp[execOp,Instr.makeFunc,ha.evs hl]
def Ck (P:Program)(E:World)(v:Value)(args:List Value)(g:PH)(s:Own)(R:Value→PH→Own→Prop):Prop :=
 ∃ n fst,v = .func (.func n) fst #[]∧(∀ args w,(callFunc n args).run P w = .ok (.enter n args) w)∧Ctr P E n (fst++args.toArray) g s R
theorem SO.callB {x:Operand}{l:List Operand}{tys:Array TypeId}{v:Value}{vs:List Value}{R:Value→PH→Own→Prop}(hx:ev f x=some v)(hl:evs f l=some vs)(hc:Ck P E v vs g s R) :
  SO P N E ⟨dst,.call ⟨.value x,l.toArray,tys⟩,ty,pos,af,gd⟩ f g s R:=by
 intro a w ha hw Q next hn;obtain ⟨n,fst,rfl,hcall,hfn⟩:=hc;unfold Oper.wp;have hr:(execOp a.eval ⟨dst,.call ⟨.value x,l.toArray,tys⟩,ty,pos,af,gd⟩).run P w = .ok (.enter n (fst++vs.toArray)) w:=by
  simp[execOp,resolve,ha.ev hx,Deferred.ofValue,invoke,hcall,ha.evs hl]
 rw[hr];refine (hfn w hw).mono fun e w' he=>?_;obtain ⟨u,g',s',rfl,hw',hR⟩:=he;exact hn u g' s' w' hR hw'
theorem SU.minF {x y:Operand}{T U:TypeId}{m n:Int}(hx:ev f x=some (vi m))(hy:ev f y=some (vi n)) :
  SU P N ⟨dst,.call ⟨.builtin .min,#[x,y],#[T,U]⟩,ty,pos,af,gd⟩ f (vi (min m n)):=fun a w ha=>by
 have h:=run_min_int2 (P:=P) (w:=w) #[T,U] ty .i64 .i64 m n;have h2:(if n<m then n else m)=min m n:=by split <;> omega
 rw[h2] at h;simp[execOp,resolve,invoke,builtin,ha.ev hx,ha.ev hy,h]
theorem SU.maxF {x y:Operand}{T U:TypeId}{m n:Int}(hx:ev f x=some (vi m))(hy:ev f y=some (vi n)) :
  SU P N ⟨dst,.call ⟨.builtin .max,#[x,y],#[T,U]⟩,ty,pos,af,gd⟩ f (vi (max m n)):=fun a w ha=>by
 have h:=run_max_int2 (P:=P) (w:=w) #[T,U] ty .i64 .i64 m n;have h2:(if m<n then n else m)=max m n:=by split <;> omega
 rw[h2] at h;simp[execOp,resolve,invoke,builtin,ha.ev hx,ha.ev hy,h]
end
end Go.Sy
namespace Go.Proofs.YtkbagdedfdfjhaaGreatDoor
open _root_.Go.Proofs.Tryz _root_.Go.Proofs.YtkbagdedfdfjhaaGreatDoor.Tryz
open Go Go.Sy Go.Pl Go.Proofs
set_option maxRecDepth 100000
def Fp (p:Int):Prop:=p=2∨p=3∨p=5∨p=7
theorem Fp.fld {p:Int}(h:Fp p):Fld p:=tf h
theorem Fp.lt {p:Int}(h:Fp p):2≤p∧p≤7:=by
 rcases h with rfl | rfl | rfl | rfl <;> omega
theorem fL {p:Int}:fV p=true↔Fp p:=by
 unfold fV Fp;simp only[Bool.or_eq_true,zi8];omega
theorem lG (E:World)(g:PH)(s:Own)(p:Int)(h2:2≤p)(h9:p<9) :
  Ctr Tryz.prog E 26 #[vi p] g s (fun r g' s'=>r=vb (fV p)∧g=g'∧s=s'):=by
 refine za9 (args:=[vi p]) func26 I ntmps26 (bE I) ?_;refine rZ (aT I (sQ (sW I (lU (SU.eq (v':=vb false) (lS I I) (zd6 vb (zf2 oM))) (lM I (yC I (lY I I I (SU.eq (v':=vb false) (gR I I) (zd6 vb (zf2 oM))) (yF I (tZ (cF I (kP (tN (sQ (rZ (aT I (bK ?_))))))))))))))));refine oP (ι:=Nat) (fun k=>[(0,vi p),(3,vi k)]) (fun _=>g) (fun _=>s) (fun k=>k=2∨(k=3∧(p=5∨p=7))) (fun k=>3 - k) 2 sB I I (.inl I) ?_;rintro k hk;have hk3:(k:Int)=2∨(k:Int)=3∧(p=5∨p=7):=oM;refine sQ (sW rfl (lM rfl (lU (SU.eq (v':=vi ((k:Int) * k)) (SU.mulW rfl rfl) (zd6 vi (zk4 _ (by rcases hk3 with h | ⟨h,_⟩ <;> rw[h] <;> omega)))) ?_)));refine lM I (lU (SU.leq I I) (tZ ?_));refine iP I (fun hle=>?_) (fun hle=>?_)
 ·have hk2:k=2:=by
   rcases hk with h | ⟨h,h'⟩
   ·exact h
   ·subst h;have:(((3:Nat):Int) * ((3:Nat):Int))=9:=rfl;rw[this] at hle;omega
  subst hk2;have h4:4≤p:=by
   have:(((2:Nat):Int) * ((2:Nat):Int))=4:=rfl;rw[this] at hle;omega
  refine kP (tN (sQ (bK (sW I (lM I (lU (SU.eq (v':=vi (p % 2)) (zd3 I I dC) (zd6 vi (by rw[Int.tmod_eq_emod_of_nonneg oM]; rfl))) ?_))))));refine yE I (tZ ?_);refine iP I (fun hr=>?_) (fun hr=>?_)
  ·refine rZ (aT I (rE (bR (tR (tR (bR (tR ?_)))))));have:fV p=false:=by
    rw[Bool.eq_false_iff,Ne,fL];rintro (h | h | h | h)<;>omega
   rw[this];exact za6 (.inl I) results26 I ⟨I,I,I⟩
  ·refine kP (bN (tN (rG (lM I (yD I (lA I (nL ?_)))))));exact gA 3 sB I I (.inr ⟨I,oM⟩) dC
 ·refine xI (tX (tX (bX (tN (rZ (aT I (rE ?_)))))));have hp:fV p=true:=by
   rw[fL]
   rcases hk with h | ⟨h,h'⟩
   ·subst h;have:(((2:Nat):Int) * ((2:Nat):Int))=4:=rfl;rw[this] at hle;unfold Fp;omega
   ·unfold Fp;omega
  rw[hp];exact za6 (.inl I) results26 I ⟨I,I,I⟩
theorem qr (E:World)(g:PH)(s:Own)(p:Int)(hp:Fp p)(R C:Nat)(hr:R≤400)(hc:C≤400) :
  Ctr Tryz.prog E 117 #[vi p,vi R,vi C] g s (fun x g' s'=>x=vb true∧g=g'∧s=s'):=by
 have hl:=hp.lt;have hps:fV p=true:=fL.2 hp;refine za9 (args:=[vi p,vi R,vi C]) func117 I ntmps117 (bE I) ?_;refine rZ (aT I (sW I (lW (cL call26 I (by have:=lG E g s p oM oM; rw[hps] at this; exact this)) ?_)));rintro _ _ _ ⟨rfl,rfl,rfl⟩;refine lM I (yC I (yC I (lY I I I (SU.minF I I) (lY I I I (SU.eq (v':=vb true) (gQ I I) (zd6 vb (zf3 oM))) (yP I (lM I (yC I (yC I (lY I I I (SU.maxF I I) (lY I I I (SU.eq (v':=vb true) (SU.leq I I) (zd6 vb (zf3 oM))) (yP I (aT I (rE ?_)))))))))))));exact za6 (.inl I) results117 I ⟨I,I,I⟩
theorem zB {r c:Nat}(hr:r≤400)(hc:c≤400):r * c≤160000:=Nat.mul_le_mul hr hc
def FmR (g:PH)(v:Value)(p:Int)(R C:Nat)(A:List Int):Prop:=∃ q c,v = .agg #[vi p,vi R,vi C,.slice q A.length c]∧bJ g (.slice q A.length c) A
theorem Tryz.build62 (m r c:Int)(p:Option Addr)(n k:Nat)(w:World):(Instr.build 62 #[(0,vi m),(1,vi r),(2,vi c),(3,.slice p n k)]).run Tryz.prog w = .ok (.agg #[vi m,vi r,vi c,.slice p n k]) w:=by
 have h1:∀ n,(vi n).cells = #[vi n]:=fun _=>rfl;have h2:(Value.slice p n k).cells = #[.slice p n k]:=rfl;simp[Instr.build,Instr.fill,h1,h2];rfl
theorem td (E:World)(g:PH)(s:Own)(p:Int)(hp:Fp p)(r c:Nat)(hr:r≤400)(hc:c≤400) :
  Ctr Tryz.prog E 69 #[vi p,vi r,vi c] g s (fun x g' s'=>g=g'∧∃ b,x = .agg #[vi p,vi r,vi c,.slice (some ⟨b,0,none⟩) (r * c) (r * c)]∧s'=rowA encInt 3 (.slice (some ⟨b,0,none⟩) (r * c) (r * c)) (List.replicate (r * c) 0)::s):=by
 have hm:=zB hr hc;refine za9 (args:=[vi p,vi r,vi c]) func69 I ntmps69 (bE I) ?_;refine rZ (bW (aL zk9) fun b6=>?_);refine tZ (sQ (sW I (lM I (lM I (lW (cL call117 I (qr E g _ p hp r c hr hc)) ?_)))));rintro _ _ _ ⟨rfl,rfl,rfl⟩;refine lU (SU.not I) (tZ (cF I (kP (tN (sW I (lM I (lM I (lM I (lM I (lU (SU.eq (v':=vi ((r * c:Nat))) (SU.mulW I I) (zd6 vi (by rw[← Int.natCast_mul]; exact zk4 _ oM))) ?_))))))))));refine lW (mK encInt 0 sty25 I I I oM oM) ?_;rintro _ _ _ ⟨b15,rfl,rfl,rfl⟩;refine lU (za1 I (build62 _ _ _ _ _ _)) ?_;refine oZ (sK 1 fu rfl rfl rfl rfl rfl (by (repeat' (first | exact trivial | refine⟨by rfl,?_⟩)))) ?_;refine tZ (rE ?_);exact ST.retCD 1 _ (.inl I) results69 I pd fu I I (.cons_cons _ (.cons _ (.refl _))) ⟨I,_,I,I⟩
end Go.Proofs.YtkbagdedfdfjhaaGreatDoor
