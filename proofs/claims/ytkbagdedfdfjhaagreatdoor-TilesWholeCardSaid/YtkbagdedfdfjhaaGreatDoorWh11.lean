/- 11 -/
import Derived.Test.YtkbagdedfdfjhaaGreatDoorWh10
import Derived.Test.YtkbagdedfdfjhaaGreatDoorWh04
import Derived.Test.YtkbagdedfdfjhaaGreatDoorWh09
import Derived.Test.YtkbagdedfdfjhaaGreatDoorWh02
import Derived.Test.YtkbagdedfdfjhaaGreatDoorWh03
import Derived.Scope
import Derived.Below
set_option linter.unusedSimpArgs false
set_option linter.unusedVariables false
namespace Go.Proofs.YtkbagdedfdfjhaaGreatDoor
open _root_.Go.Proofs.Tryz _root_.Go.Proofs.YtkbagdedfdfjhaaGreatDoor.Tryz
open Go Go.Sy Go.Pl Go.Proofs
set_option maxRecDepth 100000
set_option maxHeartbeats 1000000
theorem cf (n:Nat):c8 n=[]∧n=0∨c8 n=[(n:Int)]∧n≠0:=by
 unfold c8;split
 ·exact .inl ⟨I,by assumption⟩
 ·exact .inr ⟨I,by assumption⟩
theorem pd (n:Nat):dH [(n:Int),0]=c8 n:=by
 rw[← gh n];simp[dH]
theorem j9 (m:Nat)(k:Int)(hk:32≤k)(hk2:k≤64)(h:m<4294967296):(m:Int).fdiv (2 ^ min k.toNat IntKind.u64.bits)=0:=by
 have h1:min k.toNat IntKind.u64.bits=k.toNat:=Nat.min_eq_left (by simp only[IntKind.bits]; omega);have h2:(2:Int) ^ k.toNat=((2 ^ k.toNat:Nat):Int):=by simp
 rw[h1,h2,mA];have h3:2 ^ 32≤2 ^ k.toNat:=Nat.pow_le_pow_right dC oM;have h4:(2:Nat) ^ 32=4294967296:=by decide
 rw[h4] at h3;rw[Nat.div_eq_of_lt oM];rfl
theorem EE {n:Int}(h:0≤n∧n<18446744073709551616):IntKind.u64.wrap n=n:=by rw[vq]; omega
def Dd (la:List Int)(n:Nat)(i:Nat):List Int:=if i=0 then List.replicate (la.length+1) 0 else [(n:Int),0]
theorem uF (E:World)(g:PH)(s:Own)(v u:Value)(n m:Nat)(hv:SlA gv g v (c8 n))(hu:SlA gv g u (c8 m))(h:n+m<4294967296) :
  Ctr Tryz.prog E 121 #[v,u] g s (fun r g' s'=>s=s'∧Le g g'∧SlA gv g' r (c8 (n+m))):=by
 obtain ⟨p1,c1,rfl⟩:=za2 hv;obtain ⟨p2,c2,rfl⟩:=za2 hu;have hl0:∀ k,(c8 k).length≤1:=fun k=>by rcases cf k with ⟨h,-⟩ | ⟨h,-⟩ <;> rw[h] <;> simp
 have hl1:=hl0 n;have hl2:=hl0 m;refine za9 (args:=[.slice p1 (c8 n).length c1,.slice p2 (c8 m).length c2]) func121 I ntmps121 (bE I) ?_;refine rZ (aT I ?_);refine SC.cut (ι:=Value×Value×Nat×Nat) (fun q=>[(0,q.1),(1,q.2.1)]) (fun _=>g) (fun _=>s) (fun q=>SlA gv g q.1 (c8 q.2.2.1)∧SlA gv g q.2.1 (c8 q.2.2.2)∧q.2.2.1+q.2.2.2=n+m∧(c8 q.2.2.2).length≤(c8 q.2.2.1).length) ?_ ?_
 ·refine sW I (lU (eN aY I) (lM I (lU (eN aY I) (yL I (tZ ?_)))));refine iP I (fun hlt=>?_) (fun hlt=>?_)
  ·refine rG (lM I (lM I (lA I (lA I (nL ?_)))));exact za7 (_,_,m,n) sB I I ⟨hu,hv,Nat.add_comm _ _,by dsimp only; omega⟩
  ·refine kP ?_;exact za7 (_,_,n,m) sB I I ⟨hv,hu,I,by dsimp only; omega⟩
 clear hv hu hl1 hl2 p1 p2 c1 c2;rintro ⟨v,u,a,b⟩ ⟨hv,hu,hab,hle⟩;dsimp only at hv hu hab hle ⊢;rw[← hab] at h ⊢;clear hab n m;obtain ⟨p1,c1,rfl⟩:=za2 hv;obtain ⟨p2,c2,rfl⟩:=za2 hu;have hl1:=hl0 a;have hl2:=hl0 b;have hca:=cf a;have hcb:=cf b;generalize c8 a=la at *;generalize c8 b=lb at *;refine sW I (lU (eN aY I) (lU (SU.eq (v':=vi ((la.length+1:Nat))) (aD I I oM) (zd7 vi oM)) (lW (mK gv 0 sty162 I I I oM oM) ?_)));rintro _ _ _ ⟨b19,rfl,rfl,rfl⟩;refine aT I (rZ (aT I (sQ (sW I (lU (eN aY I) (lM I (tZ (bK ?_))))))));refine oP (ι:=Nat) (fun i=>[(0,.slice p1 la.length c1),(1,.slice p2 lb.length c2),(5,.slice (some ⟨b19,0,none⟩) (la.length+1) (la.length+1)),(6,.int .u64 0),(21,vi la.length),(22,vi i)]) (fun _=>g) (fun i=>rowA gv 160 (.slice (some ⟨b19,0,none⟩) (la.length+1) (la.length+1)) (Dd la (a+b) i)::s) (fun i=>i≤la.length) (fun i=>la.length - i) 0
  sB rfl rfl (zf2 _) ?_
 intro i hi;refine rZ (yL I (tZ (sQ ?_)));refine iP I (fun hlt=>?_) (fun hlt=>?_)
 ·rcases hca with ⟨rfl,ha⟩ | ⟨rfl,ha⟩
  ·exact absurd hlt (by simp)
  obtain rfl:i=0:=by simp at hi hlt; omega
  have hb1:=za4 hv Nat.zero_lt_one;refine kP (tN (sQ (bK (sW I (aT I (sW I (lM I (lU (iA aY dM I I hb1 dC (by simp[slen])) ?_))))))));refine lK (eB isAgg160 I (za5 hv) (j:=0) I I) (lM I (lU (SU.eq (v':=.int .u64 (a:Int)) (zd6 I I) (zd7 (Value.int .u64) (by rw[EE oM]; omega))) ?_));refine aT I (sQ (sW I (lM I (lU (eN aY I) (yL I (tZ ?_))))));refine iP I (fun hl=>?_) (fun hl=>?_)
  ·rcases hcb with ⟨rfl,hb⟩ | ⟨rfl,hb⟩
   ·exact absurd hl (by simp)
   have hb2:=za4 hu Nat.zero_lt_one;refine rG (lM I (lM I (lM I (lU (iA aY dM I I hb2 dC (by simp[slen])) ?_))));refine lK (eB isAgg160 I (za5 hu) (j:=0) I I) (lU (SU.eq (v':=.int .u64 ((a+b:Nat):Int)) (zd6 I I) (zd7 (Value.int .u64) (by rw[EE oM]; omega))) ?_);refine aT I (rG (lM I (lM I (lM I (lU (SU.eq (v':=.int .u64 ((a+b:Nat):Int)) (SU.and I I) (zd7 (Value.int .u64) (by rw[ru _ oM,Nat.mod_eq_of_lt h]))) ?_)))));refine lM I (lU (SU.eq (v':=.int .u64 0) (SU.shr I I dC) (zd7 (Value.int .u64) (j9 _ _ dC dC h))) (lU (iA aY dM I I I dC (by simp[slen])) ?_));refine oZ (sT (e:=gv) (a:=((a+b:Nat):Int)) (j:=0) 0 dM I I I (bE I) I) (lA I (nL (bN (tN (rG (yD I (lM I (nL ?_))))))));exact gA 1 sB I I (lR _) Nat.zero_lt_one
  ·rcases hcb with ⟨rfl,hb⟩ | ⟨rfl,hb⟩
   rotate_left
   ·exact absurd hl (by simp)
   subst hb;rw[Nat.add_zero] at h ⊢;refine kP (tN (rG (lM I (lM I (lM I (lU (SU.eq (v':=.int .u64 ((a:Nat):Int)) (SU.and I I) (zd7 (Value.int .u64) (by rw[ru _ oM,Nat.mod_eq_of_lt h]))) ?_))))));refine lM I (lU (SU.eq (v':=.int .u64 0) (SU.shr I I dC) (zd7 (Value.int .u64) (j9 _ _ dC dC h))) (lU (iA aY dM I I I dC (by simp[slen])) ?_));refine oZ (sT (e:=gv) (a:=((a:Nat):Int)) (j:=0) 0 dM I I I (bE I) I) (lA I (nL (bN (tN (rG (yD I (lM I (nL ?_))))))));exact gA 1 sB I I (lR _) Nat.zero_lt_one
 ·obtain rfl:i=la.length:=oM;have hlen:(Dd la (a+b) la.length).length=la.length+1:=by
   unfold Dd;split
   ·simp
   ·simp; omega
  have hfin:dH ((Dd la (a+b) la.length).set la.length 0)=c8 (a+b):=by
   rcases hca with ⟨rfl,ha⟩ | ⟨rfl,ha⟩
   ·rcases hcb with ⟨rfl,hb⟩ | ⟨rfl,hb⟩
    ·subst ha hb; rfl
    ·simp at hle
   ·exact pd _
  refine xI (tX (tX (bX (tN (sW I (lM I (lU (eN aY I) (lM I (lU (iA aY dM I I I oM sL) (oZ (sT (e:=gv) (a:=0) (j:=la.length) 0 dM I I I oM I) (tZ (sQ ?_))))))))))));refine SC.to (g':=g) (s':=rowA gv 160 (.slice (some ⟨b19,0,none⟩) (la.length+1) (la.length+1)) ((Dd la (a+b) la.length).set la.length 0)::s) (fun w hw=>hw) ?_;refine fS fun g1 hle1 hs1=>?_;refine rG (lM I (lW (cL call161 I (ke E g1 _ _ ((Dd la (a+b) la.length).set la.length 0) (by unfold SlA; rw[zh8,hlen]; rw[zh8,hlen] at hs1; exact hs1) (by rw[zh8]; omega))) ?_));rintro v55 _ _ ⟨rfl,rfl,hm⟩;refine aT I (rE ?_);rw[hfin] at hm;exact za6 (.inl I) results121 I ⟨I,hle1,hm⟩
def AX (a b:Nat):Int:=if a<b then -1 else if b<a then 1 else 0
theorem uE (E:World)(g:PH)(s:Own)(v u:Value)(n m:Nat)(hv:SlA gv g v (c8 n))(hu:SlA gv g u (c8 m)) :
  Ctr Tryz.prog E 164 #[v,u] g s (fun r g' s'=>r=vi (AX n m)∧g=g'∧s=s'):=by
 obtain ⟨p1,c1,rfl⟩:=za2 hv;obtain ⟨p2,c2,rfl⟩:=za2 hu
 rcases cf n with ⟨h1,ha⟩ | ⟨h1,ha⟩
 ·rcases cf m with ⟨h2,hb⟩ | ⟨h2,hb⟩
  ·rw[h1] at hv ⊢;rw[h2] at hu ⊢;subst ha hb;refine za9 (args:=[.slice p1 0 c1,.slice p2 0 c2]) func164 I ntmps164 (bE I) ?_;refine rZ (aT I (sQ (bK (sW I (lU (eN aY I) (lM I (lU (eN aY I) (yL I (aT I (cF I (sW I (lU (eN aY I) (lM I (lU (eN aY I) (lU (gR I I) (aT I (cF I (kP ?_))))))))))))))))));refine bN (tN (sQ (sW I (lU (eN aY I) (lU (sU I I oM) (aT I (bK ?_)))))));refine oP (ι:=Unit) (fun _=>[(5,vi (-1))]) (fun _=>g) (fun _=>s) (fun _=>True) (fun _=>0) () ⟨I,trivial⟩ I I trivial ?_;intro _ _;refine sQ (sW I (lU (gQ I I) (tZ (cF I (xI (tX (tX (bX (tN (rZ (aT I (rE ?_))))))))))));exact za6 (.inl I) results164 I ⟨I,I,I⟩
  ·rw[h1] at hv ⊢;rw[h2] at hu ⊢;subst ha;refine za9 (args:=[.slice p1 0 c1,.slice p2 1 c2]) func164 I ntmps164 (bE I) ?_;refine rZ (aT I (sQ (bK (sW I (lU (eN aY I) (lM I (lU (eN aY I) (yL I (aT I (cT I (rZ (aT I (rE (bR (tR ?_)))))))))))))));exact za6 (.inl I) results164 I ⟨zd7 vi (by unfold AX; rw[zf6 oM]),I,I⟩
 ·rcases cf m with ⟨h2,hb⟩ | ⟨h2,hb⟩
  ·rw[h1] at hv ⊢;rw[h2] at hu ⊢;subst hb;refine za9 (args:=[.slice p1 1 c1,.slice p2 0 c2]) func164 I ntmps164 (bE I) ?_;refine rZ (aT I (sQ (bK (sW I (lU (eN aY I) (lM I (lU (eN aY I) (yL I (aT I (cF I (sW I (lU (eN aY I) (lM I (lU (eN aY I) (lU (gR I I) (aT I (cT I (sQ ?_))))))))))))))))));refine rG (aT I (rE (bR (tR ?_))));exact za6 (.inl I) results164 I ⟨zd7 vi (by unfold AX; rw[zf5 oM,zf6 oM]),I,I⟩
  ·rw[h1] at hv ⊢;rw[h2] at hu ⊢;have hb1:=za4 hv Nat.zero_lt_one;have hb2:=za4 hu Nat.zero_lt_one;refine za9 (args:=[.slice p1 1 c1,.slice p2 1 c2]) func164 I ntmps164 (bE I) ?_;refine rZ (aT I (sQ (bK (sW I (lU (eN aY I) (lM I (lU (eN aY I) (yL I (aT I (cF I (sW I (lU (eN aY I) (lM I (lU (eN aY I) (lU (gR I I) (aT I (cF I (kP ?_))))))))))))))))));refine bN (tN (sQ (sW I (lU (eN aY I) (lU (sU I I oM) (aT I (bK ?_)))))));refine oP (ι:=Nat) (fun i=>[(0,.slice p1 1 c1),(1,.slice p2 1 c2),(5,vi ((i:Int) - 1))]) (fun _=>g) (fun _=>s) (fun i=>i≤1∧(i=0→n=m)) (fun i=>i) 1 sB I I ⟨lR _,fun h=>absurd h dC⟩ ?_;rintro i ⟨hi,hz⟩;refine sQ (sW I (lU (gQ I I) (tZ ?_)));refine iP I (fun hge=>?_) (fun hge=>?_)
   ·obtain rfl:i=1:=oM;refine kP (tN (sQ (bK (bK (sQ ?_)))));refine dW [] [(0,2),(1,2),(2,2),(3,1),(4,2),(5,2),(6,2),(7,1),(8,2),(9,2)] zd8 kR ?_;refine yM I (yM I (pU I (iA aY dM I I hb1 dC (by simp[slen])) ?_));refine pK I (eB isAgg160 I (za5 hv) (j:=0) I I) (yM I (yM I (pU I (iA aY dM I I hb2 dC (by simp[slen])) ?_)));refine pK I (eB isAgg160 I (za5 hu) (j:=0) I I) (pU I (lS I I) (pU I (aS I) (pN (tN ?_))));refine iP I (fun hlt=>?_) (fun hlt=>?_)
    ·refine rZ (aT I (rE (bR (bR (tR (tR (bR (tR ?_))))))));exact za6 (.inl I) results164 I ⟨zd7 vi (by unfold AX; rw[zf6 oM]),I,I⟩
    ·refine sQ ?_;refine dW [] [(0,2),(1,2),(2,2),(3,1),(4,2),(5,2),(6,2),(7,1),(8,2),(9,2)] zd8 kR ?_;refine yM I (yM I (pU I (iA aY dM I I hb1 dC (by simp[slen])) ?_));refine pK I (eB isAgg160 I (za5 hv) (j:=0) I I) (yM I (yM I (pU I (iA aY dM I I hb2 dC (by simp[slen])) ?_)));refine pK I (eB isAgg160 I (za5 hu) (j:=0) I I) (pU I (gR I I) (pU I (aS I) (pN (tN ?_))));refine iP I (fun hgt=>?_) (fun hgt=>?_)
     ·refine rZ (aT I (rE (bR (bR (tR (tR (bR (tR ?_))))))));exact za6 (.inl I) results164 I ⟨zd7 vi (by unfold AX; rw[zf5 oM,zf6 oM]),I,I⟩
     ·refine kP (bN (bN (tN (rG (lM I (lU (sU I I oM) (lA I (nL ?_))))))));exact gA 0 sB I I ⟨by decide,fun _=>by omega⟩ dC
   ·refine xI (tX (tX (bX (tN (rZ (aT I (rE ?_)))))));have hnm:=hz oM;exact za6 (.inl I) results164 I ⟨zd7 vi (by unfold AX; rw[zf5 oM,zf5 oM]),I,I⟩
def Ep (la:List Int)(n:Nat)(i:Nat):List Int:=if i=0 then List.replicate la.length 0 else [(n:Int)]
theorem uD (E:World)(g:PH)(s:Own)(v u:Value)(a b:Nat)(hv:SlA gv g v (c8 a))(hu:SlA gv g u (c8 b))(hab:b≤a)(h:a<4294967296) :
  Ctr Tryz.prog E 122 #[v,u] g s (fun r g' s'=>s=s'∧Le g g'∧SlA gv g' r (c8 (a - b))):=by
 obtain ⟨p1,c1,rfl⟩:=za2 hv;obtain ⟨p2,c2,rfl⟩:=za2 hu;have hl0:∀ k,(c8 k).length≤1:=fun k=>by rcases cf k with ⟨h,-⟩ | ⟨h,-⟩ <;> rw[h] <;> simp
 have hl1:=hl0 a;have hl2:=hl0 b;have hca:=cf a;have hcb:=cf b;generalize c8 a=la at *;generalize c8 b=lb at *;refine za9 (args:=[.slice p1 la.length c1,.slice p2 lb.length c2]) func122 I ntmps122 (bE I) ?_;refine rZ (aT I (sW I (lU (eN aY I) (lW (mK gv 0 sty162 I I I oM oM) ?_))));rintro _ _ _ ⟨b11,rfl,rfl,rfl⟩;refine aT I (rZ (aT I (sQ (sW I (lU (eN aY I) (lM I (tZ (bK ?_))))))));refine oP (ι:=Nat) (fun i=>[(0,.slice p1 la.length c1),(1,.slice p2 lb.length c2),(5,.slice (some ⟨b11,0,none⟩) la.length la.length),(6,.int .u64 0),(13,vi la.length),(14,vi i)]) (fun _=>g) (fun i=>rowA gv 160 (.slice (some ⟨b11,0,none⟩) la.length la.length) (Ep la (a - b) i)::s) (fun i=>i≤la.length) (fun i=>la.length - i) 0
  sB rfl rfl (zf2 _) ?_
 intro i hi;refine rZ (yL I (tZ (sQ ?_)));refine iP I (fun hlt=>?_) (fun hlt=>?_)
 ·rcases hca with ⟨rfl,ha⟩ | ⟨rfl,ha⟩
  ·exact absurd hlt (by simp)
  obtain rfl:i=0:=by simp at hi hlt; omega
  have hb1:=za4 hv Nat.zero_lt_one;refine kP (tN (sQ (bK (sW I (aT I (sW I (lM I (lU (iA aY dM I I hb1 dC (by simp[slen])) ?_))))))));refine lK (eB isAgg160 I (za5 hv) (j:=0) I I) (lM I (lU (SU.eq (v':=.int .u64 (a:Int)) (SU.subW I I) (zd7 (Value.int .u64) (by rw[EE oM]; omega))) ?_));refine aT I (sQ (sW I (lM I (lU (eN aY I) (yL I (tZ ?_))))));refine iP I (fun hl=>?_) (fun hl=>?_)
  ·rcases hcb with ⟨rfl,hb⟩ | ⟨rfl,hb⟩
   ·exact absurd hl (by simp)
   have hb2:=za4 hu Nat.zero_lt_one;have hs:a - b<4294967296:=oM;refine rG (lM I (lM I (lM I (lU (iA aY dM I I hb2 dC (by simp[slen])) ?_))));refine lK (eB isAgg160 I (za5 hu) (j:=0) I I) (lU (SU.eq (v':=.int .u64 ((a - b:Nat):Int)) (SU.subW I I) (zd7 (Value.int .u64) (by rw[EE oM]; omega))) ?_);refine aT I (rG (lM I (lM I (lM I (lU (SU.eq (v':=.int .u64 ((a - b:Nat):Int)) (SU.and I I) (zd7 (Value.int .u64) (by rw[ru _ oM,Nat.mod_eq_of_lt hs]))) ?_)))));refine lM I (lU (SU.eq (v':=.int .u64 0) (SU.shr I I dC) (zd7 (Value.int .u64) (j9 _ _ dC dC hs))) (lU (iA aY dM I I I dC (by simp[slen])) ?_));refine oZ (sT (e:=gv) (a:=((a - b:Nat):Int)) (j:=0) 0 dM I I I (bE I) I) (lA I (nL (bN (tN (rG (yD I (lM I (nL ?_))))))));exact gA 1 sB I I (lR _) Nat.zero_lt_one
  ·rcases hcb with ⟨rfl,hb⟩ | ⟨rfl,hb⟩
   rotate_left
   ·exact absurd hl (by simp)
   subst hb;rw[Nat.sub_zero];refine kP (tN (rG (lM I (lM I (lM I (lU (SU.eq (v':=.int .u64 ((a:Nat):Int)) (SU.and I I) (zd7 (Value.int .u64) (by rw[ru _ oM,Nat.mod_eq_of_lt h]))) ?_))))));refine lM I (lU (SU.eq (v':=.int .u64 0) (SU.shr I I dC) (zd7 (Value.int .u64) (j9 _ _ dC dC h))) (lU (iA aY dM I I I dC (by simp[slen])) ?_));refine oZ (sT (e:=gv) (a:=((a:Nat):Int)) (j:=0) 0 dM I I I (bE I) I) (lA I (nL (bN (tN (rG (yD I (lM I (nL ?_))))))));exact gA 1 sB I I (lR _) Nat.zero_lt_one
 ·obtain rfl:i=la.length:=oM;have hlen:(Ep la (a - b) la.length).length=la.length:=by
   unfold Ep;split
   ·simp
   ·simp; omega
  have hfin:dH (Ep la (a - b) la.length)=c8 (a - b):=by
   rcases hca with ⟨rfl,ha⟩ | ⟨rfl,ha⟩
   ·subst ha;rw[Nat.zero_sub]; rfl
   ·exact gh _
  refine xI (tX (tX (bX (tN (sQ (fS fun g1 hle1 hs1=>?_))))));refine rG (lM I (lW (cL call161 I (ke E g1 _ _ (Ep la (a - b) la.length) (by unfold SlA; rw[hlen]; rw[hlen] at hs1; exact hs1) oM)) ?_));rintro v42 _ _ ⟨rfl,rfl,hm⟩;refine aT I (rE ?_);rw[hfin] at hm;exact za6 (.inl I) results122 I ⟨I,hle1,hm⟩
theorem tP {k:Nat}(h:k<4294967296):gC (c8 k)=ju k:=by
 have h1:=ny (k:Int) (by rw[Int.natAbs_natCast]; omega);rw[Int.natAbs_natCast] at h1;rw[← h1];have h2:sH (k:Int)=[(k:Int),0]:=by
  unfold sH;rw[Int.natAbs_natCast,Nat.mod_eq_of_lt h,Nat.div_eq_of_lt h];rfl
 have h3:dH (c8 k)=c8 k:=by
  rcases cf k with ⟨e,h0⟩ | ⟨e,h0⟩
  ·rw[e]; rfl
  ·rw[← gh k,gh k,e,gh k,e]
 unfold gC;rw[h3,h2,pd]
theorem rT {k:Nat}(h:k<18446744073709551616):ju k=[]↔k=0:=by
 refine⟨fun e=>?_,fun e=>by subst e; rfl⟩;have:=mD h;rw[e] at this;exact this.symm
theorem vx {neg:Bool}{k:Nat}{z:Int}(hk:k=z.natAbs)(h:k<4294967296)(hn:k≠0→neg=decide (z<0)):tQ neg (gC (c8 k))=oz z:=by
 rw[tP h];subst hk;show Value.agg #[vb (neg&&decide (ju z.natAbs≠[])),txt (ju z.natAbs)]=Value.agg #[vb (decide (z<0)&&decide (ju z.natAbs≠[])),txt (ju z.natAbs)];by_cases h0:z.natAbs=0
 ·have:ju z.natAbs=[]:=(rT oM).2 h0;rw[this];simp
 ·rw[hn h0]
theorem kO {z:Int}(h:z.natAbs<4294967296):oz z = .agg #[vb (decide (z<0)),txt (ju z.natAbs)]:=by
 show Value.agg #[vb (decide (z<0)&&decide (ju z.natAbs≠[])),txt (ju z.natAbs)]=_;by_cases h0:z.natAbs=0
 ·have:¬ z<0:=oM;simp[this]
 ·have:ju z.natAbs≠[]:=fun e=>h0 ((rT oM).1 e);simp[this]
theorem SU.neqB {P:Program}{N:Nat}{f:Fr}{dst:Option Tmp}{ty:TypeId}{pos:String}{af:Array Edge}{gd:Option (Nat×Bool)}{x y:Operand}{T U:TypeId}{a b:Bool}(hT:P.underlying T=some .bool)(hx:ev f x=some (vb a))(hy:ev f y=some (vb b)) :
  SU P N ⟨dst,.binOp .neq T x y U,ty,pos,af,gd⟩ f (.bool (!(a == b))):=fun ac w ha=>by
 have hg:(eqGuard .neq T x y (.bool a) (.bool b)).run P w = .ok () w:=by simp[eqGuard]
 have hb:=run_neq_bool (P:=P) w T a b hT;simp only[execOp,ha.ev hx,ha.ev hy,Sem.run_bind,hg,zc7,hb];rfl
theorem qB (k:Nat):(c8 k).length<1099511627776:=by rcases cf k with ⟨e,-⟩ | ⟨e,-⟩ <;> rw[e] <;> simp
theorem Cj (b c:Nat):AX b c<0↔b<c:=by
 unfold AX;split
 ·simp; omega
 ·split <;> simp <;> omega
section
variable {A B:List Int}{R K C:Nat}{L:List Int}{i k j:Nat}
end
def en (l:List ai)(x:Int):Int:=(l.map fun s=>if s.cell=x then s.sign else 0).sum
theorem tB (a:ai)(l:List ai)(x:Int):en (a::l) x=(if a.cell=x then a.sign else 0)+en l x:=by simp[en]
theorem Ee {l:List ai}{x:Int}(h:∀ s∈l,s.cell≠x):en l x=0:=by
 induction l with
 | nil=>rfl
 | cons a l ih =>
  rw[tB,zf5 (h a (by simp)),ih fun s hs=>h s (by simp[hs])];rfl
theorem Fl {l:List ai}(h1:l.Pairwise fun a b=>a.cell<b.cell)(h2:∀ s∈l,s.sign=1∨s.sign = -1)(x:Int):(en l x).natAbs≤1:=by
 induction l with
 | nil=>simp[en]
 | cons a l ih =>
  obtain ⟨h3,h4⟩:=zj6.1 h1;rw[tB];by_cases e:a.cell=x
  ·rw[zf6 e,Ee fun s hs=>by have:=h3 s hs; omega]
   rcases h2 a (by simp) with e2 | e2 <;> rw[e2] <;> decide
  ·rw[zf5 e,Int.zero_add];exact ih h4 fun s hs=>h2 s (by simp[hs])
theorem nX {α:Type}(l:List α)(f:α→α)(i j:Nat)(d:α)(hj:j<l.length):(l.modify i f).getD j d=if i=j then f (l.getD j d) else l.getD j d:=by
 rw[zg6,zg6,List.getElem?_modify,gE hj];by_cases e:i=j <;> simp[e]
def ent (M:List (List Int))(i k:Nat):Int:=(M.getD i []).getD k 0
theorem AC {M:List (List Int)}{R C:Nat}(h:gg M R C){i k i' k':Nat}(hi:i<R)(hk:k<C)(z:Int):ent (addAt M i' k' z) i k=if i=i'∧k=k' then IntKind.i64.wrap (ent M i k+z) else ent M i k:=by
 have hl:i<M.length:=by rw[h.1]; exact hi
 have hr:=(h.2 _ (gM hl)).1;have hm:(M.getD i [])=M[i]:=by rw[zg6,gE hl]; rfl
 unfold ent addAt;rw[nX _ _ _ _ _ hl,hm];by_cases e:i'=i
 ·rw[zf6 e,nX _ _ _ _ _ (by rw[hr]; exact hk)];by_cases e2:k'=k
  ·rw[zf6 e2,zf6 ⟨e.symm,e2.symm⟩]
  ·rw[zf5 e2,zf5 (fun h=>e2 h.2.symm)]
 ·rw[zf5 e,zf5 (fun h=>e h.1.symm)]
theorem wR {n:Int}(h:n.natAbs<4611686018427387904):IntKind.i64.wrap n=n:=zk5 _ oM
theorem Cf {M:List (List Int)}{R C:Nat}{rows:List Int}(h:gg M R C)(hR:rows.length=R)(hs:rows.Pairwise (· < ·)){i k k':Nat}(hi:i<R)(hk:k<C)(x:ai)(hb:k=k'→(ent M i k+x.sign).natAbs<4611686018427387904) :
  ent (cJ rows k' M x) i k=ent M i k+if k=k' then (if x.cell=rows.getD i 0 then x.sign else 0) else 0:=by
 have hl:i<rows.length:=oM;have hg:rows.getD i 0=rows[i]:=by rw[zg6,gE hl]; rfl
 rw[hg];unfold cJ;by_cases hc:rows.contains x.cell=true
 ·rw[zf6 hc,AC h hi hk];have hm:=List.contains_iff_mem.1 hc;obtain ⟨j,hj,e⟩:=zc4 hm;have hlb:lbI rows x.cell=j:=by rw[← e]; exact iZ hj hs
  rw[hlb];by_cases e2:k=k'
  ·subst e2;by_cases e3:i=j
   ·subst e3;rw[zf6 ⟨rfl,rfl⟩,zf6 rfl,zf6 e.symm,wR (hb rfl)]
   ·have:x.cell≠rows[i]:=fun e4=>by
     rw[← e] at e4;have h1:=iZ hj hs;have h2:=iZ hl hs;rw[e4] at h1;omega
    rw[zf5 (fun h=>e3 h.1),zf6 rfl,zf5 this,Int.add_zero]
  ·rw[zf5 (fun h=>e2 h.2),zf5 e2,Int.add_zero]
 ·rw[zf5 hc];have:x.cell≠rows[i]:=fun e=>hc (by rw[List.contains_iff_mem,e]; exact gM hl);rw[zf5 this];simp
theorem wx {R C:Nat}{rows:List Int}(hR:rows.length=R)(hs:rows.Pairwise (· < ·)){i k k':Nat}(hi:i<R)(hk:k<C):∀ (l:List ai) {M:List (List Int)},gg M R C→(∀ s∈l,s.sign=1∨s.sign = -1)→(k=k'→(ent M i k).natAbs+l.length<4611686018427387904) →
  ent (l.foldl (cJ rows k') M) i k=ent M i k+if k=k' then en l (rows.getD i 0) else 0
 | [],M,_,_,_=>by simp[en]
 | x::l,M,h,hsg,hb=>by
  have h1:=hsg x (by simp);have hx:x.sign.natAbs=1:=by rcases h1 with e | e <;> rw[e] <;> rfl
  have hst:=Cf h hR hs hi hk x (k':=k') (fun e=>by
   have:=hb e;rw[ze4] at this;have h2:=Int.natAbs_add_le (ent M i k) x.sign;omega)
  rw[zi4,wx hR hs hi hk l (h.step rows k' x) (fun s hs=>hsg s (by simp[hs])) (fun e=>by
   have:=hb e;rw[ze4] at this;rw[hst,zf6 e];have h2:=Int.natAbs_add_le (ent M i k) (if x.cell=rows.getD i 0 then x.sign else 0);have h3:(if x.cell=rows.getD i 0 then x.sign else 0).natAbs≤1:=by split <;> omega
   omega),hst]
  by_cases e:k=k'
  ·rw[zf6 e,zf6 e,zf6 e,tB,Int.add_assoc]
  ·rw[zf5 e,zf5 e,zf5 e];omega
theorem nj {tab:List Cl}{rows cols:List Int}(hs:rows.Pairwise (· < ·))(hc:∀ k<cols.length,(∀ s∈(dY tab (cols.getD k 0)).sides,s.sign=1∨s.sign = -1)∧(dY tab (cols.getD k 0)).sides.length<1099511627776){i k:Nat}(hi:i<rows.length)(hk:k<cols.length):∀ n≤cols.length,
  ent (iT tab rows cols n) i k=if k<n then en (dY tab (cols.getD k 0)).sides (rows.getD i 0) else 0
 | 0,_=>by
  have h0:(List.replicate rows.length (List.replicate cols.length (0:Int))).getD i []=List.replicate cols.length 0:=by
   rw[zg6,List.getElem?_replicate,zf6 hi]; rfl
  unfold ent iT;rw[h0,zg6,List.getElem?_replicate,zf6 hk,zf5 oM];rfl
 | n+1,hn=>by
  have ih:=nj hs hc hi hk n oM;obtain ⟨h1,h2⟩:=hc n oM;rw[iT,wx rfl hs hi hk _ (dP tab rows cols n) h1 (fun e=>by
   rw[ih,zf5 oM];have:(0:Int).natAbs=0:=rfl;omega),ih]
  by_cases e:k=n
  ·subst e;rw[zf5 oM,zf6 rfl,zf6 oM,Int.zero_add]
  ·rw[zf5 e,Int.add_zero];by_cases e2:k<n
   ·rw[zf6 e2,zf6 oM]
   ·rw[zf5 e2,zf5 oM]
theorem wu {C:Nat}:∀ {M:List (List Int)} {i k:Nat},(∀ r∈M,r.length=C)→i<M.length→k<C→M.flatten.getD (i * C+k) 0=ent M i k
 | [],_,_,_,h,_=>by simp at h
 | r::M,0,k,hl,_,hk=>by
  have h1:r.length=C:=hl r (by simp);unfold ent;rw[List.flatten_cons,Nat.zero_mul,Nat.zero_add,zg6,zg7 oM];simp
 | r::M,i+1,k,hl,hi,hk=>by
  have h1:r.length=C:=hl r (by simp);have ih:=wu (M:=M) (i:=i) (k:=k) (fun x hx=>hl x (by simp[hx])) (by simpa using hi) hk;have h2:(i+1) * C+k - r.length=i * C+k:=by rw[h1,Nat.add_mul]; omega
  unfold ent at ih ⊢;rw[List.flatten_cons,zg6,zg8 (by rw[h1,Nat.add_mul]; omega),h2,← zg6,ih];simp
theorem Cc {C:Nat}{M:List (List Int)}(hl:∀ r∈M,r.length=C){n:Int}(h:n∈M.flatten):∃ i k,i<M.length∧k<C∧n=ent M i k:=by
 obtain ⟨r,hr,hn⟩:=List.mem_flatten.1 h;obtain ⟨i,hi,rfl⟩:=zc4 hr;obtain ⟨k,hk,rfl⟩:=zc4 hn;refine⟨i,k,hi,by rw[← hl _ hr]; exact hk,?_⟩;unfold ent;rw[zg6,zg6,gE hi,Option.getD_some,gE hk];rfl
theorem pM {M:List Cl}(h:Rt M){d x:Int}(hx:x∈cd M d):dY (ae M) x∈M∧(dY (ae M) x).dim=d∧(dY (ae M) x).id=x:=by
 unfold cd at hx;rw[h.tab] at hx;obtain ⟨c,hc,rfl⟩:=ze7.1 hx;obtain ⟨hc,hd⟩:=zg9.1 hc;unfold dY;rw[h.tab,h.find hc];exact⟨hc,by simpa using hd,I⟩
theorem wl {l:List Int}{k:Nat}(h:k<l.length):l.getD k 0∈l:=by
 rw[zg6,gE h];exact gM h
theorem xj {M:List Cl}(h:Rt M){c:Cl}(hc:c∈M):c.sides.length<1099511627776:=by
 have h1:=(h.form c hc).cnt;have h2:(c.sides.map ai.cell).length≤(M.map Cl.id).length:=by
  have hnd:(c.sides.map ai.cell).Nodup:=by
   rw[List.Nodup,zj7];exact (h.form c hc).asc.imp fun h=>by omega
  refine hnd.length_le_of_subset fun x hx=>?_;obtain ⟨s,hs,rfl⟩:=ze7.1 hx;obtain ⟨d,hd,-⟩:=(h.form c hc).found s hs;unfold aM at hd;have h3:=List.find?_some hd;have h4:=zj9 hd;simp only[zi9] at h3;exact ze7.2 ⟨d,h4,h3⟩
 simp only[ze2] at h2;have:=h.few;omega
theorem C2 {M:List Cl}(h:Rt M)(d:Int):∀ k<(cd M d).length,(∀ s∈(dY (ae M) ((cd M d).getD k 0)).sides,s.sign=1∨s.sign = -1)∧(dY (ae M) ((cd M d).getD k 0)).sides.length<1099511627776:=fun k hk=>by
 obtain ⟨h1,-,-⟩:=pM h (wl hk);exact⟨(h.form _ h1).sg,xj h h1⟩
def wN (M:List Cl)(d:Int):List Int:=(iT (ae M) (cd M (d - 1)) (cd M d) (cd M d).length).flatten
theorem BW {M:List Cl}(h:Rt M){d:Int}{i k:Nat}(hi:i<(cd M (d - 1)).length)(hk:k<(cd M d).length):(wN M d).getD (i * (cd M d).length+k) 0=en (dY (ae M) ((cd M d).getD k 0)).sides ((cd M (d - 1)).getD i 0):=by
 have hs:=dP (ae M) (cd M (d - 1)) (cd M d) (cd M d).length;unfold wN;rw[wu (fun r hr=>(hs.2 r hr).1) (by rw[hs.1]; exact hi) hk,nj (tA M (d - 1)) (C2 h d) hi hk _ (lR _),zf6 hk]
theorem D4 {M:List Cl}(h:Rt M)(d:Int):∀ n∈wN M d,n.natAbs≤1:=fun n hn=>by
 have hs:=dP (ae M) (cd M (d - 1)) (cd M d) (cd M d).length;obtain ⟨i,k,hi,hk,rfl⟩:=Cc (fun r hr=>(hs.2 r hr).1) hn;rw[hs.1] at hi;rw[nj (tA M (d - 1)) (C2 h d) hi hk _ (lR _),zf6 hk];obtain ⟨h1,-,-⟩:=pM h (wl hk);exact Fl (h.form _ h1).asc (h.form _ h1).sg _
theorem wb (M:List Cl)(d:Int):(wN M d).length=(cd M (d - 1)).length * (cd M d).length:=by
 have hs:=dP (ae M) (cd M (d - 1)) (cd M d) (cd M d).length;unfold wN;rw[ks fun r hr=>(hs.2 r hr).1,hs.1]
theorem Ai {M:List Cl}(hf:M.length≤200)(ht:ae M=M)(d:Int):tK (ae M) (cd M (d - 1)) (cd M d)=((cd M (d - 1)).length,(cd M d).length,wN M d):=by
 have h1:=tM M (d - 1);have h2:=tM M d;rw[ht] at h1 h2;have h3:=wb M d;unfold tK;rw[zf5 (by simp; omega)];split
 ·rename_i h0;rw[h0,Nat.zero_mul] at h3;rw[ze9 h3,h0]
 ·rfl
end Go.Proofs.YtkbagdedfdfjhaaGreatDoor
namespace Go.Sy
open Go Go.MapKept
section
variable {P:Program}{w:World}{t kt et ty:TypeId}{z:Value}{b:Nat}{es:Array MapEntry}{clk:Nat}{l:List (Int×Value)}
end
section
variable {P:Program}{N:Nat}{E:World}{ops:Array Oper}{Q:Exit→Act→World→Prop}{f:Fr}{g:PH}{s:Own}{dst:Option Tmp}{ty:TypeId}{pos:String}{af:Array Edge}{gd:Option (Nat×Bool)}
variable {t kt et:TypeId}{z:Value}{b:Nat}{l:List (Int×Value)}{x y:Operand}{k:Int}
end
end Go.Sy
namespace Go.Sy
open Go
section
variable {P:Program}{N:Nat}{E:World}{f:Fr}{g:PH}{s:Own}{dst:Option Tmp}{ty:TypeId}{pos:String}{af:Array Edge}{gd:Option (Nat×Bool)}
theorem SQ.sof {o:Oper}{v:Value}(h:SQ P N E o f g s v):SO P N E o f g s fun v' g' s'=>v'=v∧g=g'∧s=s':=SO.mono h.so fun _ _ _ ⟨h1,h2,h3⟩=>⟨h1,h2.symm,h3.symm⟩
theorem SQ.loadOne {x:Operand}{T:TypeId}{b o:Nat}{v:Value}(hT:∀ w,(isAgg T).run P w = .ok true w)(hk:∀ w,(sizeOf T).run P w = .ok 1 w)(hx:ev f x=some (pp b o))(hc:eo g s ⟨b,o,none⟩ v) :
  SQ P N E ⟨dst,.load T x,ty,pos,af,gd⟩ f g s (.agg #[v]) :=
 SQ.loadAggAt (vs:=[v]) hT hk hx rfl fun j u hu=>by
  cases j with
  | zero=>simp at hu; subst hu; exact hc
  | succ j=>simp at hu
end
section
variable {α:Type}{k:Nat}{P:Program}{N:Nat}{E:World}{f:Fr}{g:PH}{s:Own}{dst:Option Tmp}{ty:TypeId}{pos:String}{af:Array Edge}{gd:Option (Nat×Bool)}
end
section
variable {P:Program}{N:Nat}{E:World}{f:Fr}{g:PH}{s:Own}{fn:Func}{R:Value→PH→Own→Prop}{e:Exit}
theorem ST.retCCT {T U T' U':TypeId}{t t' u b b' k k':Nat}{cs cs':Array Value}{fr fr':Nat×Nat}{x:Value}(i i':Nat)(s':Own)(he:e = .ret∨e = .normal)(hr:fn.results = #[.cell t T,.cell t' T',.tmp u])(hv:aX f t=some (pp b 0))(hv':aX f t'=some (pp b' 0))(hu:aX f u=some x)
  (hT:∀ w,(isAgg T).run P w = .ok true w) (hk:∀ w,(sizeOf T).run P w = .ok k w) (hT':∀ w,(isAgg T').run P w = .ok true w) (hk':∀ w,(sizeOf T').run P w = .ok k' w)
  (hs:s[i]?=some (pt b (.cells cs U fr))) (hc:cs.size=k) (hsb:s[i']?=some (pt b' (.cells cs' U' fr'))) (hc':cs'.size=k') (hs':s'.Sublist s) (hR:R (.tuple #[.agg cs,.agg cs',x]) g s'):ST N E (bodyPost P fn (oS E R)) e f g s :=
 fun a w ha hw=>by
  have h1:=ef (P:=P) hw hT (by rw[hc]; exact hk) hs;have h1':=ef (P:=P) hw hT' (by rw[hc']; exact hk') hsb;have h2:=ha.at_ t _ hv;have h2':=ha.at_ t' _ hv';have h5:=ha.at_ u _ hu;simp only[Array.getD_eq_getD_getElem?] at h2 h2' h5;have h3:(results fn a.tmps).run P w = .ok (.tuple #[.agg cs,.agg cs',x]) w:=by simp[results,hr,asAddr,pp,h2,h2',h1,h1',h5]
  have h4:oS E R (.returned (.tuple #[.agg cs,.agg cs',x])) w:=⟨_,g,s',rfl,hw.sublist hs',hR⟩
  rcases he with rfl | rfl
  ·exact⟨ha.defers,_,h3,h4⟩
  ·exact⟨ha.defers,_,h3,h4⟩
end
end Go.Sy
namespace Go.Sy
open Go Go.MapKept
instance quiet_scope {Q:Exit→Act→World→Prop}[h:Quiet Q]:Quiet (Exit.noGoto Q):=⟨fun c a a' w hd hq=>h.out c a a' w hd hq⟩
section
variable {P:Program}{N:Nat}{E:World}{Q:Exit→Act→World→Prop}{f:Fr}{g:PH}{s:Own}
theorem SC.scope {c:Code}(h:SC P N E c (Exit.noGoto Q) f g s):SC P N E (.scope c) Q f g s:=fun a w ha hw=>wp_scope_straight (h a w ha hw)
theorem ST.scopeR (h:ST N E Q .ret f g s):ST N E (Exit.noGoto Q) .ret f g s:=h
end
end Go.Sy
namespace Go.Pl
def az (l:List Nat)(f:Nat→Int):Int:=(l.map f).sum
theorem gN (f:Nat→Int):az [] f=0:=rfl
theorem cg (a:Nat)(l:List Nat)(f:Nat→Int):az (a::l) f=f a+az l f:=by simp[az]
theorem iW (l m:List Nat)(f:Nat→Int):az (l++m) f=az l f+az m f:=by simp[az]
theorem qi (l:List Nat)(f g:Nat→Int):az l (fun j=>f j+g j)=az l f+az l g:=by
 induction l with
 | nil=>rfl
 | cons a l ih=>simp only[cg,ih]; omega
theorem cQ (l:List Nat)(c:Int)(f:Nat→Int):az l (fun j=>c * f j)=c * az l f:=by
 induction l with
 | nil=>simp[az]
 | cons a l ih=>simp only[cg,ih,Int.mul_add]
theorem eD (l:List Nat)(c:Int)(f:Nat→Int):az l (fun j=>f j * c)=az l f * c:=by
 induction l with
 | nil=>simp[az]
 | cons a l ih=>simp only[cg,ih,Int.add_mul]
theorem iH (l:List Nat):az l (fun _=>0)=0:=by
 induction l with
 | nil=>rfl
 | cons a l ih=>simp only[cg,ih]; rfl
theorem ak {l:List Nat}{f g:Nat→Int}(h:∀ j∈l,f j=g j):az l f=az l g:=by
 unfold az;rw[List.map_congr_left h]
theorem eC (l m:List Nat)(f:Nat→Nat→Int):az l (fun i=>az m fun j=>f i j)=az m fun j=>az l fun i=>f i j:=by
 induction l with
 | nil=>simp only[gN,iH]
 | cons a l ih=>simp only[cg,ih,qi]
def Eqm (p a b:Int):Prop:=p ∣ a - b
section
variable {p:Int}
theorem Eqm.refl (a:Int):Eqm p a a:=by unfold Eqm; rw[Int.sub_self]; exact Int.dvd_zero p
theorem Eqm.symm {a b:Int}(h:Eqm p a b):Eqm p b a:=by
 unfold Eqm at *;have:=Int.dvd_neg.2 h;rwa [Int.neg_sub] at this
theorem Eqm.trans {a b c:Int}(h:Eqm p a b)(k:Eqm p b c):Eqm p a c:=by
 unfold Eqm at *;have:=Int.dvd_add h k;rwa [show a - b+(b - c)=a - c by omega] at this
theorem Eqm.add {a b c d:Int}(h:Eqm p a b)(k:Eqm p c d):Eqm p (a+c) (b+d):=by
 unfold Eqm at *;have:=Int.dvd_add h k;rwa [show a - b+(c - d)=a+c - (b+d) by omega] at this
theorem Eqm.mul {a b c d:Int}(h:Eqm p a b)(k:Eqm p c d):Eqm p (a * c) (b * d):=by
 unfold Eqm at *;have h1:p ∣ (a - b) * c:=Int.dvd_mul_of_dvd_left h;have h2:p ∣ b * (c - d):=Int.dvd_mul_of_dvd_right k;have:=Int.dvd_add h1 h2;rwa [Int.sub_mul,Int.mul_sub,show a * c - b * c+(b * c - b * d)=a * c - b * d by omega] at this
theorem Eqm.of {a b:Int}(h:a=b):Eqm p a b:=by rw[h]; exact .refl b
theorem Eqm.sum {l:List Nat}{f g:Nat→Int}(h:∀ j∈l,Eqm p (f j) (g j)):Eqm p (az l f) (az l g):=by
 induction l with
 | nil=>exact .refl _
 | cons a l ih =>
  rw[cg,cg];exact (h a (by simp)).add (ih fun j hj=>h j (by simp[hj]))
theorem Eqm.sum0 {l:List Nat}{f:Nat→Int}(h:∀ j∈l,Eqm p (f j) 0):Eqm p (az l f) 0:=by
 have:=Eqm.sum (g:=fun _=>0) h;rwa [iH] at this
def Fld (p:Int):Prop:=¬ Eqm p 1 0∧∀ a,¬ Eqm p a 0→∃ b,Eqm p (a * b) 1
theorem qw (hp:Fld p):∀ (s:Nat) (cs:List Nat) (Y:Nat→Nat→Int),cs.Nodup→s<cs.length→∃ v:Nat→Int,(∃ j∈cs,¬ Eqm p (v j) 0)∧∀ i,i<s→Eqm p (az cs fun j=>Y i j * v j) 0
 | 0,cs,Y,_,hs=>by
  cases cs with
  | nil=>simp at hs
  | cons a l=>exact⟨fun _=>1,⟨a,by simp,hp.1⟩,fun i hi=>by omega⟩
 | s+1,cs,Y,hn,hs=>by
  by_cases hall:∀ j∈cs,Eqm p (Y s j) 0
  ·obtain ⟨v,h1,h2⟩:=qw hp s cs Y hn (by omega);refine⟨v,h1,fun i hi=>?_⟩;by_cases e:i=s
   ·subst e;refine Eqm.sum0 fun j hj=>?_;have:=(hall j hj).mul (Eqm.refl (v j));rwa [Int.zero_mul] at this
   ·exact h2 i (by omega)
  ·have ⟨j0,hj0,hy⟩:∃ j0∈cs,¬ Eqm p (Y s j0) 0:=by
    apply Classical.byContradiction;intro h;exact hall fun j hj=>Classical.byContradiction fun k=>h ⟨j,hj,k⟩
   obtain ⟨b,hb⟩:=hp.2 _ hy;obtain ⟨l1,l2,rfl⟩:=List.append_of_mem hj0;have hn2:(l1++l2).Nodup:=by
    have:=(List.nodup_append.1 hn);refine List.nodup_append.2 ⟨this.1,(List.nodup_cons.1 this.2.1).2,fun x hx y hy=>this.2.2 x hx y (by simp[hy])⟩
   have hnot:∀ j∈l1++l2,j≠j0:=fun j hj e=>by
    subst e;have h3:=List.nodup_append.1 hn
    rcases List.mem_append.1 hj with h | h
    ·exact h3.2.2 j h j (by simp) rfl
    ·exact (List.nodup_cons.1 h3.2.1).1 h
   obtain ⟨v,⟨j1,hj1,hv1⟩,h2⟩:=qw hp s (l1++l2) (fun i j=>Y i j - Y i j0 * b * Y s j) hn2 (by simp at hs ⊢; omega)
   let t:Int:=-(b * az (l1++l2) fun j=>Y s j * v j)
   let w:Nat→Int:=fun j=>if j=j0 then t else v j
   have hw:∀ j∈l1++l2,w j=v j:=fun j hj=>if_neg (hnot j hj);have hsum:∀ i,az (l1++j0::l2) (fun j=>Y i j * w j)=(az (l1++l2) fun j=>Y i j * v j)+Y i j0 * t:=fun i=>by
    rw[iW,cg,iW];have e1:az l1 (fun j=>Y i j * w j)=az l1 fun j=>Y i j * v j:=ak fun j hj=>by rw[hw j (by simp[hj])]
    have e2:az l2 (fun j=>Y i j * w j)=az l2 fun j=>Y i j * v j:=ak fun j hj=>by rw[hw j (by simp[hj])]
    have e3:w j0=t:=if_pos rfl;rw[e1,e2,e3];omega
   refine⟨w,⟨j1,by rcases List.mem_append.1 hj1 with h | h <;> simp[h],by rw[hw j1 hj1]; exact hv1⟩,fun i hi=>?_⟩;rw[hsum i];by_cases e:i=s
   ·subst e;have h3:Eqm p (Y i j0 * t) (-(az (l1++l2) fun j=>Y i j * v j)):=by
     have:=(hb.mul (Eqm.refl (-(az (l1++l2) fun j=>Y i j * v j))));rw[Int.one_mul] at this;refine Eqm.trans (Eqm.of ?_) this;show Y i j0 * -(b * _)=_;rw[Int.mul_neg,Int.mul_neg,Int.mul_assoc]
    have:=(Eqm.refl (az (l1++l2) fun j=>Y i j * v j)).add h3;rwa [Int.add_right_neg] at this
   ·have h4:=h2 i (by omega);refine Eqm.trans (Eqm.of ?_) h4;have h5:(az (l1++l2) fun j=>(Y i j - Y i j0 * b * Y s j) * v j)=(az (l1++l2) fun j=>Y i j * v j)+az (l1++l2) fun j=>-(Y i j0 * b) * (Y s j * v j):=by
     rw[← qi];refine ak fun j _=>?_;rw[Int.sub_mul,Int.neg_mul,Int.mul_assoc (Y i j0 * b)];omega
    rw[h5,cQ];show _+Y i j0 * -(b * _)=_;rw[Int.mul_neg,Int.neg_mul,Int.mul_assoc]
theorem CR (hp:Fld p){r s:Nat}{X Y:Nat→Nat→Int}(h:∀ i,i<r→∀ j,j<r→Eqm p (az (List.range s) fun k=>X i k * Y k j) (if i=j then 1 else 0)):r≤s:=by
 apply Classical.byContradiction;intro hlt;obtain ⟨v,⟨j,hj,hv⟩,h2⟩:=qw hp s (List.range r) Y List.nodup_range (by simp; omega);rw[List.mem_range] at hj;apply hv;have h3:Eqm p (az (List.range r) fun k=>(az (List.range s) fun i=>X j i * Y i k) * v k) (az (List.range r) fun k=>(if j=k then 1 else 0) * v k) :=
  Eqm.sum fun k hk=>(h j hj k (List.mem_range.1 hk)).mul (Eqm.refl _)
 have h4:(az (List.range r) fun k=>(az (List.range s) fun i=>X j i * Y i k) * v k)=az (List.range s) fun i=>X j i * az (List.range r) fun k=>Y i k * v k:=by
  have e:∀ k,(az (List.range s) fun i=>X j i * Y i k) * v k=az (List.range s) fun i=>X j i * (Y i k * v k):=fun k=>by
   rw[← eD];exact ak fun i _=>Int.mul_assoc _ _ _
  simp only[e];rw[eC];exact ak fun i _=>cQ _ _ _
 have h5:Eqm p (az (List.range s) fun i=>X j i * az (List.range r) fun k=>Y i k * v k) 0:=Eqm.sum0 fun i hi=>by
  have:=(Eqm.refl (X j i)).mul (h2 i (List.mem_range.1 hi));rwa [Int.mul_zero] at this
 have h6:∀ n,j<n→(az (List.range n) fun k=>(if j=k then 1 else 0) * v k)=v j:=fun n hn=>by
  induction n with
  | zero=>omega
  | succ n ih =>
   rw[List.range_succ,iW,cg,gN];by_cases e:j=n
   ·subst e;rw[if_pos rfl,Int.one_mul,ak (g:=fun _=>0) (fun k hk=>by rw[if_neg (by have:=List.mem_range.1 hk; omega),Int.zero_mul]),iH];omega
   ·rw[ih (by omega),if_neg e];omega
 rw[h4,h6 r hj] at h3;exact h3.symm.trans h5
structure dx (p:Int)(A:Nat→Nat→Int)(m n r:Nat):Prop where
 thru:∃ X Y:Nat→Nat→Int,∀ i,i<m→∀ j,j<n→Eqm p (A i j) (az (List.range r) fun k=>X i k * Y k j)
 one:∃ L R:Nat→Nat→Int,∀ i,i<r→∀ j,j<r→Eqm p (az (List.range m) fun a=>L i a * az (List.range n) fun b=>A a b * R b j) (if i=j then 1 else 0)
theorem dx.le (hp:Fld p){A A' U V:Nat→Nat→Int}{m n m' n' r r':Nat}(h:dx p A m n r)(h':dx p A' m' n' r')
  (hu:∀ i,i<m'→∀ j,j<n'→Eqm p (A' i j) (az (List.range m) fun a=>U i a * az (List.range n) fun b=>A a b * V b j)):r'≤r:=by
 obtain ⟨X,Y,hXY⟩:=h.thru;obtain ⟨L,R,hLR⟩:=h'.one;refine CR hp (X:=fun i k=>az (List.range m') fun a=>L i a * az (List.range m) fun c=>U a c * X c k) (Y:=fun k j=>az (List.range n') fun b=>(az (List.range n) fun d=>Y k d * V d b) * R b j) fun i hi j hj=>?_;refine Eqm.trans ?_ (hLR i hi j hj);have key:∀ a,a<m'→∀ b,b<n'→Eqm p (az (List.range r) fun k=>(az (List.range m) fun c=>U a c * X c k) * az (List.range n) fun d=>Y k d * V d b) (A' a b):=fun a ha b hb=>by
  refine Eqm.trans ?_ (hu a ha b hb).symm;have e1:(az (List.range r) fun k=>(az (List.range m) fun c=>U a c * X c k) * az (List.range n) fun d=>Y k d * V d b)=az (List.range m) fun c=>U a c * az (List.range n) fun d=>(az (List.range r) fun k=>X c k * Y k d) * V d b:=by
   have f1:∀ k,((az (List.range m) fun c=>U a c * X c k) * az (List.range n) fun d=>Y k d * V d b)=az (List.range m) fun c=>az (List.range n) fun d=>U a c * (X c k * Y k d * V d b):=fun k=>by
    rw[← eD];refine ak fun c _=>?_;rw[← cQ];refine ak fun d _=>?_;simp only[Int.mul_assoc]
   simp only[f1];rw[eC];refine ak fun c _=>?_;rw[eC,← cQ];refine ak fun d _=>?_;rw[cQ,eD]
  rw[e1];exact Eqm.sum fun c hc=>(Eqm.refl _).mul (Eqm.sum fun d hd=>(hXY c (List.mem_range.1 hc) d (List.mem_range.1 hd)).symm.mul (Eqm.refl _))
 have e2:(az (List.range r) fun k=>(az (List.range m') fun a=>L i a * az (List.range m) fun c=>U a c * X c k) * az (List.range n') fun b=>(az (List.range n) fun d=>Y k d * V d b) * R b j)=az (List.range m') fun a=>L i a * az (List.range n') fun b=>(az (List.range r) fun k=>(az (List.range m) fun c=>U a c * X c k) * az (List.range n) fun d=>Y k d * V d b) * R b j:=by
  have f1:∀ k,((az (List.range m') fun a=>L i a * az (List.range m) fun c=>U a c * X c k) * az (List.range n') fun b=>(az (List.range n) fun d=>Y k d * V d b) * R b j)=az (List.range m') fun a=>az (List.range n') fun b=>L i a * (((az (List.range m) fun c=>U a c * X c k) * az (List.range n) fun d=>Y k d * V d b) * R b j):=fun k=>by
   rw[← eD];refine ak fun a _=>?_;rw[← cQ];refine ak fun b _=>?_;simp only[Int.mul_assoc]
  simp only[f1];rw[eC];refine ak fun a _=>?_;rw[eC,← cQ];refine ak fun b _=>?_;rw[cQ,eD]
 rw[e2];exact Eqm.sum fun a ha=>(Eqm.refl _).mul (Eqm.sum fun b hb=>(key a (List.mem_range.1 ha) b (List.mem_range.1 hb)).mul (Eqm.refl _))
theorem dx.turn {A:Nat→Nat→Int}{m n r:Nat}(h:dx p A m n r):dx p (fun i j=>A j i) n m r:=by
 obtain ⟨X,Y,hXY⟩:=h.thru;obtain ⟨L,R,hLR⟩:=h.one;refine⟨⟨fun i k=>Y k i,fun k j=>X j k,fun i hi j hj=>(hXY j hj i hi).trans (Eqm.of (ak fun k _=>Int.mul_comm _ _))⟩,⟨fun i a=>R a i,fun b j=>L j b,fun i hi j hj=>?_⟩⟩;have h1:=hLR j hj i hi;rw[show (if j=i then (1:Int) else 0)=if i=j then 1 else 0 by by_cases e:i=j <;> simp[e,eq_comm]] at h1;refine Eqm.trans (Eqm.of ?_) h1;have f1:∀ a,R a i * (az (List.range m) fun b=>A b a * L j b)=az (List.range m) fun b=>L j b * (A b a * R a i):=fun a=>by
  rw[← cQ];refine ak fun b _=>?_;rw[Int.mul_comm,Int.mul_comm (A b a),Int.mul_assoc]
 simp only[f1];rw[eC];exact ak fun b _=>cQ _ _ _
end
end Go.Pl
namespace Go.Pl
section
variable {p:Int}
theorem gL (n i:Nat)(h:i<n)(f:Nat→Int):(az (List.range n) fun k=>(if i=k then 1 else 0) * f k)=f i:=by
 induction n with
 | zero=>omega
 | succ n ih =>
  rw[List.range_succ,iW,cg,gN];by_cases e:i=n
  ·subst e;rw[if_pos rfl,Int.one_mul,ak (g:=fun _=>0) (fun k hk=>by rw[if_neg (by have:=List.mem_range.1 hk; omega),Int.zero_mul]),iH];omega
  ·rw[ih (by omega),if_neg e];omega
def dg (p:Int)(A:Nat→Nat→Int)(m n:Nat)(v:Nat→Int):Prop:=∃ w:Nat→Int,∀ j,j<n→Eqm p (v j) (az (List.range m) fun a=>w a * A a j)
theorem dg.self {A:Nat→Nat→Int}{m n i:Nat}(h:i<m):dg p A m n (A i):=⟨fun k=>if i=k then 1 else 0,fun j _=>Eqm.of (gL m i h fun k=>A k j).symm⟩
theorem dg.add {A:Nat→Nat→Int}{m n:Nat}{u v:Nat→Int}(c:Int)(h:dg p A m n u)(k:dg p A m n v):dg p A m n fun j=>u j+c * v j:=by
 obtain ⟨x,hx⟩:=h;obtain ⟨y,hy⟩:=k;refine⟨fun a=>x a+c * y a,fun j hj=>((hx j hj).add ((Eqm.refl c).mul (hy j hj))).trans (Eqm.of ?_)⟩;rw[← cQ,← qi];exact ak fun a _=>by rw[Int.add_mul,Int.mul_assoc]
theorem dg.mul {A:Nat→Nat→Int}{m n:Nat}{v:Nat→Int}(c:Int)(k:dg p A m n v):dg p A m n fun j=>c * v j:=by
 obtain ⟨y,hy⟩:=k;refine⟨fun a=>c * y a,fun j hj=>((Eqm.refl c).mul (hy j hj)).trans (Eqm.of ?_)⟩;rw[← cQ];exact ak fun a _=>by rw[Int.mul_assoc]
theorem dg.congr {A:Nat→Nat→Int}{m n:Nat}{u v:Nat→Int}(k:dg p A m n v)(h:∀ j,j<n→Eqm p (u j) (v j)):dg p A m n u:=by
 obtain ⟨y,hy⟩:=k;exact⟨y,fun j hj=>(h j hj).trans (hy j hj)⟩
theorem dg.sum {A:Nat→Nat→Int}{m n:Nat}{B:Nat→Nat→Int}(w:Nat→Int):∀ {l:List Nat},(∀ a∈l,dg p A m n (B a))→dg p A m n fun j=>az l fun a=>w a * B a j
 | [],_=>⟨fun _=>0,fun j _=>Eqm.of (by
   show (0:Int)=_;rw[ak (g:=fun _=>0) (fun a _=>Int.zero_mul _),iH])⟩
 | a::l,h=>by
  have h1:=(dg.sum w fun b hb=>h b (by simp[hb]):dg p A m n fun j=>az l fun a=>w a * B a j);refine (h1.add (w a) (h a (by simp))).congr fun j _=>Eqm.of ?_;rw[cg];omega
theorem dg.trans {A B:Nat→Nat→Int}{m n k:Nat}{v:Nat→Int}(h:dg p B k n v)(hb:∀ a,a<k→dg p A m n (B a)):dg p A m n v:=by
 obtain ⟨w,hw⟩:=h;exact (dg.sum w fun a ha=>hb a (List.mem_range.1 ha)).congr hw
structure kL (p:Int)(A:Nat→Nat→Int)(m n:Nat)(M:Nat→Nat→Int)(J:List Nat)(c:Nat):Prop where
 fwd:∀ i,i<m→dg p A m n (M i)
 bwd:∀ i,i<m→dg p M m n (A i)
 col:∀ j∈J,j<c
 piv:∀ k j,J[k]?=some j→∀ i,i<m→Eqm p (M i j) (if i=k then 1 else 0)
 low:∀ i,J.length≤i→i<m→∀ j,j<c→Eqm p (M i j) 0
 len:J.length≤m
theorem kL.start (A:Nat→Nat→Int)(m n:Nat):kL p A m n A [] 0:=⟨fun _ h=>.self h,fun _ h=>.self h,by simp,by simp,fun _ _ _ j hj=>by omega,Nat.zero_le _⟩
theorem kL.none {A M:Nat→Nat→Int}{m n c:Nat}{J:List Nat}(h:kL p A m n M J c)(h0:∀ i,J.length≤i→i<m→Eqm p (M i c) 0):kL p A m n M J (c+1) :=
 ⟨h.fwd,h.bwd,fun j hj=>by have:=h.col j hj; omega,h.piv,fun i h1 h2 j hj=>by
  by_cases e:j=c
  ·subst e; exact h0 i h1 h2
  ·exact h.low i h1 h2 j (by omega),h.len⟩
theorem kL.pivot {A M M':Nat→Nat→Int}{m n c i0:Nat}{b:Int}{J:List Nat}(h:kL p A m n M J c)(hc:c<n)(h1:J.length≤i0)(h2:i0<m)(hb:Eqm p (b * M i0 c) 1)
  (hM:∀ i,i<m→∀ j,j<n→Eqm p (M' i j) (if i=J.length then b * M i0 j else M (if i=i0 then J.length else i) j - M (if i=i0 then J.length else i) c * (b * M i0 j))):kL p A m n M' (J++[c]) (c+1):=by
 have hr:J.length<m:=by omega
 have hsw:∀ i,i<m→(if i=i0 then J.length else i)<m:=fun i hi=>by split <;> omega
 have rowr:∀ j,j<n→Eqm p (M' J.length j) (b * M i0 j):=fun j hj=>by
  have:=hM J.length hr j hj;rwa [if_pos rfl] at this
 have rown:∀ i,i<m→i≠J.length→∀ j,j<n→Eqm p (M' i j) (M (if i=i0 then J.length else i) j - M (if i=i0 then J.length else i) c * (b * M i0 j)):=fun i hi hne j hj=>by
  have:=hM i hi j hj;rwa [if_neg hne] at this
 have colc:∀ i,i<m→Eqm p (M' i c) (if i=J.length then 1 else 0):=fun i hi=>by
  by_cases e:i=J.length
  ·subst e;rw[if_pos rfl];exact (rowr c hc).trans hb
  ·rw[if_neg e];refine (rown i hi e c hc).trans ?_;have h3:=(Eqm.refl (-(M (if i=i0 then J.length else i) c))).mul hb;have h4:=(Eqm.refl (M (if i=i0 then J.length else i) c)).add h3;rw[Int.mul_one,Int.add_right_neg] at h4;refine (Eqm.of ?_).trans h4;rw[Int.neg_mul];omega
 -- the old rows lie in the new ones
 have old0:dg p M' m n (M i0):=by
  have h3:dg p M' m n fun j=>M i0 c * M' J.length j:=(dg.self hr).mul _;refine h3.congr fun j hj=>?_;have h4:=(Eqm.refl (M i0 c)).mul (rowr j hj);have h5:=hb.mul (Eqm.refl (M i0 j));rw[Int.one_mul] at h5;refine (h5.symm.trans (Eqm.of ?_)).trans h4.symm;rw[← Int.mul_assoc,Int.mul_comm b]
 have old:∀ i,i<m→dg p M' m n (M i):=fun i hi=>by
  by_cases e0:i=i0
  ·subst e0; exact old0
  ·-- i sits at place t of the new matrix
   have ⟨t,ht,htr,hti⟩:∃ t,t<m∧t≠J.length∧(if t=i0 then J.length else t)=i:=by
    by_cases e:i=J.length
    ·exact⟨i0,h2,fun e2=>e0 (by rw[e,e2]),by rw[if_pos rfl]; exact e.symm⟩
    ·exact⟨i,hi,e,if_neg e0⟩
   have h3:dg p M' m n fun j=>M' t j+(M i c * b) * M i0 j:=(dg.self ht).add _ old0;refine h3.congr fun j hj=>?_;have h4:=rown t ht htr j hj;rw[hti] at h4;refine Eqm.symm ((h4.add (Eqm.refl _)).trans (Eqm.of ?_));rw[Int.mul_assoc];omega
 refine⟨fun i hi=>?_,fun i hi=>(h.bwd i hi).trans old,fun j hj=>?_,fun k j hk i hi=>?_,fun i hi1 hi2 j hj=>?_,by simp; omega⟩
 ·by_cases e:i=J.length
  ·subst e;exact ((h.fwd i0 h2).mul b).congr rowr
  ·refine ((h.fwd _ (hsw i hi)).add (-(M (if i=i0 then J.length else i) c * b)) (h.fwd i0 h2)).congr fun j hj=>(rown i hi e j hj).trans (Eqm.of ?_);rw[Int.neg_mul,Int.mul_assoc];omega
 ·rcases List.mem_append.1 hj with h3 | h3
  ·have:=h.col j h3; omega
  ·simp at h3; omega
 ·by_cases hkl:k<J.length
  ·rw[List.getElem?_append_left hkl] at hk;have hjc:j<c:=h.col j (List.mem_of_getElem? hk);have z0:Eqm p (M i0 j) 0:=h.low i0 h1 h2 j hjc;have z1:∀ x,Eqm p (x * M i0 j) 0:=fun x=>by
    have:=(Eqm.refl x).mul z0;rwa [Int.mul_zero] at this
   by_cases e:i=J.length
   ·subst e;rw[if_neg (by omega)];exact (rowr j (by omega)).trans (z1 b)
   ·refine (rown i hi e j (by omega)).trans ?_;have h3:Eqm p (M (if i=i0 then J.length else i) j - M (if i=i0 then J.length else i) c * (b * M i0 j)) (M (if i=i0 then J.length else i) j):=by
     have h4:=z1 (-(M (if i=i0 then J.length else i) c * b));have h5:=(Eqm.refl (M (if i=i0 then J.length else i) j)).add h4;rw[Int.add_zero] at h5;refine (Eqm.of ?_).trans h5;rw[Int.neg_mul,Int.mul_assoc];omega
    refine h3.trans ?_;by_cases e0:i=i0
    ·rw[if_pos e0,if_neg (by omega)];exact h.low J.length (Nat.le_refl _) hr j hjc
    ·rw[if_neg e0];exact h.piv k j hk i hi
  ·have hk2:k=J.length∧j=c:=by
    rw[List.getElem?_append_right (by omega)] at hk;cases hd:k - J.length with
    | zero=>rw[hd] at hk; simp at hk; exact⟨by omega,hk.symm⟩
    | succ d=>rw[hd] at hk; simp at hk
   obtain ⟨rfl,rfl⟩:=hk2;exact colc i hi
 ·rw[List.length_append,List.length_singleton] at hi1;by_cases e:j=c
  ·subst e;have:=colc i hi2;rwa [if_neg (by omega)] at this
  ·have hjc:j<c:=by omega
   have z0:Eqm p (M i0 j) 0:=h.low i0 h1 h2 j hjc;refine (rown i hi2 (by omega) j (by omega)).trans ?_;have h4:=(Eqm.refl (-(M (if i=i0 then J.length else i) c * b))).mul z0;rw[Int.mul_zero] at h4;have h6:Eqm p (M (if i=i0 then J.length else i) j) 0:=h.low _ (by split <;> omega) (hsw i hi2) j hjc;have h5:=h6.add h4;refine (Eqm.of ?_).trans h5;rw[Int.neg_mul,Int.mul_assoc];omega
theorem ze {f:Nat→Int}(w:Nat→Int){r m:Nat}(hr:r≤m)(h:∀ a,r≤a→a<m→Eqm p (f a) 0):Eqm p (az (List.range m) fun a=>w a * f a) (az (List.range r) fun a=>w a * f a):=by
 induction m with
 | zero=>rw[show r=0 by omega]; exact .refl _
 | succ m ih =>
  by_cases e:r=m+1
  ·rw[e]; exact .refl _
  ·rw[List.range_succ,iW,cg,gN];have h1:=(Eqm.refl (w m)).mul (h m (by omega) (by omega));rw[Int.mul_zero] at h1;have h2:=(ih (by omega) fun a k1 k2=>h a k1 (by omega)).add h1;rw[Int.add_zero] at h2;rwa [Int.add_zero]
theorem kL.rank {A M:Nat→Nat→Int}{m n:Nat}{J:List Nat}(h:kL p A m n M J n):dx p A m n J.length:=by
 have hb:∀ i,∃ w:Nat→Int,i<m→∀ j,j<n→Eqm p (A i j) (az (List.range m) fun a=>w a * M a j):=fun i=>by
  by_cases hi:i<m
  ·obtain ⟨w,hw⟩:=h.bwd i hi;exact⟨w,fun _=>hw⟩
  ·exact⟨fun _=>0,fun k=>absurd k hi⟩
 have hf:∀ i,∃ w:Nat→Int,i<m→∀ j,j<n→Eqm p (M i j) (az (List.range m) fun a=>w a * A a j):=fun i=>by
  by_cases hi:i<m
  ·obtain ⟨w,hw⟩:=h.fwd i hi;exact⟨w,fun _=>hw⟩
  ·exact⟨fun _=>0,fun k=>absurd k hi⟩
 refine⟨⟨fun i=>(hb i).choose,M,fun i hi j hj=>?_⟩,⟨fun i=>(hf i).choose,fun b k=>if J[k]?=some b then 1 else 0,fun i hi k hk=>?_⟩⟩
 ·refine ((hb i).choose_spec hi j hj).trans ?_;exact ze _ h.len fun a h1 h2=>h.low a h1 h2 j hj
 ·obtain ⟨jc,hjc⟩:∃ jc,J[k]?=some jc:=⟨J[k],List.getElem?_eq_getElem hk⟩;have hjn:jc<n:=h.col jc (List.mem_of_getElem? hjc);have him:i<m:=by have:=h.len; omega
  have e:∀ a,(az (List.range n) fun b=>A a b * (if J[k]?=some b then 1 else 0))=A a jc:=fun a=>by
   rw[hjc];rw[ak (g:=fun b=>(if jc=b then 1 else 0) * A a b) (fun b _=>by rw[Int.mul_comm]; congr 1; by_cases q:jc=b <;> simp[q])];exact gL n jc hjn _
  simp only[e];exact ((hf i).choose_spec him jc hjn).symm.trans (h.piv k jc hjc i him)
theorem dx.same (hp:Fld p){A:Nat→Nat→Int}{m n r r':Nat}(h:dx p A m n r)(h':dx p A m n r'):r=r':=by
 have key:∀ i,i<m→∀ j,j<n→Eqm p (A i j) (az (List.range m) fun a=>(if i=a then 1 else 0) * az (List.range n) fun b=>A a b * (if j=b then 1 else 0)):=fun i hi j hj=>by
  rw[gL m i hi,ak (g:=fun b=>(if j=b then 1 else 0) * A i b) (fun b _=>Int.mul_comm _ _),gL n j hj];exact .refl _
 exact Nat.le_antisymm (h'.le hp h key) (h.le hp h' key)
end
end Go.Pl
namespace Go.Pl
section
variable {p:Int}
def ol (k:Nat)(A B:Nat→Nat→Int):Nat→Nat→Int:=fun i j=>az (List.range k) fun t=>A i t * B t j
def Meq (p:Int)(m n:Nat)(A B:Nat→Nat→Int):Prop:=∀ i,i<m→∀ j,j<n→Eqm p (A i j) (B i j)
def Fq:Nat→Nat→Int:=fun i j=>if i=j then 1 else 0
theorem xE (k l:Nat)(A B C:Nat→Nat→Int):ol l (ol k A B) C=ol k A (ol l B C):=by
 funext i j;unfold ol;have e:∀ t,(az (List.range k) fun u=>A i u * B u t) * C t j=az (List.range k) fun u=>A i u * (B u t * C t j):=fun t=>by
  rw[← eD];exact ak fun u _=>Int.mul_assoc _ _ _
 simp only[e];rw[eC];exact ak fun u _=>cQ _ _ _
theorem Meq.refl {m n:Nat}(A:Nat→Nat→Int):Meq p m n A A:=fun _ _ _ _=>.refl _
theorem Meq.symm {m n:Nat}{A B:Nat→Nat→Int}(h:Meq p m n A B):Meq p m n B A:=fun i hi j hj=>(h i hi j hj).symm
theorem Meq.trans {m n:Nat}{A B C:Nat→Nat→Int}(h:Meq p m n A B)(k:Meq p m n B C):Meq p m n A C:=fun i hi j hj=>(h i hi j hj).trans (k i hi j hj)
theorem Meq.mul {m n k:Nat}{A A' B B':Nat→Nat→Int}(h:Meq p m k A A')(g:Meq p k n B B'):Meq p m n (ol k A B) (ol k A' B'):=fun i hi j hj =>
 Eqm.sum fun t ht=>(h i hi t (List.mem_range.1 ht)).mul (g t (List.mem_range.1 ht) j hj)
theorem qq {A:Nat→Nat→Int}{m n r:Nat}:dx p A m n r↔(∃ X Y,Meq p m n A (ol r X Y))∧∃ L R,Meq p r r (ol m L (ol n A R)) Fq :=
 ⟨fun h=>⟨h.thru,h.one⟩,fun h=>⟨h.1,h.2⟩⟩
structure Red (p:Int)(M:Nat→Nat→Int)(m n r:Nat)(X E L R:Nat→Nat→Int):Prop where
 thru:Meq p m n M (ol r X E)
 rows:Meq p r n (ol m L M) E
 one:Meq p r r (ol n E R) Fq
section
variable {M X E L R:Nat→Nat→Int}{m n r:Nat}(h:Red p M m n r X E L R)
include h
theorem Red.rank:dx p M m n r:=qq.2 ⟨⟨X,E,h.thru⟩,L,R,by
 rw[← xE];exact (h.rows.mul (.refl _)).trans h.one⟩
end
theorem kL.red {A M:Nat→Nat→Int}{m n:Nat}{J:List Nat}(h:kL p A m n M J n):∃ X L R,Red p A m n J.length X M L R:=by
 have hb:∀ i,∃ w:Nat→Int,i<m→∀ j,j<n→Eqm p (A i j) (az (List.range m) fun a=>w a * M a j):=fun i=>by
  by_cases hi:i<m
  ·obtain ⟨w,hw⟩:=h.bwd i hi;exact⟨w,fun _=>hw⟩
  ·exact⟨fun _=>0,fun k=>absurd k hi⟩
 have hf:∀ i,∃ w:Nat→Int,i<m→∀ j,j<n→Eqm p (M i j) (az (List.range m) fun a=>w a * A a j):=fun i=>by
  by_cases hi:i<m
  ·obtain ⟨w,hw⟩:=h.fwd i hi;exact⟨w,fun _=>hw⟩
  ·exact⟨fun _=>0,fun k=>absurd k hi⟩
 refine⟨fun i=>(hb i).choose,fun i=>(hf i).choose,fun b k=>if J[k]?=some b then 1 else 0,⟨fun i hi j hj=>?_,fun i hi j hj=>?_,fun i hi k hk=>?_⟩⟩
 ·exact ((hb i).choose_spec hi j hj).trans (ze _ h.len fun a h1 h2=>h.low a h1 h2 j hj)
 ·exact ((hf i).choose_spec (by have:=h.len; omega) j hj).symm
 ·obtain ⟨jc,hjc⟩:∃ jc,J[k]?=some jc:=⟨J[k],List.getElem?_eq_getElem hk⟩;have hjn:jc<n:=h.col jc (List.mem_of_getElem? hjc);have e:ol n M (fun b k=>if J[k]?=some b then 1 else 0) i k=M i jc:=by
   show (az (List.range n) fun t=>M i t * (if J[k]?=some t then 1 else 0))=_;rw[hjc];rw[ak (g:=fun b=>(if jc=b then 1 else 0) * M i b) (fun b _=>by rw[Int.mul_comm]; congr 1; by_cases q:jc=b <;> simp[q])];exact gL n jc hjn _
  rw[e];exact h.piv k jc hjc i (by have:=h.len; omega)
end
end Go.Pl
namespace Go.Pl
theorem sa {p:Int}(h:p=2∨p=3∨p=5∨p=7):Fld p:=by
 refine⟨fun h1=>?_,fun a ha=>?_⟩
 ·obtain ⟨k,hk⟩:=h1
  rcases h with rfl | rfl | rfl | rfl <;> omega
 ·rcases h with rfl | rfl | rfl | rfl
  ·have:a % 2≠0:=fun e=>ha ⟨a / 2,by omega⟩;exact⟨1,⟨a / 2,by omega⟩⟩
  ·have:a % 3≠0:=fun e=>ha ⟨a / 3,by omega⟩;by_cases h1:a % 3=1
   ·exact⟨1,⟨a / 3,by omega⟩⟩
   ·exact⟨2,⟨a / 3 * 2+1,by omega⟩⟩
  ·have:a % 5≠0:=fun e=>ha ⟨a / 5,by omega⟩;by_cases h1:a % 5=1
   ·exact⟨1,⟨a / 5,by omega⟩⟩
   by_cases h2:a % 5=2
   ·exact⟨3,⟨a / 5 * 3+1,by omega⟩⟩
   by_cases h3:a % 5=3
   ·exact⟨2,⟨a / 5 * 2+1,by omega⟩⟩
   ·exact⟨4,⟨a / 5 * 4+3,by omega⟩⟩
  ·have:a % 7≠0:=fun e=>ha ⟨a / 7,by omega⟩;by_cases h1:a % 7=1
   ·exact⟨1,⟨a / 7,by omega⟩⟩
   by_cases h2:a % 7=2
   ·exact⟨4,⟨a / 7 * 4+1,by omega⟩⟩
   by_cases h3:a % 7=3
   ·exact⟨5,⟨a / 7 * 5+2,by omega⟩⟩
   by_cases h4:a % 7=4
   ·exact⟨2,⟨a / 7 * 2+1,by omega⟩⟩
   by_cases h5:a % 7=5
   ·exact⟨3,⟨a / 7 * 3+2,by omega⟩⟩
   ·exact⟨6,⟨a / 7 * 6+5,by omega⟩⟩
section
variable {p:Int}
theorem Eqm.neg {a b:Int}(h:Eqm p a b):Eqm p (-a) (-b):=by
 have:=(Eqm.refl (-1)).mul h;refine (Eqm.of ?_).trans (this.trans (Eqm.of ?_))<;>omega
theorem Eqm.sub {a b c d:Int}(h:Eqm p a b)(k:Eqm p c d):Eqm p (a - c) (b - d):=by
 have:=h.add k.neg;rwa [← Int.sub_eq_add_neg,← Int.sub_eq_add_neg] at this
theorem wy (hp:Fld p)(A:Nat→Nat→Int)(m n:Nat):∀ c,c≤n→∃ M J,kL p A m n M J c
 | 0,_=>⟨A,[],.start A m n⟩
 | c+1,hc=>by
  obtain ⟨M,J,h⟩:=wy hp A m n c (by omega);by_cases h0:∀ i,J.length≤i→i<m→Eqm p (M i c) 0
  ·exact⟨M,J,h.none h0⟩
  ·have ⟨i0,h1,h2,h3⟩:∃ i0,J.length≤i0∧i0<m∧¬ Eqm p (M i0 c) 0:=by
    apply Classical.byContradiction;intro k;exact h0 fun i a b=>Classical.byContradiction fun e=>k ⟨i,a,b,e⟩
   obtain ⟨b,hb⟩:=hp.2 _ h3;rw[Int.mul_comm] at hb;exact⟨fun i j=>if i=J.length then b * M i0 j else M (if i=i0 then J.length else i) j - M (if i=i0 then J.length else i) c * (b * M i0 j),J++[c],h.pivot (by omega) h1 h2 hb fun i _ j _=>.refl _⟩
theorem DP (hp:Fld p)(A:Nat→Nat→Int)(m n:Nat):∃ r X E L R,Red p A m n r X E L R:=by
 obtain ⟨M,J,h⟩:=wy hp A m n n (Nat.le_refl _);obtain ⟨X,L,R,h1⟩:=h.red;exact⟨_,X,M,L,R,h1⟩
open Classical in
noncomputable def rk (p:Int) (A:Nat→Nat→Int) (m n:Nat):Nat:=if h:∃ r,dx p A m n r then h.choose else 0
theorem A4 (hp:Fld p){A:Nat→Nat→Int}{m n r:Nat}(h:dx p A m n r):rk p A m n=r:=by
 have h1:∃ r,dx p A m n r:=⟨r,h⟩;unfold rk;rw[dif_pos h1];exact dx.same hp h1.choose_spec h
theorem uo (hp:Fld p)(A:Nat→Nat→Int)(m n:Nat):dx p A m n (rk p A m n):=by
 obtain ⟨r,X,E,L,R,h⟩:=DP hp A m n;rw[A4 hp h.rank];exact h.rank
theorem dx.congr {A B:Nat→Nat→Int}{m n r:Nat}(h:dx p A m n r)(e:Meq p m n A B):dx p B m n r:=by
 obtain ⟨⟨X,Y,h1⟩,L,R,h2⟩:=qq.1 h;exact qq.2 ⟨⟨X,Y,e.symm.trans h1⟩,L,R,((Meq.refl L).mul (e.symm.mul (.refl R))).trans h2⟩
theorem mf (hp:Fld p){A B:Nat→Nat→Int}{m n:Nat}(e:Meq p m n A B):rk p A m n=rk p B m n:=(A4 hp ((uo hp B m n).congr e.symm))
theorem y3 (hp:Fld p)(A:Nat→Nat→Int)(m n:Nat):rk p (fun i j=>A j i) n m=rk p A m n:=A4 hp (uo hp A m n).turn
theorem kL.rk (hp:Fld p){A M:Nat→Nat→Int}{m n:Nat}{J:List Nat}(h:kL p A m n M J n):Pl.rk p A m n=J.length:=A4 hp h.rank
theorem zW (hp:Fld p){A B U V:Nat→Nat→Int}{m n m' n':Nat}(h:Meq p m' n' B (ol m U (ol n A V))):rk p B m' n'≤rk p A m n :=
 (uo hp A m n).le hp (uo hp B m' n') (U:=U) (V:=V) h
theorem tw (hp:Fld p)(A:Nat→Nat→Int)(m n:Nat):rk p A m n≤n:=by
 obtain ⟨X,Y,h⟩:=(uo hp A m n).thru;obtain ⟨L,R,k⟩:=(uo hp A m n).one;refine CR hp (X:=fun i b=>az (List.range m) fun a=>L i a * A a b) (Y:=R) fun i hi j hj=>?_;refine (Eqm.of ?_).trans (k i hi j hj);have e:∀ t,(az (List.range m) fun a=>L i a * A a t) * R t j=az (List.range m) fun a=>L i a * (A a t * R t j):=fun t=>by
  rw[← eD];exact ak fun a _=>Int.mul_assoc _ _ _
 simp only[e];rw[eC];exact ak fun a _=>cQ _ _ _
theorem jw (hp:Fld p)(A:Nat→Nat→Int)(m n:Nat):rk p A m n≤m:=by
 rw[← y3 hp];exact tw hp _ _ _
def mx {α β:Type}(R:List α)(C:List β)(e:α→β→Int):Nat→Nat→Int:=fun i j=>match R[i]?,C[j]? with
 | some r,some c=>e r c
 | _,_=>0
noncomputable def rkL {α β:Type} (p:Int) (R:List α) (C:List β) (e:α→β→Int):Nat:=rk p (mx R C e) R.length C.length
theorem oI {α β:Type}{R:List α}{C:List β}{e:α→β→Int}{i j:Nat}{r:α}{c:β}(hr:R[i]?=some r)(hc:C[j]?=some c):mx R C e i j=e r c:=by
 unfold mx;rw[hr,hc]
theorem zL (n i:Nat)(h:i<n)(f:Nat→Int):(az (List.range n) fun k=>f k * (if k=i then 1 else 0))=f i:=by
 rw[ak (g:=fun b=>(if i=b then 1 else 0) * f b) (fun b _=>by
  rw[Int.mul_comm];congr 1;by_cases q:i=b <;> simp[q,eq_comm])]
 exact gL n i h f
theorem DG (hp:Fld p){A B:Nat→Nat→Int}{m n m' n':Nat}(f g:Nat→Nat)(u v:Nat→Int)(hf:∀ i,i<m'→f i<m)(hg:∀ j,j<n'→g j<n)(h:∀ i,i<m'→∀ j,j<n'→Eqm p (B i j) (u i * (A (f i) (g j) * v j))):rk p B m' n'≤rk p A m n:=by
 refine zW hp (U:=fun i a=>if f i=a then u i else 0) (V:=fun b j=>(if b=g j then 1 else 0) * v j) fun i hi j hj=>?_;refine (h i hi j hj).trans (Eqm.of ?_);unfold ol;have e1:∀ a,(az (List.range n) fun b=>A a b * ((if b=g j then 1 else 0) * v j))=A a (g j) * v j:=fun a=>by
  rw[ak (g:=fun b=>(A a b * (if b=g j then 1 else 0)) * v j) (fun b _=>(Int.mul_assoc _ _ _).symm),eD,zL n (g j) (hg j hj)]
 simp only[e1];rw[ak (g:=fun a=>(if f i=a then 1 else 0) * (u i * (A a (g j) * v j))) (fun a _=>by split <;> simp),gL m (f i) (hf i hi)]
theorem CK (hp:Fld p){α β α' β':Type}{R:List α}{C:List β}{R':List α'}{C':List β'}{e:α→β→Int}{e':α'→β'→Int}(f:α'→α)(g:β'→β)(u:α'→Int)(v:β'→Int)(hf:∀ r∈R',f r∈R)(hg:∀ c∈C',g c∈C)(h:∀ r∈R',∀ c∈C',Eqm p (e' r c) (u r * (e (f r) (g c) * v c))):rkL p R' C' e'≤rkL p R C e:=by
 have hF:∀ i:Nat,∃ k:Nat,∀ r,R'[i]?=some r→k<R.length∧R[k]?=some (f r):=fun i=>by
  cases hr:R'[i]? with
  | none=>exact⟨0,fun r hr=>by cases hr⟩
  | some r =>
   obtain ⟨k,hk,e⟩:=List.mem_iff_getElem.1 (hf r (List.mem_of_getElem? hr));exact⟨k,fun r1 h1=>by cases h1; exact⟨hk,by rw[List.getElem?_eq_getElem hk,e]⟩⟩
 have hG:∀ j:Nat,∃ k:Nat,∀ c,C'[j]?=some c→k<C.length∧C[k]?=some (g c):=fun j=>by
  cases hc:C'[j]? with
  | none=>exact⟨0,fun c hc=>by cases hc⟩
  | some c =>
   obtain ⟨k,hk,e⟩:=List.mem_iff_getElem.1 (hg c (List.mem_of_getElem? hc));exact⟨k,fun c1 h1=>by cases h1; exact⟨hk,by rw[List.getElem?_eq_getElem hk,e]⟩⟩
 refine DG hp (fun i=>(hF i).choose) (fun j=>(hG j).choose) (fun i=>(R'[i]?).elim 0 u) (fun j=>(C'[j]?).elim 0 v) (fun i hi=>?_) (fun j hj=>?_) fun i hi j hj=>?_
 ·exact ((hF i).choose_spec _ (List.getElem?_eq_getElem hi)).1
 ·exact ((hG j).choose_spec _ (List.getElem?_eq_getElem hj)).1
 ·have hr:R'[i]?=some R'[i]:=List.getElem?_eq_getElem hi;have hc:C'[j]?=some C'[j]:=List.getElem?_eq_getElem hj;have h1:=((hF i).choose_spec _ hr).2;have h2:=((hG j).choose_spec _ hc).2;rw[oI hr hc,oI h1 h2,hr,hc];exact h _ (List.getElem_mem hi) _ (List.getElem_mem hj)
theorem DK (hp:Fld p){α β:Type}{R R':List α}{C C':List β}{e:α→β→Int}(hR:∀ r,r∈R↔r∈R')(hC:∀ c,c∈C↔c∈C'):rkL p R C e=rkL p R' C' e:=by
 have key:∀ (e:α→β→Int) r c,Eqm p (e r c) (1 * (e r c * 1)):=fun e r c=>.of (by omega);exact Nat.le_antisymm (CK hp id id (fun _=>1) (fun _=>1) (fun r h=>(hR r).1 h) (fun c h=>(hC c).1 h) fun r _ c _=>key e r c) (CK hp id id (fun _=>1) (fun _=>1) (fun r h=>(hR r).2 h) (fun c h=>(hC c).2 h) fun r _ c _=>key e r c)
theorem BB (hp:Fld p){α β:Type}(R:List α)(C:List β)(e:α→β→Int):rkL p C R (fun c r=>e r c)=rkL p R C e:=by
 unfold rkL;rw[← y3 hp];congr 1;funext i j;unfold mx;cases R[i]? <;> cases C[j]? <;> rfl
end
end Go.Pl
namespace Go.Pl
def at2 (M:List (List Int)):Nat→Nat→Int:=fun i j=>(M.getD i []).getD j 0
def A8 (m n:Nat)(f:Nat→Nat→Int):List (List Int):=(List.range m).map fun i=>(List.range n).map (f i)
theorem zB {m n:Nat}{f:Nat→Nat→Int}{i j:Nat}(hi:i<m)(hj:j<n):at2 (A8 m n f) i j=f i j:=by
 have h1:(A8 m n f).getD i []=(List.range n).map (f i):=by
  unfold A8;rw[List.getD_eq_getElem?_getD,List.getElem?_map,List.getElem?_range hi];rfl
 unfold at2;rw[h1,List.getD_eq_getElem?_getD,List.getElem?_map,List.getElem?_range hj];rfl
def AW (p a:Int):Int:=(((List.range p.toNat).find? fun b:Nat=>decide ((b * a) % p=1)).getD 0:Nat)
def ya (p:Int)(m n:Nat):Nat→Nat→List (List Int)→Nat→Nat
 | 0,_,_,k=>k
 | f+1,c,M,k=>match (List.range m).find? fun i=>decide (k≤i)&&decide (at2 M i c % p≠0) with
  | none=>ya p m n f (c+1) M k
  | some i0=>ya p m n f (c+1) (A8 m n fun i j=>(if i=k then AW p (at2 M i0 c) * at2 M i0 j else at2 M (if i=i0 then k else i) j - at2 M (if i=i0 then k else i) c * (AW p (at2 M i0 c) * at2 M i0 j)) % p) (k+1)
theorem mS (p a:Int):Eqm p (a % p) a:=by
 refine⟨-(a / p),?_⟩;rw[Int.mul_neg];have:=Int.emod_add_mul_ediv a p;omega
theorem qE {p:Int}(hp:Fld p)(hinv:∀ a,a % p≠0→Eqm p (AW p a * a) 1){A:Nat→Nat→Int}{m n:Nat}:∀ (f c:Nat) (M:List (List Int)) (J:List Nat),f+c=n→kL p A m n (at2 M) J c→ya p m n f c M J.length=rk p A m n
 | 0,c,M,J,hc,h=>by
  have:c=n:=by omega
  subst this;exact (h.rk hp).symm
 | f+1,c,M,J,hc,h=>by
  unfold ya;cases hf:(List.range m).find? fun i=>decide (J.length≤i)&&decide (at2 M i c % p≠0) with
  | none =>
   refine qE hp hinv f (c+1) M J (by omega) (h.none fun i h1 h2=>?_);have:=List.find?_eq_none.1 hf i (List.mem_range.2 h2);simp only[Bool.and_eq_true,decide_eq_true_eq,not_and,Classical.not_not] at this;have h0:=this h1;exact⟨at2 M i c / p,by have:=Int.emod_add_mul_ediv (at2 M i c) p; omega⟩
  | some i0 =>
   have h1:=List.find?_some hf;have h2:=List.mem_range.1 (List.mem_of_find?_eq_some hf);simp only[Bool.and_eq_true,decide_eq_true_eq] at h1;have h3:=h.pivot (M':=at2 (A8 m n fun i j=>(if i=J.length then AW p (at2 M i0 c) * at2 M i0 j else at2 M (if i=i0 then J.length else i) j - at2 M (if i=i0 then J.length else i) c * (AW p (at2 M i0 c) * at2 M i0 j)) % p)) (by omega) h1.1 h2 (hinv _ h1.2) fun i hi j hj=>by
    rw[zB hi hj];exact mS _ _
   have:=qE hp hinv f (c+1) _ (J++[c]) (by omega) h3;rw[List.length_append,List.length_singleton] at this;exact this
theorem D6 (a:Int)(h:a % 2≠0):Eqm 2 (AW 2 a * a) 1:=by
 have h1:AW 2 a=1:=by
  unfold AW;have:(((1:Nat):Int) * a) % 2=1:=by omega
  have h0:¬ (((0:Nat):Int) * a) % 2=1:=by simp
  rw[show List.range (2:Int).toNat=[0,1] from rfl,List.find?_cons_of_neg (by rw[decide_eq_true_eq]; exact h0),List.find?_cons_of_pos (by rw[decide_eq_true_eq]; exact this)];rfl
 rw[h1];exact⟨a / 2,by omega⟩
def rkF {α β:Type}(R:List α)(C:List β)(e:α→β→Int):Nat:=ya 2 R.length C.length C.length 0 (A8 R.length C.length (mx R C e)) 0
theorem EN {α β:Type}(R:List α)(C:List β)(e:α→β→Int):rkL 2 R C e=rkF R C e:=by
 have hp:Fld 2:=sa (.inl rfl);unfold rkF rkL;have h1:Meq 2 R.length C.length (mx R C e) (at2 (A8 R.length C.length (mx R C e))):=fun i hi j hj=>Eqm.of (zB hi hj).symm;rw[mf hp h1];exact (qE hp D6 C.length 0 _ [] (by omega) (kL.start _ _ _)).symm
def fu (p:Int):Bool:=decide (p=2)||decide (p=3)||decide (p=5)||decide (p=7)
end Go.Pl
namespace Go.Sy
open Go
section
variable {P:Program}{N:Nat}{E:World}{dst:Option Tmp}{ty:TypeId}{pos:String}{af:Array Edge}{gd:Option (Nat×Bool)}{f:Fr}{g:PH}{s:Own}
theorem SU.mkFuncB {n:FuncId}{l:List Operand}{vs:List Value}(hl:evs f l=some vs):SU P N ⟨dst,.makeFunc (.func n) l.toArray #[],ty,pos,af,gd⟩ f (.func (.func n) vs.toArray #[]):=fun a w ha=>by
 simp[execOp,Instr.makeFunc,ha.evs hl]
def A6 (P:Program)(E:World)(v:Value)(args:List Value)(g:PH)(s:Own)(R:Value→PH→Own→Prop):Prop :=
 ∃ n fst,v = .func (.func n) fst #[]∧(∀ args w,(callFunc n args).run P w = .ok (.enter n args) w)∧Ctr P E n (fst++args.toArray) g s R
theorem SO.callB {x:Operand}{l:List Operand}{tys:Array TypeId}{v:Value}{vs:List Value}{R:Value→PH→Own→Prop}(hx:ev f x=some v)(hl:evs f l=some vs)(hc:A6 P E v vs g s R) :
  SO P N E ⟨dst,.call ⟨.value x,l.toArray,tys⟩,ty,pos,af,gd⟩ f g s R:=by
 intro a w ha hw Q next hn;obtain ⟨n,fst,rfl,hcall,hfn⟩:=hc;unfold Oper.wp;have hr:(execOp a.eval ⟨dst,.call ⟨.value x,l.toArray,tys⟩,ty,pos,af,gd⟩).run P w = .ok (.enter n (fst++vs.toArray)) w:=by
  simp[execOp,resolve,ha.ev hx,Deferred.ofValue,invoke,hcall,ha.evs hl]
 rw[hr];refine (hfn w hw).mono fun e w' he=>?_;obtain ⟨u,g',s',rfl,hw',hR⟩:=he;exact hn u g' s' w' hR hw'
theorem SU.minF {x y:Operand}{T U:TypeId}{m n:Int}(hx:ev f x=some (vi m))(hy:ev f y=some (vi n)) :
  SU P N ⟨dst,.call ⟨.builtin .min,#[x,y],#[T,U]⟩,ty,pos,af,gd⟩ f (vi (min m n)):=fun a w ha=>by
 have h:=run_min_int2 (P:=P) (w:=w) #[T,U] ty .i64 .i64 m n;have h2:(if n<m then n else m)=min m n:=by split <;> omega
 rw[h2] at h;simp[execOp,resolve,invoke,builtin,ha.ev hx,ha.ev hy,h]
theorem SU.maxF {x y:Operand}{T U:TypeId}{m n:Int}(hx:ev f x=some (vi m))(hy:ev f y=some (vi n)) :
  SU P N ⟨dst,.call ⟨.builtin .max,#[x,y],#[T,U]⟩,ty,pos,af,gd⟩ f (vi (max m n)):=fun a w ha=>by
 have h:=run_max_int2 (P:=P) (w:=w) #[T,U] ty .i64 .i64 m n;have h2:(if m<n then n else m)=max m n:=by split <;> omega
 rw[h2] at h;simp[execOp,resolve,invoke,builtin,ha.ev hx,ha.ev hy,h]
end
end Go.Sy
namespace Go.Proofs.YtkbagdedfdfjhaaGreatDoor
open _root_.Go.Proofs.Tryz _root_.Go.Proofs.YtkbagdedfdfjhaaGreatDoor.Tryz
open Go Go.Sy Go.Pl Go.Proofs
set_option maxRecDepth 100000
def Fp (p:Int):Prop:=p=2∨p=3∨p=5∨p=7
theorem Fp.fld {p:Int}(h:Fp p):Fld p:=sa h
theorem Fp.lt {p:Int}(h:Fp p):2≤p∧p≤7:=by
 rcases h with rfl | rfl | rfl | rfl <;> omega
theorem fj {p:Int}:fu p=true↔Fp p:=by
 unfold fu Fp;simp only[Bool.or_eq_true,zi9];omega
theorem kX (E:World)(g:PH)(s:Own)(p:Int)(h2:2≤p)(h9:p<9) :
  Ctr Tryz.prog E 26 #[vi p] g s (fun r g' s'=>r=vb (fu p)∧g=g'∧s=s'):=by
 refine za9 (args:=[vi p]) func26 I ntmps26 (bE I) ?_;refine rZ (aT I (sQ (sW I (lU (SU.eq (v':=vb false) (lS I I) (zd7 vb (zf3 oM))) (lM I (yC I (lY I I I (SU.eq (v':=vb false) (gR I I) (zd7 vb (zf3 oM))) (yF I (tZ (cF I (kP (tN (sQ (rZ (aT I (bK ?_))))))))))))))));refine oP (ι:=Nat) (fun k=>[(0,vi p),(3,vi k)]) (fun _=>g) (fun _=>s) (fun k=>k=2∨(k=3∧(p=5∨p=7))) (fun k=>3 - k) 2 sB I I (.inl I) ?_;rintro k hk;have hk3:(k:Int)=2∨(k:Int)=3∧(p=5∨p=7):=oM;refine sQ (sW rfl (lM rfl (lU (SU.eq (v':=vi ((k:Int) * k)) (SU.mulW rfl rfl) (zd7 vi (zk5 _ (by rcases hk3 with h | ⟨h,_⟩ <;> rw[h] <;> omega)))) ?_)));refine lM I (lU (SU.leq I I) (tZ ?_));refine iP I (fun hle=>?_) (fun hle=>?_)
 ·have hk2:k=2:=by
   rcases hk with h | ⟨h,h'⟩
   ·exact h
   ·subst h;have:(((3:Nat):Int) * ((3:Nat):Int))=9:=rfl;rw[this] at hle;omega
  subst hk2;have h4:4≤p:=by
   have:(((2:Nat):Int) * ((2:Nat):Int))=4:=rfl;rw[this] at hle;omega
  refine kP (tN (sQ (bK (sW I (lM I (lU (SU.eq (v':=vi (p % 2)) (zd4 I I dC) (zd7 vi (by rw[Int.tmod_eq_emod_of_nonneg oM]; rfl))) ?_))))));refine yE I (tZ ?_);refine iP I (fun hr=>?_) (fun hr=>?_)
  ·refine rZ (aT I (rE (bR (tR (tR (bR (tR ?_)))))));have:fu p=false:=by
    rw[Bool.eq_false_iff,Ne,fj];rintro (h | h | h | h)<;>omega
   rw[this];exact za6 (.inl I) results26 I ⟨I,I,I⟩
  ·refine kP (bN (tN (rG (lM I (yD I (lA I (nL ?_)))))));exact gA 3 sB I I (.inr ⟨I,oM⟩) dC
 ·refine xI (tX (tX (bX (tN (rZ (aT I (rE ?_)))))));have hp:fu p=true:=by
   rw[fj]
   rcases hk with h | ⟨h,h'⟩
   ·subst h;have:(((2:Nat):Int) * ((2:Nat):Int))=4:=rfl;rw[this] at hle;unfold Fp;omega
   ·unfold Fp;omega
  rw[hp];exact za6 (.inl I) results26 I ⟨I,I,I⟩
theorem pF (E:World)(g:PH)(s:Own)(p:Int)(hp:Fp p)(R C:Nat)(hr:R≤400)(hc:C≤400) :
  Ctr Tryz.prog E 117 #[vi p,vi R,vi C] g s (fun x g' s'=>x=vb true∧g=g'∧s=s'):=by
 have hl:=hp.lt;have hps:fu p=true:=fj.2 hp;refine za9 (args:=[vi p,vi R,vi C]) func117 I ntmps117 (bE I) ?_;refine rZ (aT I (sW I (lW (cL call26 I (by have:=kX E g s p oM oM; rw[hps] at this; exact this)) ?_)));rintro _ _ _ ⟨rfl,rfl,rfl⟩;refine lM I (yC I (yC I (lY I I I (SU.minF I I) (lY I I I (SU.eq (v':=vb true) (gQ I I) (zd7 vb (zf4 oM))) (yP I (lM I (yC I (yC I (lY I I I (SU.maxF I I) (lY I I I (SU.eq (v':=vb true) (SU.leq I I) (zd7 vb (zf4 oM))) (yP I (aT I (rE ?_)))))))))))));exact za6 (.inl I) results117 I ⟨I,I,I⟩
theorem yg {r c:Nat}(hr:r≤400)(hc:c≤400):r * c≤160000:=Nat.mul_le_mul hr hc
def FmR (g:PH)(v:Value)(p:Int)(R C:Nat)(A:List Int):Prop:=∃ q c,v = .agg #[vi p,vi R,vi C,.slice q A.length c]∧bP g (.slice q A.length c) A
theorem Tryz.build62 (m r c:Int)(p:Option Addr)(n k:Nat)(w:World):(Instr.build 62 #[(0,vi m),(1,vi r),(2,vi c),(3,.slice p n k)]).run Tryz.prog w = .ok (.agg #[vi m,vi r,vi c,.slice p n k]) w:=by
 have h1:∀ n,(vi n).cells = #[vi n]:=fun _=>rfl;have h2:(Value.slice p n k).cells = #[.slice p n k]:=rfl;simp[Instr.build,Instr.fill,h1,h2];rfl
theorem r6 (E:World)(g:PH)(s:Own)(p:Int)(hp:Fp p)(r c:Nat)(hr:r≤400)(hc:c≤400) :
  Ctr Tryz.prog E 69 #[vi p,vi r,vi c] g s (fun x g' s'=>g=g'∧∃ b,x = .agg #[vi p,vi r,vi c,.slice (some ⟨b,0,none⟩) (r * c) (r * c)]∧s'=rowA encInt 3 (.slice (some ⟨b,0,none⟩) (r * c) (r * c)) (List.replicate (r * c) 0)::s):=by
 have hm:=yg hr hc;refine za9 (args:=[vi p,vi r,vi c]) func69 I ntmps69 (bE I) ?_;refine rZ (bW (aL zl2) fun b6=>?_);refine tZ (sQ (sW I (lM I (lM I (lW (cL call117 I (pF E g _ p hp r c hr hc)) ?_)))));rintro _ _ _ ⟨rfl,rfl,rfl⟩;refine lU (SU.not I) (tZ (cF I (kP (tN (sW I (lM I (lM I (lM I (lM I (lU (SU.eq (v':=vi ((r * c:Nat))) (SU.mulW I I) (zd7 vi (by rw[← Int.natCast_mul]; exact zk5 _ oM))) ?_))))))))));refine lW (mK encInt 0 sty25 I I I oM oM) ?_;rintro _ _ _ ⟨b15,rfl,rfl,rfl⟩;refine lU (za1 I (build62 _ _ _ _ _ _)) ?_;refine oZ (sK 1 eT rfl rfl rfl rfl rfl (by (repeat' (first | exact trivial | refine⟨by rfl,?_⟩)))) ?_;refine tZ (rE ?_);exact ST.retCD 1 _ (.inl I) results69 I om eT I I (.cons_cons _ (.cons _ (.refl _))) ⟨I,_,I,I⟩
theorem EO (E:World)(g:PH)(s:Own)(b:Nat)(p n:Int)(hb:eo g s ⟨b,0,none⟩ (vi p))(h0:0≤n)(hn:n<p) :
  cz Tryz.prog E (.func (.func 154) #[] #[pp b 0]) [vi n] g s (fun x g' s'=>x=vb false∧g=g'∧s=s'):=by
 refine cz.mk (cap:=[pp b 0]) call154 ?_;refine za9 (args:=[vi n,pp b 0]) func154 I ntmps154 (bE I) ?_;refine rZ (aT I (sW I (lU (SU.eq (v':=vb false) (lS I I) (zd7 vb (zf3 oM))) (lM I (yC I (lY I I I (fA fN I zT3 I) (SL.gq (gT I I I dC) (qL (v:=vi p) iT3 I hb) dC (lY I I I (SU.eq (v':=vb false) (gQ I I) (zd7 vb (zf3 oM))) (yF I (aT I (rE ?_)))))))))));exact za6 (.inl I) results154 I ⟨I,I,I⟩
theorem xK (E:World)(g:PH)(s:Own)(v:Value)(kn:FuncId)(kc:Array Value)(l:List Int)(hv:bP g v l)(hl:l.length<1099511627776)(hp:∀ a∈l,cz Tryz.prog E (.func (.func kn) #[] kc) [vi a] g s (fun x g' s'=>x=vb false∧g=g'∧s=s')) :
  Ctr Tryz.prog E 205 #[v,.func (.func kn) #[] kc] g s (fun r g' s'=>r=vi (-1)∧g=g'∧s=s'):=by
 obtain ⟨p,c,rfl⟩:=za2 hv;refine za9 (args:=[.slice p l.length c,.func (.func kn) #[] kc]) func205 I ntmps205 (bE I) ?_;refine rZ (aT I (sQ (sW I (lU (eN aj I) (lM I (tZ (bK ?_)))))));refine oP (ι:=Nat) (fun k=>[(0,.slice p l.length c),(1,.func (.func kn) #[] kc),(7,vi l.length),(8,vi k)]) (fun _=>g) (fun _=>s) (fun k=>k≤l.length) (fun k=>l.length - k) 0
  sB rfl rfl (zf2 _) ?_
 rintro k hk;refine rZ (yL I (tZ (sQ ?_)));refine iP I (fun hlt=>?_) (fun hlt=>?_)
 ·have hkl:k<l.length:=oM;have hb1:=za4 hv oM;refine kP (tN (sQ (bK (sW I (aT I (sW I (lM I (lM I (lU (iA aj zT3 I I hb1 oM sL) ?_)))))))));refine SL.q (eB iT3 I (za5 hv) (gE hkl) I) dC ?_;refine lW (SO.callV I I (hp l[k] (gM hkl))) ?_;rintro _ _ _ ⟨rfl,rfl,rfl⟩;refine tZ (cF I (kP (bN (tN (rG (yD I (lM I (nL ?_))))))));exact gA (k+1) sB I I oM oM
 ·refine xI (tX (tX (bX (tN (rZ (aT I (rE ?_)))))));exact za6 (.inl I) results205 I ⟨I,I,I⟩
theorem rh (E:World)(g:PH)(s:Own)(v:Value)(kn:FuncId)(kc:Array Value)(l:List Int)(hv:bP g v l)(hl:l.length<1099511627776)(hp:∀ a∈l,cz Tryz.prog E (.func (.func kn) #[] kc) [vi a] g s (fun x g' s'=>x=vb false∧g=g'∧s=s')) :
  Ctr Tryz.prog E 153 #[v,.func (.func kn) #[] kc] g s (fun r g' s'=>r=vb false∧g=g'∧s=s'):=by
 refine za9 (args:=[v,.func (.func kn) #[] kc]) func153 I ntmps153 (bE I) ?_;refine rZ (aT I (sW I (lM I (lW (cL call205 I (xK E g _ v kn kc l hv hl hp)) ?_))));rintro _ _ _ ⟨rfl,rfl,rfl⟩;refine lU (gQ I I) (aT I (rE ?_));exact za6 (.inl I) results153 I ⟨I,I,I⟩
theorem uU (E:World)(g:PH)(s:Own)(v:Value)(p:Int)(hp:Fp p)(R C:Nat)(hr:R≤400)(hc:C≤400)(A:List Int)(hA:A.length=R * C)(hv:FmR g v p R C A)(h0:∀ x∈A,0≤x∧x<p) :
  Ctr Tryz.prog E 115 #[v] g s (fun x g' s'=>x=vb true∧g=g'∧s=s'):=by
 obtain ⟨q,c,rfl,hs⟩:=hv;have hm:=yg hr hc;refine za9 (args:=[.agg #[vi p,vi R,vi C,.slice q A.length c]]) func115 I ntmps115 (bE I) ?_;refine rZ (bW (bO I) fun b1=>?_);refine aT I (rZ (lU (fA fN I zT3 I) (lK (qL iT3 I (cO 0 I I)) (lU (fA fN I zT3 I) (lK (qL iT3 I (cO 0 I I)) (lU (fA fN I zT3 I) (lK (qL iT3 I (cO 0 I I)) (lW (cL call117 I (pF E g _ p hp R C hr hc)) ?_))))))));rintro _ _ _ ⟨rfl,rfl,rfl⟩;refine lM I (lY I I I (fA fN I bZ I) (SL.gq (gT I I I dC) (qL dh I (cO 0 I I)) dC (lY I I I (eN aj I) (lY I I I (fA fN I zT3 I) (SL.gq (gT I I I dC) (qL iT3 I (cO 0 I I)) dC (lY I I I (fA fN I zT3 I) (SL.gq (gT I I I dC) (qL iT3 I (cO 0 I I)) dC (lY I I I (SU.eq (v':=vi ((R * C:Nat))) (SU.mulW I I) (zd7 vi (by rw[← Int.natCast_mul]; exact zk5 _ oM))) ?_))))))));refine lY I I I (SU.eq (v':=vb true) (eQ I I) (zd7 vb (zf4 (by rw[hA])))) ?_;refine yP I (lM I (lY I I I (fA fN I bZ I) (SL.gq (gT I I I dC) (qL dh I (cO 0 I I)) dC (lY I I I (SU.mkFunc I) (SL.go (gT I I I dC) (cL call153 I (rh E g _ (.slice q A.length c) _ _ A hs oM fun a ha=>EO E g _ b1 p a (cO 0 I I) (h0 a ha).1 (h0 a ha).2)) dC ?_)))));rintro _ _ _ ⟨rfl,rfl,rfl⟩;refine lY I I I (SU.not I) (yP I (aT I (rE (dR (s':=s) uR ?_))));exact za6 (.inl I) results115 I ⟨I,I,I⟩
theorem ek {b x y:Nat}(h:x=y):Value.pointer (some ⟨b,x,none⟩)=Value.pointer (some ⟨b,y,none⟩):=by rw[h]
def i8 (b i C c:Nat):Value:=.slice (some ⟨b,i * C * 1,none⟩) C (c - i * C)
theorem xg {b i C c:Nat}(hC:0<C)(hc:(i+1) * C≤c):sliced (some ⟨b,0,none⟩) (i * C) ((i+1) * C) c 1=i8 b i C c:=by
 have h1:(i+1) * C=i * C+C:=by rw[Nat.add_mul,Nat.one_mul]
 unfold sliced i8;rw[zf5 oM,h1,Nat.add_sub_cancel_left];simp[Addr.add];exact fun h=>h.symm
def lp (p:Int)(R C:Nat)(v:Value)(ov:List Int):Array Value:=(vi p::vi R::vi C::v::ov.map vi).toArray
def atF (L:List Int)(C x y:Nat):Int:=L.getD (x * C+y) 0
theorem iC {R C x y:Nat}(hx:x<R)(hy:y<C):x * C+y<R * C:=by
 have:=Nat.mul_le_mul_right C (show x+1≤R from hx);rw[Nat.add_mul,Nat.one_mul] at this;omega
theorem jG {R C x:Nat}(hx:x<R):(x+1) * C≤R * C:=Nat.mul_le_mul_right C hx
theorem zi {C x y x' y':Nat}(hy:y<C)(hy':y'<C):x * C+y=x' * C+y'↔x=x'∧y=y' :=
 ⟨fun h=>by
  have h1:(x * C+y) / C=x:=by rw[Nat.mul_comm,Nat.mul_add_div oM,Nat.div_eq_of_lt hy,Nat.add_zero]
  have h2:(x' * C+y') / C=x':=by rw[Nat.mul_comm,Nat.mul_add_div oM,Nat.div_eq_of_lt hy',Nat.add_zero]
  have h3:x=x':=by rw[← h1,← h2,h]
  subst h3;exact⟨rfl,oM⟩,fun ⟨h1,h2⟩=>by rw[h1,h2]⟩
theorem mU {L:List Int}{R C x y x' y':Nat}(hL:L.length=R * C)(hx:x<R)(hy:y<C)(hy':y'<C)(v:Int):atF (L.set (x * C+y) v) C x' y'=if x=x'∧y=y' then v else atF L C x' y':=by
 unfold atF;rw[zg6,zg6,List.getElem?_set];by_cases h:x=x'∧y=y'
 ·rw[zf6 ((zi hy hy').2 h),zf6 h,zf6 (by rw[hL]; exact iC hx hy)];rfl
 ·rw[zf5 (fun e=>h ((zi hy hy').1 e)),zf5 h]
theorem iD {L:List Int}{R C x y:Nat}(hL:L.length=R * C)(hx:x<R)(hy:y<C):L[x * C+y]?=some (atF L C x y):=by
 have:=iC hx hy;unfold atF;rw[zg6,gE oM];rfl
def Ov (p:Int)(ov:List Int):Prop:=ov.length=998∧∀ i:Nat,i<8→ov.getD i 0=0∨(0<ov.getD i 0∧ov.getD i 0<p∧(ov.getD i 0 * i) % p=1)
def yf (bm:Nat)(p:Int)(R C:Nat)(v:Value):Ent:=⟨some bm,fun oo=>∃ ov,Ov p ov∧oo=some (.cells (lp p R C v ov) 203 (0,0))⟩
theorem pW {g:PH}{s:Own}{bm:Nat}{p:Int}{R C o:Nat}{v u:Value}(i:Nat)(hi:s[i]?=some (yf bm p R C v))(hu:[vi p,vi R,vi C,v][o]?=some u):eo g s ⟨bm,o,none⟩ u:=fun E w hw=>by
 have:=hw.own _ (zf7 hi);simp only[yf,Option.bind_some] at this;obtain ⟨ov,_,h⟩:=this;have ho:o<4:=(zf1.1 hu).1;have h2:(lp p R C v ov)[o]?=some u:=by
  rw[← hu];unfold lp
  match o,ho with
  | 0,_=>rfl
  | 1,_=>rfl
  | 2,_=>rfl
  | 3,_=>rfl
 simp[World.cell?,h,h2]
def gH (p:Int)(R C b cE bm:Nat)(L:List Int)(s:Own):Own:=rowA encInt 3 (.slice (some ⟨b,0,none⟩) (R * C) cE) L::yf bm p R C (.slice (some ⟨b,0,none⟩) (R * C) cE)::s
theorem dA (E:World)(g:PH)(s:Own)(p:Int)(R C b cE bm i:Nat)(L:List Int)(hR:R≤400)(hC:C≤400)(hC0:0<C)(hi:i<R)(hc:R * C≤cE) :
  Ctr Tryz.prog E 155 #[pp bm 0,vi i] g (gH p R C b cE bm L s) (fun x g' s'=>x=i8 b i C cE∧g=g'∧s'=gH p R C b cE bm L s):=by
 have hm:=yg hR hC;have h1:=jG (C:=C) hi;have h2:(i+1) * C=i * C+C:=by rw[Nat.add_mul,Nat.one_mul]
 have hsl:=xg (b:=b) hC0 (zk3 h1 hc);unfold gH;refine za9 (args:=[pp bm 0,vi i]) func155 I ntmps155 (bE I) ?_;refine rZ (aT I (sQ ?_));refine dW [] [(0,2),(1,2),(2,2),(3,2),(4,1),(5,2),(6,2),(7,2),(8,2),(9,2),(10,1),(11,2),(12,2),(13,2),(14,2),(15,2),(16,2),(17,2),(18,1),(19,2),(20,2),(21,2)] zd8 kR ?_;refine yM I (pU I (nC I) (pU I (fA kC I eT I) (pU I (fA fN I bZ I) (pK I (qL (v:=.slice (some ⟨b,0,none⟩) (R * C) cE) dh I (pW 1 I I)) (yM I (yM I (pU I (nC I) (pU I (fA kC I eT I) (pU I (fA fN I zT3 I) (pK I (qL (v:=vi C) iT3 I (pW 1 I I)) (pU I (SU.eq (v':=vi ((i * C:Nat))) (SU.mulW I I) (zd7 vi (by rw[← Int.natCast_mul]; exact zk5 _ oM))) ?_)))))))))));refine yM I (pU I (SU.eq (v':=vi ((i+1:Nat))) (aD I I oM) (zd7 vi oM)) (yM I (pU I (nC I) (pU I (fA kC I eT I) (pU I (fA fN I zT3 I) (pK I (qL (v:=vi C) iT3 I (pW 1 I I)) (pU I (SU.eq (v':=vi (((i+1) * C:Nat))) (SU.mulW I I) (zd7 vi (by rw[← Int.natCast_mul]; exact zk5 _ oM))) ?_)))))));refine pU I (SU.eq (v':=i8 b i C cE) (SU.sliceLH aj zT3 I I I oM oM oM) (by rw[← hsl]; rfl)) ?_;refine pU I (aS I) (pN (tN (rE ?_)));exact za6 (.inl I) results155 I ⟨I,I,I⟩
def swF (i j x:Nat):Nat:=if x=i then j else if x=j then i else x
theorem Dh (i j:Nat):swF i j i=j:=zf6 rfl
theorem Fg (i j:Nat):swF i j j=i:=by
 unfold swF;split
 ·rename_i h; exact h
 ·rw[zf6 rfl]
theorem Ff {i j x:Nat}(h1:x≠i)(h2:x≠j):swF i j x=x:=by
 unfold swF;rw[zf5 h1,zf5 h2]
theorem xO (E:World)(g:PH)(s:Own)(p:Int)(R C b cE bm i j:Nat)(L:List Int)(hR:R≤400)(hC:C≤400)(hC0:0<C)(hi:i<R)(hj:j<R)(hc:R * C≤cE)(hL:L.length=R * C) :
  Ctr Tryz.prog E 156 #[pp bm 0,vi i,vi j] g (gH p R C b cE bm L s) (fun _ g' s'=>g=g'∧∃ L',s'=gH p R C b cE bm L' s∧L'.length=R * C∧∀ x<R,∀ y<C,atF L' C x y=atF L C (swF i j x) y):=by
 have hm:=yg hR hC;have hi1:=jG (C:=C) hi;have hj1:=jG (C:=C) hj;have hi2:(i+1) * C=i * C+C:=by rw[Nat.add_mul,Nat.one_mul]
 have hj2:(j+1) * C=j * C+C:=by rw[Nat.add_mul,Nat.one_mul]
 refine za9 (args:=[pp bm 0,vi i,vi j]) func156 I ntmps156 (bE I) ?_;refine sW I (lM I (lW (cL call155 I (dA E g s p R C b cE bm i L hR hC hC0 hi hc)) ?_));rintro _ _ _ ⟨rfl,rfl,rfl⟩;refine lM I (lM I (lW (cL call155 I (dA E g s p R C b cE bm j L hR hC hC0 hj hc)) ?_));rintro _ _ _ ⟨rfl,rfl,rfl⟩;refine lA I (aT I (sW I (lU (SU.eq (v':=vi (C:Nat)) (eM aj I I) I) (lM I (tZ (bK ?_))))));refine oP (ι:=Nat×List Int) (fun z=>[(6,i8 b i C cE),(7,i8 b j C cE),(16,vi C),(17,vi z.1)]) (fun _=>g) (fun z=>gH p R C b cE bm z.2 s) (fun z=>z.1≤C∧z.2.length=R * C∧∀ x<R,∀ y<C,atF z.2 C x y=if y<z.1 then atF L C (swF i j x) y else atF L C x y) (fun z=>C - z.1) (0,L) sB I I ⟨zf2 _,hL,fun x _ y _=>by simp⟩ ?_;rintro ⟨k,M⟩ ⟨hk,hM,hz⟩;dsimp only at hk hM hz ⊢;refine rZ (yL I (tZ (sQ ?_)));refine iP I (fun hlt=>?_) (fun hlt=>?_)
 ·have hkC:k<C:=oM;have gi:=iD hM hi hkC;have gj:=iD hM hj hkC;unfold gH;refine kP (tN (sQ (bK (sW I (aT I ?_)))));refine dW [13,15] [(0,2),(1,2),(2,2),(3,2),(4,2),(5,2),(6,2),(7,1),(8,2),(9,2),(10,2),(11,1),(12,2),(13,0),(14,2),(15,0)] zd8 kR ?_;refine yM I (yM I (yM I (yM I (yM I (yM I (pU I (SU.eq (v':=.pointer (some ⟨b,0+(j * C+k) * 1,none⟩)) (iA aj zT3 I I I oM (by simp only[i8,slen]; omega)) (ek (by simp only[Int.toNat_natCast]; omega))) ?_))))));refine pK I (eB (j:=j * C+k) iT3 I (zb5 0 I) gj I) (yM I (yM I (pU I (SU.eq (v':=.pointer (some ⟨b,0+(i * C+k) * 1,none⟩)) (iA aj zT3 I I I oM (by simp only[i8,slen]; omega)) (ek (by simp only[Int.toNat_natCast]; omega))) ?_)));refine pK I (eB (j:=i * C+k) iT3 I (zb5 0 I) gi I) (pU I (SU.eq (v':=.pointer (some ⟨b,0+(i * C+k) * 1,none⟩)) (iA aj zT3 I I I oM (by simp only[i8,slen]; omega)) (ek (by simp only[Int.toNat_natCast]; omega))) ?_);refine SP.on I (sT (e:=encInt) (a:=atF M C j k) (j:=i * C+k) 0 zT3 I I I (by rw[hM]; exact iC hi hkC) I) (.inl dC) ?_;rintro _ _ _ ⟨rfl,rfl⟩;refine pU I (SU.eq (v':=.pointer (some ⟨b,0+(j * C+k) * 1,none⟩)) (iA aj zT3 I I I oM (by simp only[i8,slen]; omega)) (ek (by simp only[Int.toNat_natCast]; omega))) ?_;refine SP.on I (sT (e:=encInt) (a:=atF M C i k) (j:=j * C+k) 0 zT3 I I I (by rw[zh8,hM]; exact iC hj hkC) I) (.inl dC) ?_;rintro _ _ _ ⟨rfl,rfl⟩;refine pN (bN (tN (rG (yD I (lM I (nL ?_))))));have h1:(M.set (i * C+k) (atF M C j k)).length=R * C:=by rw[zh8,hM]
  exact gA (k+1,(M.set (i * C+k) (atF M C j k)).set (j * C+k) (atF M C i k)) sB I I ⟨by dsimp only; omega,by dsimp only; rw[zh8,h1],fun x hx y hy=>by
   dsimp only;rw[mU h1 hj hkC hy,mU hM hi hkC hy,hz x hx y hy,hz i hi k hkC,hz j hj k hkC,zf5 (Nat.lt_irrefl k),zf5 (Nat.lt_irrefl k)];by_cases e1:j=x∧k=y
   ·obtain ⟨e1,e0⟩:=e1;subst e1;subst e0;rw[zf6 ⟨rfl,rfl⟩,zf6 (Nat.lt_succ_self k),Fg]
   ·rw[zf5 e1];by_cases e2:i=x∧k=y
    ·obtain ⟨e2,e0⟩:=e2;subst e2;subst e0;rw[zf6 ⟨rfl,rfl⟩,zf6 (Nat.lt_succ_self k),Dh]
    ·rw[zf5 e2];by_cases e3:y<k
     ·rw[zf6 e3,zf6 (Nat.lt_succ_of_lt e3)]
     ·rw[zf5 e3];by_cases e4:y=k
      ·subst e4;rw[zf6 (Nat.lt_succ_self y),Ff (fun e=>e2 ⟨e.symm,rfl⟩) (fun e=>e1 ⟨e.symm,rfl⟩)]
      ·rw[zf5 (show ¬ y<k+1 by omega)]⟩ (by dsimp only; omega)
 ·refine xI (tX (tX (bX ?_)));have hkC:k=C:=oM;subst hkC;exact ST.ret0 (.inr I) results156 ⟨I,M,I,hM,fun x hx y hy=>by rw[hz x hx y hy,zf6 hy]⟩
theorem pI (E:World)(g:PH)(s:Own)(p:Int)(R C b cE bm i:Nat)(L:List Int)(hR:R≤400)(hC:C≤400)(hC0:0<C)(hi:i<R)(hc:R * C≤cE)(hL:L.length=R * C)(fn:FuncId)(fst:Array Value)(F:Nat→Int→Int)
  (hF:∀ L',L'.length=R * C→(∀ x<R,x≠i→∀ y<C,atF L' C x y=atF L C x y)→∀ k<C,A6 Tryz.prog E (.func (.func fn) fst #[]) [vi k,vi (atF L C i k)] g (gH p R C b cE bm L' s) (fun x g' s'=>x=vi (F k (atF L C i k))∧g=g'∧s'=gH p R C b cE bm L' s)) :
  Ctr Tryz.prog E 157 #[i8 b i C cE,.func (.func fn) fst #[]] g (gH p R C b cE bm L s) (fun _ g' s'=>g=g'∧∃ L',s'=gH p R C b cE bm L' s∧L'.length=R * C∧∀ x<R,∀ y<C,atF L' C x y=if x=i then F y (atF L C i y) else atF L C x y):=by
 have hm:=yg hR hC;have hi1:=jG (C:=C) hi;have hi2:(i+1) * C=i * C+C:=by rw[Nat.add_mul,Nat.one_mul]
 refine za9 (args:=[i8 b i C cE,.func (.func fn) fst #[]]) func157 I ntmps157 (bE I) ?_;refine sW I (lU (SU.eq (v':=vi (C:Nat)) (eM aj I I) I) (lM I (tZ (bK ?_))));refine oP (ι:=Nat×List Int) (fun z=>[(0,i8 b i C cE),(1,.func (.func fn) fst #[]),(6,i8 b i C cE),(7,vi C),(8,vi z.1)]) (fun _=>g) (fun z=>gH p R C b cE bm z.2 s) (fun z=>z.1≤C∧z.2.length=R * C∧∀ x<R,∀ y<C,atF z.2 C x y=if x=i∧y<z.1 then F y (atF L C i y) else atF L C x y) (fun z=>C - z.1) (0,L) sB I I ⟨zf2 _,hL,fun x _ y _=>by simp⟩ ?_;rintro ⟨k,M⟩ ⟨hk,hM,hz⟩;dsimp only at hk hM hz ⊢;refine rZ (yL I (tZ (sQ ?_)));refine iP I (fun hlt=>?_) (fun hlt=>?_)
 ·have hkC:k<C:=oM;have gi:=iD hM hi hkC;rw[hz i hi k hkC,zf5 oM] at gi;have hcall:=hF M hM (fun x hx hne y hy=>by rw[hz x hx y hy,zf5 (fun e=>hne e.1)]) k hkC;unfold gH at hcall ⊢;refine kP (tN (sQ (bK (sW I (lU (SU.eq (v':=.pointer (some ⟨b,0+(i * C+k) * 1,none⟩)) (iA aj zT3 I I I oM (by simp only[i8,slen]; omega)) (ek (by simp only[Int.toNat_natCast]; omega))) ?_)))));refine lK (eB (j:=i * C+k) iT3 I (zb5 0 I) gi I) (lA I (aT I (rG (lM I (lM I (lM I (lM I (lM I (lW (SO.callB I I hcall) ?_)))))))));rintro _ _ _ ⟨rfl,rfl,rfl⟩;refine lU (SU.eq (v':=.pointer (some ⟨b,0+(i * C+k) * 1,none⟩)) (iA aj zT3 I I I oM (by simp only[i8,slen]; omega)) (ek (by simp only[Int.toNat_natCast]; omega))) ?_;refine oZ (sT (e:=encInt) (a:=F k (atF L C i k)) (j:=i * C+k) 0 zT3 I I I (by rw[hM]; exact iC hi hkC) I) ?_;refine nL (bN (tN (rG (yD I (lM I (nL ?_))))));exact gA (k+1,M.set (i * C+k) (F k (atF L C i k))) sB I I ⟨by dsimp only; omega,by dsimp only; rw[zh8,hM],fun x hx y hy=>by
   dsimp only;rw[mU hM hi hkC hy,hz x hx y hy];by_cases e1:i=x∧k=y
   ·obtain ⟨rfl,rfl⟩:=e1;rw[zf6 ⟨rfl,rfl⟩,zf6 ⟨rfl,oM⟩]
   ·rw[zf5 e1];by_cases e2:x=i∧y<k
    ·rw[zf6 e2,zf6 ⟨e2.1,oM⟩]
    ·rw[zf5 e2,zf5 (fun e=>e2 ⟨e.1,by
      have:¬ k=y:=fun e3=>e1 ⟨e.1.symm,e3⟩;omega⟩)]⟩ (by dsimp only; omega)
 ·refine xI (tX (tX (bX ?_)));have hkC:k=C:=oM;subst hkC;exact ST.ret0 (.inr I) results157 ⟨I,M,I,hM,fun x hx y hy=>by
   rw[hz x hx y hy];by_cases e:x=i
   ·rw[zf6 ⟨e,hy⟩,zf6 e]
   ·rw[zf5 (fun k=>e k.1),zf5 e]⟩
theorem tJ {a b p:Int}(h7:p≤7)(ha:0≤a)(ha1:a<p)(hb:0≤b)(hb1:b<p):0≤a * b∧a * b≤49:=by
 refine⟨Int.mul_nonneg ha hb,?_⟩;have h1:a * b≤7 * 7:=Int.mul_le_mul oM oM hb dC;omega
theorem uT (E:World)(g:PH)(s:Own)(p t n:Int)(k:Nat)(h2:2≤p)(h7:p≤7)(ht:0≤t)(ht1:t<p)(hn:0≤n)(hn1:n<p) :
  A6 Tryz.prog E (.func (.func 159) #[.agg #[.slice none 0 0,vi t,vi p]] #[]) [vi k,vi n] g s (fun x g' s'=>x=vi (n * t % p)∧g=g'∧s'=s):=by
 have hb:=tJ h7 hn hn1 ht ht1;refine⟨_,_,I,call159,?_⟩;show Ctr _ _ _ #[.agg #[.slice none 0 0,vi t,vi p],vi k,vi n] _ _ _;refine za9 (args:=[.agg #[.slice none 0 0,vi t,vi p],vi k,vi n]) func159 I ntmps159 (bE I) ?_;refine rZ (bW (bO I) fun b3=>?_);refine aT I (sW I (lU (fA underlying208 I zT3 I) (lK (qL iT3 I (cO 0 I I)) (lU (SU.eq (v':=vi (n * t)) (SU.mulW I I) (zd7 vi (zk5 _ oM))) (lU (fA underlying208 I zT3 I) (lK (qL iT3 I (cO 0 I I)) (lU (SU.eq (v':=vi (n * t % p)) (zd4 I I oM) (zd7 vi (Int.tmod_eq_emod_of_nonneg hb.1))) (aT I (rE (dR (s':=s) uR ?_))))))))));exact za6 (.inl I) results159 I ⟨I,I,I⟩
theorem AB (E:World)(g:PH)(s:Own)(p t n:Int)(R C b cE bm i k:Nat)(L:List Int)(h2:2≤p)(h7:p≤7)(ht:0≤t)(ht1:t<p)(hn:0≤n)(hn1:n<p)(hL:L.length=R * C)(hi:i<R)(hk:k<C)(hr:0≤atF L C i k)(hr1:atF L C i k<p)(hR:R≤400)(hC:C≤400) :
  A6 Tryz.prog E (.func (.func 160) #[.agg #[i8 b i C cE,vi t,vi p]] #[]) [vi k,vi n] g (gH p R C b cE bm L s) (fun x g' s'=>x=vi ((n+atF L C i k * t) % p)∧g=g'∧s'=gH p R C b cE bm L s):=by
 have hm:=yg hR hC;have hi1:=jG (C:=C) hi;have hi2:(i+1) * C=i * C+C:=by rw[Nat.add_mul,Nat.one_mul]
 have hb:=tJ h7 hr hr1 ht ht1;have gi:=iD hL hi hk;refine⟨_,_,I,call160,?_⟩;show Ctr _ _ _ #[.agg #[i8 b i C cE,vi t,vi p],vi k,vi n] _ _ _;unfold gH;refine za9 (args:=[.agg #[i8 b i C cE,vi t,vi p],vi k,vi n]) func160 I ntmps160 (bE I) ?_;refine rZ (bW (bO I) fun b3=>?_);refine aT I (sQ ?_);refine dW [] [(0,2),(1,2),(2,1),(3,2),(4,2),(5,1),(6,2),(7,1),(8,2),(9,2),(10,2),(11,1),(12,2),(13,2)] zd8 kR ?_;refine yM I (pU I (fA underlying208 I bZ I) (pK I (qL (v:=i8 b i C cE) dh I (cO 0 I I)) (yM I (pU I (SU.eq (v':=.pointer (some ⟨b,0+(i * C+k) * 1,none⟩)) (iA aj zT3 I I I oM (by simp only[i8,slen]; omega)) (ek (by simp only[Int.toNat_natCast]; omega))) ?_))));refine pK I (eB (j:=i * C+k) iT3 I (zb5 1 I) gi I) (pU I (fA underlying208 I zT3 I) (pK I (qL iT3 I (cO 0 I I)) (pU I (SU.eq (v':=vi (atF L C i k * t)) (SU.mulW I I) (zd7 vi (zk5 _ oM))) (pU I (aD I I oM) (pU I (fA underlying208 I zT3 I) (pK I (qL iT3 I (cO 0 I I)) (pU I (SU.eq (v':=vi ((n+atF L C i k * t) % p)) (zd4 I I oM) (zd7 vi (Int.tmod_eq_emod_of_nonneg oM))) (pU I (aS I) (pN (tN (rE (dR (s':=_::_::s) (.cons _ (.refl _)) ?_))))))))))));exact za6 (.inl I) results160 I ⟨I,I,I⟩
def x9 (p:Int)(z:Int×Int×Int):Int×Int×Int:=(if z.2.2 % 2=1 then z.1 * z.2.1 % p else z.1,z.2.1 * z.2.1 % p,z.2.2 / 2)
def Bb (p:Int):Nat→Int×Int×Int→Int
 | 0,z=>z.1
 | f+1,z=>if z.2.2=0 then z.1 else Bb p f (x9 p z)
def yj (p n:Int):Int:=Bb p 3 (1,n,p - 2)
theorem D7 {p n:Int}(hp:Fp p)(h0:0<n)(h1:n<p):0<yj p n∧yj p n<p∧yj p n * n % p=1:=by
 have key:∀ p:Nat,p<8→(p=2∨p=3∨p=5∨p=7)→∀ n:Nat,n<p→0<n→0<yj p n∧yj p n<p∧yj p n * n % p=1:=by decide
 have hl:=hp.lt;have:=key p.toNat oM (by unfold Fp at hp; omega) n.toNat oM oM;rwa [Int.toNat_of_nonneg oM,Int.toNat_of_nonneg oM] at this
theorem Ay {p:Int}{k:Nat}{z:Int×Int×Int}(h:z.2.2=0):Bb p k z=z.1:=by
 cases k with
 | zero=>rfl
 | succ k=>unfold Bb; rw[zf6 h]
theorem Em:∀ e:Nat,e<8→IntKind.i64.wrap (BitVec.ofInt IntKind.i64.bits (e:Int) &&& BitVec.ofInt IntKind.i64.bits 1).toNat=(e:Int) % 2:=by decide
theorem DA:∀ e:Nat,e<8→(e:Int).fdiv (2 ^ min (1:Int).toNat IntKind.i64.bits)=(e:Int) / 2:=by decide
theorem Cy {e:Int}(h:0≤e)(h8:e<8):IntKind.i64.wrap (BitVec.ofInt IntKind.i64.bits e &&& BitVec.ofInt IntKind.i64.bits 1).toNat=e % 2:=by
 have:=Em e.toNat oM;rwa [Int.toNat_of_nonneg h] at this
theorem yQ {e:Int}(h:0≤e)(h8:e<8):e.fdiv (2 ^ min (1:Int).toNat IntKind.i64.bits)=e / 2:=by
 have:=DA e.toNat oM;rwa [Int.toNat_of_nonneg h] at this
theorem mT {a p:Int}(h2:2≤p):0≤a % p∧a % p<p:=⟨zk2 _ oM,zk1 _ oM⟩
theorem BF {p:Int}{R C n:Nat}{v:Value}{ov:List Int}(h:n<ov.length):(lp p R C v ov)[0+4+n * 1]?=some (vi (ov.getD n 0)):=by
 unfold lp;rw[show 0+4+n * 1=n+4 by omega];simp[zg6,gE h]
theorem BE {p:Int}{R C n:Nat}{v:Value}{ov:List Int}(x:Int):(lp p R C v ov).setIfInBounds (0+4+n * 1) (vi x)=lp p R C v (ov.set n x):=by
 unfold lp;rw[show 0+4+n * 1=n+4 by omega];simp[List.map_set]
theorem Ov.set {p:Int}{ov:List Int}(h:Ov p ov){n:Nat}(hn:n<8){x:Int}(h0:0<x)(h1:x<p)(h2:x * n % p=1):Ov p (ov.set n x):=by
 refine⟨by rw[zh8]; exact h.1,fun i hi=>?_⟩;rw[zg6,List.getElem?_set];by_cases e:n=i
 ·subst e;rw[zf6 rfl,zf6 (by rw[h.1]; omega)];exact .inr ⟨h0,h1,h2⟩
 ·rw[zf5 e,← zg6];exact h.2 i hi
section
variable {P:Program}{N:Nat}{E:World}{Q:Exit→Act→World→Prop}{f:Fr}{g:PH}{s:Own}{bm:Nat}{p:Int}{R C:Nat}{v:Value}
theorem SC.openRed {c:Code}(i:Nat)(hi:s[i]?=some (yf bm p R C v))(h:∀ ov,Ov p ov→SC P N E c Q f g (s.set i (pt bm (.cells (lp p R C v ov) 203 (0,0))))):SC P N E c Q f g s:=fun a w ha hw=>by
 have h1:=hw.own _ (zf7 hi);have hf:=hw.fresh _ (zf7 hi);simp only[yf,Option.bind_some] at h1;obtain ⟨ov,hov,h2⟩:=h1;exact h ov hov a w ha (hw.turn hi I ⟨I,lR _⟩ I (lR _) (fun _ _ _=>I) (by simpa [pt] using h2) (fun b' hb'=>⟨(hf b' hb').2,.inl hb'⟩))
theorem oe {w:World}{ov:List Int}(i:Nat)(hi:s[i]?=some (pt bm (.cells (lp p R C v ov) 203 (0,0))))(hov:Ov p ov)(hw:At E g s w):At E g (s.set i (yf bm p R C v)) w:=by
 have h1:=hw.own _ (zf7 hi);have hf:=hw.fresh _ (zf7 hi);exact hw.turn hi I ⟨I,lR _⟩ I (lR _) (fun _ _ _=>I) ⟨ov,hov,by simpa [pt,yf] using h1⟩ (fun b' hb'=>⟨(hf b' hb').2,.inl hb'⟩)
theorem ST.closeRed {e:Exit}{ov:List Int}(i:Nat)(hi:s[i]?=some (pt bm (.cells (lp p R C v ov) 203 (0,0))))(hov:Ov p ov)(h:ST N E Q e f g (s.set i (yf bm p R C v))):ST N E Q e f g s:=fun a w ha hw=>h a w ha (oe i hi hov hw)
end
theorem tf (E:World)(g:PH)(s:Own)(p n:Int)(hp:Fp p)(R C b cE bm:Nat)(L:List Int)(h0:0<n)(h1:n<p) :
  Ctr Tryz.prog E 158 #[pp bm 0,vi n] g (gH p R C b cE bm L s) (fun x g' s'=>(∃ o,x=vi o∧0<o∧o<p∧o * n % p=1)∧g=g'∧s'=gH p R C b cE bm L s):=by
 have hl:=hp.lt;have hok:=D7 hp h0 h1;have hn:((n.toNat:Nat):Int)=n:=Int.toNat_of_nonneg oM;unfold gH;refine za9 (args:=[pp bm 0,vi n]) func158 I ntmps158 (bE I) ?_;refine SC.openRed 1 I fun ov hov=>?_;have hg:=BF (p:=p) (R:=R) (C:=C) (v:=.slice (some ⟨b,0,none⟩) (R * C) cE) (ov:=ov) (n:=n.toNat) (by rw[hov.1]; omega);have hon:=hov.2 n.toNat oM;rw[hn] at hon;refine rZ (aT I (sQ (sW I (lM I (lU (nC I) (lU (fA kC I sizeOf201 I) (lU (SU.indexAddrA underlying201 zT3 I I oM oM) (lK (qL (v:=vi (ov.getD n.toNat 0)) iT3 I (cO 1 I hg)) (lU (gR I I) (tZ ?_))))))))));refine iP I (fun hpos=>?_) (fun hpos=>?_)
 ·refine sW I (lM I (lU (nC I) (lU (fA kC I sizeOf201 I) (lU (SU.indexAddrA underlying201 zT3 I I oM oM) (lK (qL (v:=vi (ov.getD n.toNat 0)) iT3 I (cO 1 I hg)) (aT I (rE (tR ?_))))))));have hon2:0<ov.getD n.toNat 0∧ov.getD n.toNat 0<p∧ov.getD n.toNat 0 * n % p=1:=by
   rcases hon with h | h
   ·omega
   ·exact h
  refine ST.closeRed 1 I hov ?_;exact za6 (.inl I) results158 I ⟨⟨_,I,hon2⟩,I,I⟩
 ·refine kP (tN (sW I (lA I (aT I (sQ (sW I (lU (nC I) (lU (fA kC I eT I) (lU (fA fN I zT3 I) (lK (qL (v:=vi p) iT3 I (cO 1 I I)) (lU (sU I I oM) (aT I (bK ?_)))))))))))));refine oP (ι:=Nat×Int×Int×Int) (fun z=>[(0,pp bm 0),(1,vi n),(5,vi z.2.1),(6,vi z.2.2.1),(7,vi z.2.2.2)]) (fun _=>g) (fun _=>rowA encInt 3 (.slice (some ⟨b,0,none⟩) (R * C) cE) L::pt bm (.cells (lp p R C (.slice (some ⟨b,0,none⟩) (R * C) cE) ov) 203 (0,0))::s) (fun z=>Bb p z.1 z.2=yj p n∧0≤z.2.1∧z.2.1<p∧0≤z.2.2.1∧z.2.2.1<p∧0≤z.2.2.2∧z.2.2.2<2 ^ z.1∧z.1≤3) (fun z=>z.2.2.2.toNat) (3,1,n,p - 2) sB I I ⟨I,by dsimp only; omega,by dsimp only; omega,by dsimp only; omega,by dsimp only; omega,by dsimp only; omega,by show p - 2<8; omega,lR _⟩ ?_;rintro ⟨k,o,w,e⟩ ⟨hf,ho0,ho1,hw0,hw1,he0,he1,hk3⟩;dsimp only at hf ho0 ho1 hw0 hw1 he0 he1 hk3 ⊢;have he8:e<8:=by
   have:k=0∨k=1∨k=2∨k=3:=oM
   rcases this with h | h | h | h <;> subst h <;> (first | (have h2:(2:Int) ^ 0=1:=rfl; omega) | (have h2:(2:Int) ^ 1=2:=rfl; omega) | (have h2:(2:Int) ^ 2=4:=rfl; omega) | (have h2:(2:Int) ^ 3=8:=rfl; omega))
  have hb1:=tJ hl.2 ho0 ho1 hw0 hw1;have hb2:=tJ hl.2 hw0 hw1 hw0 hw1;have hm1:=mT (a:=o * w) hl.1;have hm2:=mT (a:=w * w) hl.1;refine sQ (sW I (lU (gR I I) (tZ ?_)));refine iP I (fun hgt=>?_) (fun hgt=>?_)
  ·have hk:∃ k',k=k'+1:=by
    cases k with
    | zero=>rw[Int.pow_zero] at he1; omega
    | succ k'=>exact⟨k',rfl⟩
   obtain ⟨k',rfl⟩:=hk;have hne:¬ e=0:=oM;have hf2:Bb p k' (x9 p (o,w,e))=yj p n:=by
    rw[← hf];show _=if e=0 then o else Bb p k' (x9 p (o,w,e))
    rw[zf5 hne]
   have he2:e / 2<2 ^ k':=by
    have:(2:Int) ^ (k'+1)=2 ^ k' * 2:=Int.pow_succ 2 k';omega
   refine kP (tN (sQ (bK (sQ (sW I (lU (SU.eq (v':=vi (e % 2)) (SU.and I I) (zd7 vi (Cy he0 he8))) (yE I (tZ ?_))))))));refine iP I (fun hodd=>?_) (fun hodd=>?_)
   ·refine rG (lM I (lM I (lU (SU.eq (v':=vi (o * w)) (SU.mulW I I) (zd7 vi (zk5 _ oM))) (lM I (lU (nC I) (lU (fA kC I eT I) (lU (fA fN I zT3 I) (lK (qL (v:=vi p) iT3 I (cO 1 I I)) (lU (SU.eq (v':=vi (o * w % p)) (zd4 I I oM) (zd7 vi (Int.tmod_eq_emod_of_nonneg hb1.1))) (aT I (rG (lM I (lM I (lU (SU.eq (v':=vi (w * w)) (SU.mulW I I) (zd7 vi (zk5 _ oM))) (lM I (lU (nC I) (lU (fA kC I eT I) (lU (fA fN I zT3 I) (lK (qL (v:=vi p) iT3 I (cO 1 I I)) (lU (SU.eq (v':=vi (w * w % p)) (zd4 I I oM) (zd7 vi (Int.tmod_eq_emod_of_nonneg hb2.1))) (lA I (nL (bN (tN (rG (lM I (lU (SU.eq (v':=vi (e / 2)) (SU.shr I I dC) (zd7 vi (yQ he0 he8))) ?_)))))))))))))))))))))))))));refine lA I (nL ?_);unfold x9 at hf2;rw[zf6 hodd] at hf2;exact gA (k',o * w % p,w * w % p,e / 2) sB I I ⟨hf2,hm1.1,hm1.2,hm2.1,hm2.2,by dsimp only; omega,he2,by dsimp only; omega⟩ (by dsimp only; omega)
   ·refine kP (tN (rG (lM I (lM I (lU (SU.eq (v':=vi (w * w)) (SU.mulW I I) (zd7 vi (zk5 _ oM))) (lM I (lU (nC I) (lU (fA kC I eT I) (lU (fA fN I zT3 I) (lK (qL (v:=vi p) iT3 I (cO 1 I I)) (lU (SU.eq (v':=vi (w * w % p)) (zd4 I I oM) (zd7 vi (Int.tmod_eq_emod_of_nonneg hb2.1))) (lA I (nL (bN (tN (rG (lM I (lU (SU.eq (v':=vi (e / 2)) (SU.shr I I dC) (zd7 vi (yQ he0 he8))) (lA I (nL ?_))))))))))))))))))));unfold x9 at hf2;rw[zf5 hodd] at hf2;exact gA (k',o,w * w % p,e / 2) sB I I ⟨hf2,ho0,ho1,hm2.1,hm2.2,by dsimp only; omega,he2,by dsimp only; omega⟩ (by dsimp only; omega)
  ·have he:e=0:=oM;subst he;rw[Ay rfl] at hf;have hf:o=yj p n:=hf;rw[← hf] at hok;have hl2:n.toNat<(lp p R C (.slice (some ⟨b,0,none⟩) (R * C) cE) ov).size - 4:=by
    unfold lp;simp[hov.1];omega
   refine xI (tX (tX (bX (tN (sW I (lM I (lM I (lU (nC I) (lU (fA kC I sizeOf201 I) (lU (SU.eq (v':=pp bm (0+4+n.toNat * 1)) (SU.indexAddrA underlying201 zT3 I I oM oM) I) (oZ (SO.store1 1 zT3 I I I I oM I) (tZ (sW I (aT I (rE ?_)))))))))))))));rw[BE];refine ST.closeRed 1 I (hov.set (n:=n.toNat) oM hok.1 hok.2.1 (by rw[hn]; exact hok.2.2)) ?_;exact za6 (.inl I) results158 I ⟨⟨_,I,hok⟩,I,I⟩
theorem Dl (w:World):(zeroValue 203).run Tryz.prog w = .ok (.agg (vi 0::vi 0::vi 0 :: .slice none 0 0::(List.replicate 998 (vi 0))).toArray) w:=by kernel_rfl
theorem Tryz.build203 (p:Int)(r c:Nat)(q:Option Addr)(n k:Nat)(w:World):(Instr.build 203 #[(0,.agg #[vi p,vi r,vi c,.slice q n k])]).run Tryz.prog w = .ok (.agg (lp p r c (.slice q n k) (List.replicate 998 0))) w:=by
 have h1:(Value.agg #[vi p,vi r,vi c,.slice q n k]).cells = #[vi p,vi r,vi c,.slice q n k]:=rfl;have h2:∀ l:List Value,(Value.agg (vi 0::vi 0::vi 0 :: .slice none 0 0::l).toArray).cells=(vi 0::vi 0::vi 0 :: .slice none 0 0::l).toArray:=fun _=>rfl;have hu:Tryz.prog.underlying 203=some (.struct (Tryz.prog.fieldsOf 203)):=by kernel_rfl
 have hf:Tryz.prog.fieldsOf 203 = #[(Tryz.prog.fieldsOf 203)[0]!,(Tryz.prog.fieldsOf 203)[1]!]:=by kernel_rfl
 have ho:((Tryz.prog.fieldsOf 203)[0]!).offset=0:=by kernel_rfl
 have ht:((Tryz.prog.fieldsOf 203)[0]!).type=62:=by kernel_rfl
 have ht2:((Tryz.prog.fieldsOf 203)[1]!).type=201:=by kernel_rfl
 simp only[Instr.build,Sem.run_bind,Dl,zc7,h2,run_underlying hu];rw[hf];simp[ho,ht,ht2,eT,sizeOf201,Instr.fill,h1,lp]
end Go.Proofs.YtkbagdedfdfjhaaGreatDoor
