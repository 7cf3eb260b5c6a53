/- 11 -/
import Derived.Test.YtbbppeihhkhkcaaGreatDoorMp10
import Derived.Test.YtbbppeihhkhkcaaGreatDoorMp02
import Derived.Test.YtbbppeihhkhkcaaGreatDoorMp09
import Derived.Test.YtbbppeihhkhkcaaGreatDoorMp03
import Derived.ChangeKeysEq
import Derived.Test.YtbbppeihhkhkcaaGreatDoorMp08
import Derived.Test.YtbbppeihhkhkcaaGreatDoorMp04
import Derived.Test.YtbbppeihhkhkcaaGreatDoorMp05
import Derived.Test.YtbbppeihhkhkcaaGreatDoorMp07
import Derived.Test.YtbbppeihhkhkcaaGreatDoorMp06
import Derived.Scope
import Derived.Shelf.SlSortCmp.NoneTotal
set_option linter.unusedSimpArgs false
set_option linter.unusedVariables false
namespace Go.Proofs.YtbbppeihhkhkcaaGreatDoor
open _root_.Go.Proofs.Tryz _root_.Go.Proofs.YtbbppeihhkhkcaaGreatDoor.Tryz
open Go Go.Sy Go.Pl Go.Proofs
set_option maxRecDepth 100000
set_option maxHeartbeats 1000000
def F0 (la lb:List Int)(n:Nat)(i:Nat):List Int:=if i=0 then List.replicate (la.length+lb.length) 0 else if lb=[] then [0] else [(n:Int),0]
def Gg (lb:List Int)(n:Nat)(i:Nat):List Int:=if i=0 then List.replicate (1+lb.length) 0 else [(n:Int),0]
theorem wZ (E:World)(g:PH)(s:Own)(v u:Value)(a b:Nat)(hv:SlA gz g v (eV a))(hu:SlA gz g u (eV b))(h:a * b<4294967296) :
  Ctr Tryz.prog E 186 #[v,u] g s (fun r g' s'=>s=s'∧Le g g'∧SlA gz g' r (eV (a * b))):=by
 obtain ⟨p1,c1,rfl⟩:=za4 hv;obtain ⟨p2,c2,rfl⟩:=za4 hu;have hl0:∀ k,(eV k).length≤1:=fun k=>by rcases cd k with ⟨h,-⟩ | ⟨h,-⟩ <;> rw[h] <;> simp
 have hl1:=hl0 a;have hl2:=hl0 b;have hca:=cd a;have hcb:=cd b;obtain ⟨n,hn⟩:∃ n,n=a * b:=⟨_,rfl⟩;rw[← hn] at h ⊢;generalize eV a=la at *;generalize eV b=lb at *;refine zb2 (args:=[.slice p1 la.length c1,.slice p2 lb.length c2]) func186 I ntmps186 (bE I) ?_;refine rZ (aT I (sW I (lU (eN bo I) (lM I (lU (eN bo I) (lU (SU.eq (v':=vi ((la.length+lb.length:Nat))) (aD I I oM) (ze2 vi oM)) (lW (mK gz 0 sty222 I I I oM oM) ?_)))))));rintro _ _ _ ⟨b17,rfl,rfl,rfl⟩;refine aT I (sQ (sW I (lU (eN bo I) (lM I (tZ (bK ?_))))));refine oP (ι:=Nat) (fun i=>[(0,.slice p1 la.length c1),(1,.slice p2 lb.length c2),(5,.slice (some ⟨b17,0,none⟩) (la.length+lb.length) (la.length+lb.length)),(18,.slice p1 la.length c1),(19,vi la.length),(20,vi i)]) (fun _=>g) (fun i=>rowA gz 145 (.slice (some ⟨b17,0,none⟩) (la.length+lb.length) (la.length+lb.length)) (F0 la lb n i)::s) (fun i=>i≤la.length) (fun i=>la.length - i) 0
  sB rfl rfl (zf6 _) ?_
 intro i hi;refine rZ (yL I (tZ (sQ ?_)));refine iP I (fun hlt=>?_) (fun hlt=>?_)
 ·rcases hca with ⟨rfl,ha⟩ | ⟨rfl,ha⟩
  ·exact absurd hlt (by simp)
  obtain rfl:i=0:=by simp at hi hlt; omega
  have hb1:=za6 hv Nat.zero_lt_one;refine kP (tN (sQ (bK (sW I (lU (iA bo dH I I hb1 dC (by simp[slen])) ?_)))));refine lK (eB iS I (za7 hv) (j:=0) I I) (lA I (aT I (rZ (aT I (sQ (sW I (lU (eN bo I) (lM I (tZ (bK ?_))))))))));refine oP (ι:=Nat) (fun i=>[(0,.slice p1 1 c1),(1,.slice p2 lb.length c2),(5,.slice (some ⟨b17,0,none⟩) (1+lb.length) (1+lb.length)),(18,.slice p1 1 c1),(19,vi 1),(20,vi 0),(6,vi 0),(7,.int .u64 (a:Int)),(8,.int .u64 0),(25,.slice p2 lb.length c2),(26,vi lb.length),(27,vi i)]) (fun _=>g) (fun i=>rowA gz 145 (.slice (some ⟨b17,0,none⟩) (1+lb.length) (1+lb.length)) (Gg lb n i)::s) (fun i=>i≤lb.length) (fun i=>lb.length - i) 0
   sB rfl rfl (zf6 _) ?_
  intro k hk;refine rZ (yL I (tZ (sQ ?_)));refine iP I (fun hkl=>?_) (fun hkl=>?_)
  ·rcases hcb with ⟨rfl,hb⟩ | ⟨rfl,hb⟩
   ·exact absurd hkl (by simp)
   obtain rfl:k=0:=by simp at hk hkl; omega
   have hb2:=za6 hu Nat.zero_lt_one;refine kP (tN (sQ (bK (sW I (lU (iA bo dH I I hb2 dC (by simp[slen])) ?_)))));refine lK (eB iS I (za7 hu) (j:=0) I I) (lA I (aT I (sW I (lM I (lM I (yD I (lU (iA bo dH I I I dC (by simp[slen])) ?_)))))));refine lK (eB iS I (zb7 0 I) (j:=0) I I) (lM I (lM I (lU (SU.eq (v':=.int .u64 (n:Int)) (SU.mulW I I) (ze2 (Value.int .u64) (by rw[← Int.natCast_mul,← hn,Da oM]))) ?_)));refine lU (SU.eq (v':=.int .u64 (n:Int)) (ze1 I I) (ze2 (Value.int .u64) (by rw[Da oM]; omega))) ?_;refine lM I (lU (SU.eq (v':=.int .u64 (n:Int)) (ze1 I I) (ze2 (Value.int .u64) (by rw[Da oM]; omega))) ?_);refine aT I (rG (lM I (lM I (lM I (yD I (lM I (lU (SU.eq (v':=.int .u64 (n:Int)) (SU.and I I) (ze2 (Value.int .u64) (by rw[qR _ oM,Nat.mod_eq_of_lt h]))) ?_)))))));refine lM I (lU (SU.eq (v':=.int .u64 0) (SU.shr I I dC) (ze2 (Value.int .u64) (jY _ _ dC dC h))) (lU (iA bo dH I I I dC (by simp[slen])) ?_));refine oZ (sT (e:=gz) (a:=(n:Int)) (j:=0) 0 dH I I I (bE I) I) (lA I (nL (bN (tN (rG (yD I (lM I (nL ?_))))))));exact ST.again 1 sB I I (lR _) Nat.zero_lt_one
  ·obtain rfl:k=lb.length:=oM;have hlen:(Gg lb n lb.length).length=1+lb.length:=by
    unfold Gg;split
    ·simp
    ·simp; omega
   have hset:(Gg lb n lb.length).set lb.length 0=F0 [(a:Int)] lb n 1:=by
    rcases hcb with ⟨rfl,hb⟩ | ⟨rfl,hb⟩
    ·rfl
    ·rfl
   refine xI (tX (tX (bX (tN (rG (lM I (lM I (lM I (lU (eN bo I) (lU (SU.eq (v':=vi (lb.length:Nat)) (aD I I oM) (ze2 vi oM)) (lM I (lU (iA bo dH I I I oM sL) (oZ (sT (e:=gz) (a:=0) (j:=lb.length) 0 dH I I I oM I) (nL (bN (tN (rG (yD I (lM I (nL ?_))))))))))))))))))));exact ST.again 1 sB I (by rw[← hset]; rfl) (lR _) Nat.zero_lt_one
 ·obtain rfl:i=la.length:=oM;have hlen:(F0 la lb n la.length).length=la.length+lb.length:=by
   rcases hca with ⟨rfl,ha⟩ | ⟨rfl,ha⟩ <;> rcases hcb with ⟨rfl,hb⟩ | ⟨rfl,hb⟩ <;> rfl
  have hfin:dq (F0 la lb n la.length)=eV n:=by
   rcases hca with ⟨rfl,ha⟩ | ⟨rfl,ha⟩
   ·subst ha;rw[Nat.zero_mul] at hn;subst hn
    rcases hcb with ⟨rfl,hb⟩ | ⟨rfl,hb⟩ <;> rfl
   ·rcases hcb with ⟨rfl,hb⟩ | ⟨rfl,hb⟩
    ·subst hb;rw[Nat.mul_zero] at hn;subst hn;rfl
    ·exact nh _
  refine xI (tX (tX (bX (tN (sQ (fS fun g1 hle1 hs1=>?_))))));refine rG (lM I (lW (cL call232 I (jZ E g1 _ _ (F0 la lb n la.length) (by unfold SlA; rw[hlen]; rw[hlen] at hs1; exact hs1) oM)) ?_));rintro v63 _ _ ⟨rfl,rfl,hm⟩;refine aT I (rE ?_);rw[hfin] at hm;exact za8 (.inl I) results186 I ⟨I,hle1,hm⟩
theorem ws {k:Nat}(h:k<4294967296):gV (eV k)=eJ k:=by
 have h1:=pM (k:Int) (by rw[Int.natAbs_natCast]; omega);rw[Int.natAbs_natCast] at h1;rw[← h1];have h2:vm (k:Int)=[(k:Int),0]:=by
  unfold vm;rw[Int.natAbs_natCast,Nat.mod_eq_of_lt h,Nat.div_eq_of_lt h];rfl
 have h3:dq (eV k)=eV k:=by
  rcases cd k with ⟨e,h0⟩ | ⟨e,h0⟩
  ·rw[e]; rfl
  ·rw[← iV k,iV k,e,iV k,e]
 unfold gV;rw[h3,h2,nh]
theorem uA {k:Nat}(h:k<18446744073709551616):eJ k=[]↔k=0:=by
 refine⟨fun e=>?_,fun e=>by subst e; rfl⟩;have:=jr h;rw[e] at this;exact this.symm
theorem od {neg:Bool}{k:Nat}{z:Int}(hk:k=z.natAbs)(h:k<4294967296)(hn:k≠0→neg=decide (z<0)):qJ neg (gV (eV k))=dK z:=by
 rw[ws h];subst hk;show Value.agg #[vb (neg&&decide (eJ z.natAbs≠[])),txt (eJ z.natAbs)]=Value.agg #[vb (decide (z<0)&&decide (eJ z.natAbs≠[])),txt (eJ z.natAbs)];by_cases h0:z.natAbs=0
 ·have:eJ z.natAbs=[]:=(uA oM).2 h0;rw[this];simp
 ·rw[hn h0]
theorem kK {z:Int}(h:z.natAbs<4294967296):dK z = .agg #[vb (decide (z<0)),txt (eJ z.natAbs)]:=by
 show Value.agg #[vb (decide (z<0)&&decide (eJ z.natAbs≠[])),txt (eJ z.natAbs)]=_;by_cases h0:z.natAbs=0
 ·have:¬ z<0:=oM;simp[this]
 ·have:eJ z.natAbs≠[]:=fun e=>h0 ((uA oM).1 e);simp[this]
theorem SU.neqB {P:Program}{N:Nat}{f:Fr}{dst:Option Tmp}{ty:TypeId}{pos:String}{af:Array Edge}{gd:Option (Nat×Bool)}{x y:Operand}{T U:TypeId}{a b:Bool}(hT:P.underlying T=some .bool)(hx:ev f x=some (vb a))(hy:ev f y=some (vb b)) :
  SU P N ⟨dst,.binOp .neq T x y U,ty,pos,af,gd⟩ f (.bool (!(a == b))):=fun ac w ha=>by
 have hg:(eqGuard .neq T x y (.bool a) (.bool b)).run P w = .ok () w:=by simp[eqGuard]
 have hb:=run_neq_bool (P:=P) w T a b hT;simp only[execOp,ha.ev hx,ha.ev hy,Sem.run_bind,hg,zd1,hb];rfl
theorem SU.eqlB' {P:Program}{N:Nat}{f:Fr}{dst:Option Tmp}{ty:TypeId}{pos:String}{af:Array Edge}{gd:Option (Nat×Bool)}{x y:Operand}{T U:TypeId}{a b:Bool}(hT:P.underlying T=some .bool)(hx:ev f x=some (vb a))(hy:ev f y=some (vb b)) :
  SU P N ⟨dst,.binOp .eql T x y U,ty,pos,af,gd⟩ f (.bool (a == b)):=fun ac w ha=>by
 have hg:(eqGuard .eql T x y (.bool a) (.bool b)).run P w = .ok () w:=by simp[eqGuard]
 have hb:=run_eql_bool (P:=P) w T a b hT;simp only[execOp,ha.ev hx,ha.ev hy,Sem.run_bind,hg,zd1,hb];rfl
theorem nP (E:World)(g:PH)(s:Own)(n m:Int)(hn:n.natAbs<4294967296)(hm:m.natAbs<4294967296)(h:(n * m).natAbs<4294967296) :
  Ctr Tryz.prog E 128 #[dK n,dK m] g s (fun r g' s'=>r=dK (n * m)∧s=s'∧Le g g'):=by
 have hfin:qJ (decide (n<0) != decide (m<0)) (gV (eV (n.natAbs * m.natAbs)))=dK (n * m):=by
  refine od (Int.natAbs_mul n m).symm (by rwa [Int.natAbs_mul] at h) fun h0=>?_;have h1:n≠0:=by rintro rfl; simp at h0
  have h2:m≠0:=by rintro rfl; simp at h0
  rcases Int.lt_or_gt_of_ne h1 with a | a <;> rcases Int.lt_or_gt_of_ne h2 with b | b
  ·have:=Int.mul_pos_of_neg_of_neg a b;rw[zf8 a,zf8 b,zf7 oM]; rfl
  ·have:=Int.mul_neg_of_neg_of_pos a b;rw[zf8 a,zf7 oM,zf8 this]; rfl
  ·have:=Int.mul_neg_of_pos_of_neg a b;rw[zf7 oM,zf8 b,zf8 this]; rfl
  ·have:=Int.mul_pos a b;rw[zf7 oM,zf7 oM,zf7 oM]; rfl
 rw[Int.natAbs_mul] at h;rw[← hfin,kK hn,kK hm];have e1:=jr (m:=n.natAbs) oM;have e2:=jr (m:=m.natAbs) oM;have l1:=lQ hn;have l2:=lQ hm;generalize eJ n.natAbs=B at *;generalize eJ m.natAbs=C at *;generalize decide (n<0)=x at *;generalize decide (m<0)=y at *;rw[← e1,← e2] at h ⊢;clear e1 e2 hfin hn hm n m;rw[show (x != y) = !(x == y) from rfl];refine zb2 (args:=[.agg #[vb x,txt B],.agg #[vb y,txt C]]) func128 I ntmps128 (bE I) ?_;refine rZ (bW (bO I) fun b2=>?_);refine bW (bO I) fun b3=>?_;refine bW (aL zl8) fun b4=>?_;refine tZ (sQ ?_);refine dW [11] [(0,1),(2,1),(5,2),(6,1),(7,2),(8,1),(9,2),(1,0),(3,0),(4,0),(10,0),(11,0)] ze3 kR ?_;refine pK I (qV 2 mi gP I I I) (pK I (qV 1 mi gP I I I) (pU I (fA tP I zT4 I) (pK I (qL iT4 I (cO 2 I I)) (pU I (fA tP I zT4 I) (pK I (qL iT4 I (cO 1 I I)) (pU I (SU.neqB uT4 I I) (SP.o I (cL call185 I (l9 E _ _ x B l1)) dC (.inr iR) ?_)))))));rintro v6 g1 _ ⟨rfl,hle1,hs1⟩;refine SP.o rfl (cL call185 rfl (l9 E _ _ y C l2)) dC (.inr (by rintro v8 g2 _ ⟨rfl,hle2,hs2⟩; exact⟨by exact Le.trans (by assumption) (by assumption),(by exact .refl _)⟩)) ?_;rintro v8 g2 _ ⟨rfl,hle2,hs2⟩;have h12:=hle1.trans hle2;refine SP.o rfl (cL call186 rfl (wZ E _ _ v6 v8 (beN B) (beN C) (za5 hs1 hle2) hs2 h)) dC (.inr (by rintro v9 g3 _ ⟨rfl,hle3,hs3⟩; exact⟨by exact Le.trans (by assumption) (by assumption),(by exact .refl _)⟩)) ?_;rintro v9 g3 _ ⟨rfl,hle3,hs3⟩;have h13:=h12.trans hle3;refine SP.o rfl (cL call187 rfl (ge E _ _ v9 _ _ hs3 (by rcases cd (beN B * beN C) with ⟨e,-⟩ | ⟨e,-⟩ <;> rw[e] <;> simp))) dC (.inr (by rintro _ g4 _ ⟨rfl,rfl,hle4⟩; exact⟨by exact Le.trans (by assumption) (by assumption),(by exact .refl _)⟩)) ?_;rintro _ g4 _ ⟨rfl,rfl,hle4⟩;refine SP.on I (sK 0 gP I I I I I sB) (.inl dC) ?_;rintro _ _ _ ⟨rfl,rfl⟩;refine pN (tN (rE ?_));exact ST.retCD 0 s (.inl I) results128 I mi gP I I uR ⟨I,I,hle1.trans (hle2.trans (hle3.trans hle4))⟩
theorem sV (k:Nat):(eV k).length<1099511627776:=by rcases cd k with ⟨e,-⟩ | ⟨e,-⟩ <;> rw[e] <;> simp
def F2 (x:Bool)(b:Nat)(y:Bool)(c:Nat):Value:=if (x == y)=true then qJ x (gV (eV (b+c))) else if b<c then qJ y (gV (eV (c - b))) else qJ x (gV (eV (b - c)))
theorem yS (b c:Nat):C4 b c<0↔b<c:=by
 unfold C4;split
 ·simp; omega
 ·split <;> simp <;> omega
theorem wt (E:World)(g:PH)(s:Own)(x y:Bool)(B C:List UInt8)(l1:B.length≤4)(l2:C.length≤4)(h:beN B+beN C<4294967296) :
  Ctr Tryz.prog E 184 #[.agg #[vb x,txt B],.agg #[vb y,txt C]] g s (fun r g' s'=>r=F2 x (beN B) y (beN C)∧s=s'∧Le g g'):=by
 obtain ⟨V,hV⟩:∃ V,V=F2 x (beN B) y (beN C):=⟨_,rfl⟩;rw[← hV];unfold F2 at hV;refine zb2 (args:=[.agg #[vb x,txt B],.agg #[vb y,txt C]]) func184 I ntmps184 (bE I) ?_;refine rZ (bW (bO I) fun b2=>?_);refine bW (bO I) fun b3=>?_;refine bW (aL zl8) fun b4=>?_;refine tZ (sQ ?_);refine dW [] [(0,1),(2,1),(1,0),(3,0),(4,2),(5,2)] ze3 kR ?_;refine pK I (qV 2 mi gP I I I) (pK I (qV 1 mi gP I I I) (SP.o I (cL call185 I (l9 E _ _ x B l1)) dC (.inr iR) ?_));rintro v6 g1 _ ⟨rfl,hle1,hs1⟩;refine SP.o rfl (cL call185 rfl (l9 E _ _ y C l2)) dC (.inr (by rintro v8 g2 _ ⟨rfl,hle2,hs2⟩; exact⟨by exact Le.trans (by assumption) (by assumption),(by exact .refl _)⟩)) ?_;rintro v8 g2 _ ⟨rfl,hle2,hs2⟩;have h12:=hle1.trans hle2;have hs1:=za5 hs1 hle2;refine pU I (aS I) (pU I (aS I) (pN (tN (sQ (bK (rZ (lU (fA tP I zT4 I) (lK (qL iT4 I (cO 2 I I)) (lU (fA tP I zT4 I) (lK (qL iT4 I (cO 1 I I)) (lU (SU.eqlB' uT4 I I) (aT I ?_))))))))))));refine iQ I (fun hxy=>?_) (fun hxy=>?_)
 ·rw[zg1 hxy] at hV;subst hV;refine sQ ?_;refine dW [6] [(0,2),(1,2),(3,2),(4,1),(2,0),(5,0),(6,0)] ze3 kR ?_;refine yM I (yM I (pU I (fA tP I zT4 I) (pK I (qL iT4 I (cO 2 I I)) (SP.o I (cL call229 I (w8 E _ _ v6 v8 (beN B) (beN C) hs1 hs2 h)) dC (.inr iR) ?_))));rintro v9 g3 _ ⟨rfl,hle3,hs3⟩;have h13:=h12.trans hle3;refine SP.o rfl (cL call187 rfl (ge E _ _ v9 _ _ hs3 (sV _))) dC (.inr (by rintro _ g4 _ ⟨rfl,rfl,hle4⟩; exact⟨by exact Le.trans (by assumption) (by assumption),(by exact .refl _)⟩)) ?_;rintro _ g4 _ ⟨rfl,rfl,hle4⟩;have h14:=h13.trans hle4;refine SP.on I (sK 0 gP I I I I I sB) (.inl dC) ?_;rintro _ _ _ ⟨rfl,rfl⟩;refine pN (tN (rE (bR (tR ?_))));exact ST.retCD 0 s (.inl I) results184 I mi gP I I uR ⟨I,I,h14⟩
 ·rw[zf9 (by rw[hxy]; decide)] at hV;refine sW I (lM I (lW (cL call230 I (w4 E _ _ v6 v8 (beN B) (beN C) hs1 hs2)) ?_));rintro _ _ _ ⟨rfl,rfl,rfl⟩;refine yL I (aT I ?_);refine iP I (fun hc=>?_) (fun hc=>?_)
  ·rw[yS] at hc;rw[zg1 hc] at hV;subst hV;refine sQ ?_;refine dW [6] [(0,2),(1,2),(3,2),(4,1),(2,0),(5,0),(6,0)] ze3 kR ?_;refine yM I (yM I (pU I (fA tP I zT4 I) (pK I (qL iT4 I (cO 1 I I)) (SP.o I (cL call231 I (qq E _ _ v8 v6 (beN C) (beN B) hs2 hs1 oM oM)) dC (.inr iR) ?_))));rintro v9 g3 _ ⟨rfl,hle3,hs3⟩;have h13:=h12.trans hle3;refine SP.o rfl (cL call187 rfl (ge E _ _ v9 _ _ hs3 (sV _))) dC (.inr (by rintro _ g4 _ ⟨rfl,rfl,hle4⟩; exact⟨by exact Le.trans (by assumption) (by assumption),(by exact .refl _)⟩)) ?_;rintro _ g4 _ ⟨rfl,rfl,hle4⟩;have h14:=h13.trans hle4;refine SP.on I (sK 0 gP I I I I I sB) (.inl dC) ?_;rintro _ _ _ ⟨rfl,rfl⟩;refine pN (tN (rE (bR (tR ?_))));exact ST.retCD 0 s (.inl I) results184 I mi gP I I uR ⟨I,I,h14⟩
  ·rw[yS] at hc;rw[zf9 hc] at hV;subst hV;refine kP (bN (tN (sQ ?_)));refine dW [6] [(0,2),(1,2),(3,2),(4,1),(2,0),(5,0),(6,0)] ze3 kR ?_;refine yM I (yM I (pU I (fA tP I zT4 I) (pK I (qL iT4 I (cO 2 I I)) (SP.o I (cL call231 I (qq E _ _ v6 v8 (beN B) (beN C) hs1 hs2 oM oM)) dC (.inr iR) ?_))));rintro v9 g3 _ ⟨rfl,hle3,hs3⟩;have h13:=h12.trans hle3;refine SP.o rfl (cL call187 rfl (ge E _ _ v9 _ _ hs3 (sV _))) dC (.inr (by rintro _ g4 _ ⟨rfl,rfl,hle4⟩; exact⟨by exact Le.trans (by assumption) (by assumption),(by exact .refl _)⟩)) ?_;rintro _ g4 _ ⟨rfl,rfl,hle4⟩;have h14:=h13.trans hle4;refine SP.on I (sK 0 gP I I I I I sB) (.inl dC) ?_;rintro _ _ _ ⟨rfl,rfl⟩;refine pN (tN (rE ?_));exact ST.retCD 0 s (.inl I) results184 I mi gP I I uR ⟨I,I,h14⟩
theorem FX {n m:Int}(h:n.natAbs+m.natAbs<4294967296):F2 (decide (n<0)) n.natAbs (decide (m<0)) m.natAbs=dK (n+m):=by
 unfold F2;split
 ·rename_i e;have e:=eq_of_beq e;have e':(n<0↔m<0):=by simpa [decide_eq_decide] using e
  refine od oM h fun h0=>?_;rw[decide_eq_decide];omega
 ·rename_i e;have e':¬ (n<0↔m<0):=by simpa [decide_eq_decide] using e
  split
  ·refine od oM oM fun h0=>?_;rw[decide_eq_decide];omega
  ·refine od oM oM fun h0=>?_;rw[decide_eq_decide];omega
theorem vw (E:World)(g:PH)(s:Own)(n m:Int)(h:n.natAbs+m.natAbs<4294967296) :
  Ctr Tryz.prog E 184 #[dK n,dK m] g s (fun r g' s'=>r=dK (n+m)∧s=s'∧Le g g'):=by
 rw[← FX h,kK oM,kK oM];have e1:=jr (m:=n.natAbs) oM;have e2:=jr (m:=m.natAbs) oM;have:=wt E g s (decide (n<0)) (decide (m<0)) (eJ n.natAbs) (eJ m.natAbs) (lQ oM) (lQ oM) (by rw[e1,e2]; exact h);rwa [e1,e2] at this
abbrev Pr:=Int×Int
def Ring (adj:Pr→Pr→Bool)(l:List Pr):Prop:=l≠[]∧∀ x∈l,∃ y∈l,y≠x∧adj x y=true
def Cyc (adj:Pr→Pr→Bool)(m:List Pr):Prop:=∃ l,Ring adj l∧∀ x∈l,x∈m
inductive Pth (adj:Pr→Pr→Bool)(m:List Pr):Pr→Pr→Prop
 | one (x y:Pr) (hy:y∈m) (hne:y≠x) (ha:adj x y=true):Pth adj m x y
 | cons (x y z:Pr) (hy:y∈m) (hne:y≠x) (ha:adj x y=true) (h:Pth adj m y z):Pth adj m x z
def adjS (S:Int→List Int)(x y:Pr):Bool:=(S x.2).contains y.1
section
variable {p:Pr}{S:Int→List Int}{T:List Pr}
end
def GW (l:List Cl)(h:Int):List Int:=((findC l h).getD cJ).sides.map Side.cell
structure Vd (l:List Cl)(T:List Pr):Prop where
 once:(T.map Prod.fst++T.map Prod.snd).Nodup
 side:∀ q∈T,q.1∈GW l q.2
 free:¬ Cyc (adjS (GW l)) T
section
variable {l:List Cl}(hl:(aG l).2=0)
include hl
end
structure Gd8 (l:List Cl):Prop where
 right:Rt (aa l)
 ids:∀ c∈l,0<c.id∧c.id≤4000
def iT:Enc Pr 2:=⟨fun p=>[vi p.1,vi p.2],fun _=>rfl,fun _ u hu=>by simp at hu; rcases hu with rfl | rfl <;> rfl,by decide⟩
theorem Tryz.sty40:STy Tryz.prog 40 76 2 16 (.agg #[vi 0,vi 0]):=⟨underlying40,⟨t76,by kernel_rfl,by kernel_rfl,by kernel_rfl,by kernel_rfl⟩,rfl,by decide⟩
theorem Tryz.build76 (a b:Int)(w:World):(Instr.build 76 #[(0,vi a),(1,vi b)]).run Tryz.prog w = .ok (.agg #[vi a,vi b]) w:=by
 have h1:∀ n,(vi n).cells = #[vi n]:=fun _=>rfl;simp[Instr.build,Instr.fill,h1];rfl
end Go.Proofs.YtbbppeihhkhkcaaGreatDoor
namespace Go.Sy
open Go Go.MapKept
def mpE (b:Nat)(l:List (Int×Value))(j:Nat)(st:Int):Ent:=⟨some b,fun oo=>∃ es clk,oo=some (.map es clk)∧jn l es clk∧∃ e,es[j]?=some e∧(e.born:Int)=st⟩
section
variable {P:Program}{w:World}{t kt et:TypeId}{z:Value}{b:Nat}{es:Array MapEntry}{clk:Nat}{l:List (Int×Value)}
theorem oK (hT:MTy P t kt et z)(hb:w.heap[b]?=some (.map es clk))(hm:jn l es clk)(k:Int) :
  ∃ es' clk' st j l',(Instr.mapEntry t (.map (some b)) (vi k)).run P w = .ok (.tuple #[(df l k).getD z,vi st]) { w with heap:=w.heap.setIfInBounds b (.map es' clk') }∧jn l' es' clk'∧(∃ e,es'[j]?=some e∧(e.born:Int)=st)∧(∃ u,l'[j]?=some (k,u))∧∀ u,dG l k u=l'.set j (k,u):=by
 have hf:=gN k es.toList l 0 hm.1;have h1:=MapKept.run_findKey (w:=w) hT.key hf;have h2:=MapKept.run_checkKey (P:=P) (w:=w) hT.key (k:=vi k) rfl false 9999;have hlen:es.toList.length=l.length:=by have:=ze2 List.length hm.1; simpa using this
 have hsz:es.size=l.length:=by simpa using hlen
 rcases oC k l 0 with ⟨hn,hne⟩ | ⟨j,u,hs,hj,hput⟩
 ·refine⟨es.push { key:=vi k,val:=z,born:=clk },clk+1,clk,l.length,l++[(k,z)],?_,⟨?_,?_⟩,?_,?_,?_⟩
  ·have hg:df l k=none:=by unfold df; rw[hn]; rfl
   rw[hn] at h1;rw[hg];simp[Instr.mapEntry,run_underlying hT.und,MapKept.run_getObj_map hb,h2,h1,hT.zero w,MapKept.run_setObj_map _ hb,goInt]
  ·simp[hm.1,im,eT]
  ·refine stamped_push hm.2 ?_;intro x hx e;have:im x∈l.map eT:=by rw[← hm.1]; exact zf2.2 ⟨x,hx,I⟩
   obtain ⟨p,hp,hpe⟩:=zf2.1 this;simp only[eT,im,Prod.mk.injEq] at hpe;refine hne p hp ?_;rw[e] at hpe;simpa using hpe.1
  ·refine⟨{ key:=vi k,val:=z,born:=clk },?_,I⟩;rw[← hsz];simp
  ·exact⟨z,by simp⟩
  ·intro u;rw[gS k u l hne];simp
 ·have hjl:j<es.toList.length:=by rw[hlen]; exact (zf5.1 hj).1
  have hkey:(es.toList[j]).key=vi k:=by
   have h3:=ze2 (·[j]?) hm.1;simp only[zh9,hj,Option.map_some,gE hjl,zg7,im,eT,Prod.mk.injEq] at h3;exact h3.1
  have hje:es[j]?=some es.toList[j]:=by simp at hjl; simp[hjl]
  have hg:df l k=some u:=by unfold df; rw[hs]; rfl
  rw[hs,Nat.zero_add] at h1;have hkey':∀ h:j<es.size,es[j].key=vi k:=fun h=>by simpa using hkey
  refine⟨es.modify j fun e=>{ e with key:=vi k },clk,(es.toList[j].born:Nat),j,l,?_,⟨?_,?_⟩,?_,⟨u,hj⟩,hput⟩
  ·have h4:=MapKept.run_keyThatStays (P:=P) (w:=w) (d:=.int .i64) (k:=vi k) rfl;rw[hg];simp[Instr.mapEntry,run_underlying hT.und,MapKept.run_getObj_map hb,h2,h1,hje,hkey',h4,MapKept.run_setObj_map _ hb,goInt]
  ·apply List.ext_getElem?;intro q;have h3:=ze2 (·[q]?) hm.1;simp only[zh9] at h3;rw[zh9,zh9,Array.toList_modify,List.getElem?_modify];by_cases hq:j=q
   ·subst hq;rw[← h3];simp only[gE hjl,if_true,Option.map_some,im];rw[hkey];rfl
   ·simp only[hq,if_false];simpa using h3
  ·exact stamped_modify hm.2 _ _ (fun _ _=>I) (fun e' _ he'=>by
    rw[hje] at he';injection he' with he'
    rw[← he',hkey])
  ·refine⟨{ es.toList[j] with key:=vi k },?_,I⟩;rw[Array.getElem?_modify,zg1 rfl,hje];rfl
theorem m5 (hb:w.heap[b]?=some (.map es clk))(hm:jn l es clk){j:Nat}{e:MapEntry}(he:es[j]?=some e){k:Int}(hk:∃ u,l[j]?=some (k,u))(v:Value) :
  ∃ es' clk',(Instr.entryStore t (.map (some b)) (vi (e.born:Int)) v).run P w = .ok () { w with heap:=w.heap.setIfInBounds b (.map es' clk') }∧jn (l.set j (k,v)) es' clk':=by
 obtain ⟨u,hu⟩:=hk;have hlen:es.toList.length=l.length:=by have:=ze2 List.length hm.1; simpa using this
 obtain ⟨hj,hje⟩:=Array.getElem?_eq_some_iff.1 he;have hidx:es.findIdx? (fun x=>(x.born:Int) == (e.born:Int))=some j:=by
  rw[Array.findIdx?_eq_some_iff_getElem];refine⟨hj,by rw[hje]; simp,fun i hi h=>?_⟩;have hnd:=hm.2.2.1;have h5:(es[i]'oM).born=es[j].born:=by
   have h':(((es[i]'oM).born:Nat):Int)=(e.born:Int):=by simpa using h
   rw[hje];omega
  have h6:(es.toList.map (·.born))[i]'(by simp; omega)=(es.toList.map (·.born))[j]'(by simp; omega):=by simpa using h5
  have:=(List.getElem_inj hnd).1 h6;omega
 refine⟨es.modify j fun x=>{ x with val:=v },clk,?_,?_,?_⟩
 ·simp[Instr.entryStore,MapKept.run_getObj_map hb,asInt,asIntOf,hidx,MapKept.run_setObj_map _ hb]
 ·apply List.ext_getElem?;intro q;have h3:=ze2 (·[q]?) hm.1;simp only[zh9] at h3;rw[zh9,zh9,List.getElem?_set,Array.toList_modify,List.getElem?_modify];by_cases hq:j=q
  ·subst hq;have hjl:j<l.length:=(zf5.1 hu).1;have hjt:j<es.toList.length:=oM;rw[hu,gE hjt] at h3;simp only[Option.map_some,zg7,im,eT,Prod.mk.injEq] at h3;simp only[gE hjt,if_true,hjl,Option.map_some,eT];show some (es.toList[j].key,v)=some (vi k,v);rw[h3.1]
  ·simp only[hq,if_false];simpa using h3
 ·exact stamped_modify hm.2 _ _ (fun _ _=>I) (fun e' _ he'=>I)
end
section
variable {P:Program}{N:Nat}{E:World}{f:Fr}{g:PH}{s:Own}{dst:Option Tmp}{ty:TypeId}{pos:String}{af:Array Edge}{gd:Option (Nat×Bool)}
variable {t kt et:TypeId}{z:Value}{b:Nat}{l:List (Int×Value)}{x y u:Operand}{k:Int}{v:Value}
theorem SO.mapEntry (i:Nat)(hT:MTy P t kt et z)(hx:ev f x=some (.map (some b)))(hy:ev f y=some (vi k))(hi:s[i]?=some (mp b l)) :
  SO P N E ⟨dst,.mapEntry t x y,ty,pos,af,gd⟩ f g s fun v' g' s'=>∃ st j l',v' = .tuple #[(df l k).getD z,vi st]∧g=g'∧s'=s.set i (mpE b l' j st)∧(∃ u,l'[j]?=some (k,u))∧∀ u,dG l k u=l'.set j (k,u) :=
 SO.of_run fun a w ha hw=>by
  obtain ⟨es,clk,h1,h2⟩:=hw.own _ (zg2 hi);have hb:w.heap[b]?=some (.map es clk):=by simpa [mp] using h1
  obtain ⟨es',clk',st,j,l',hr,hm',he,hk,hp⟩:=oK hT hb h2 k;have hfr:=hw.fresh _ (zg2 hi) b rfl;obtain ⟨e1,e2⟩:=MapKept.heap_set (o':=.map es' clk') hb;refine⟨_,_,g,s.set i (mpE b l' j st),by simp[execOp,ha.ev hx,ha.ev hy,hr]; rfl,?_,st,j,l',rfl,rfl,rfl,hk,hp⟩;refine hw.turn hi I ⟨I,(by exact lR _)⟩ I (by simp) (fun q _ hne=>e2 q (fun e=>hne (by simp[mp,e]))) ⟨es',clk',by simpa [mpE] using e1,hm',he⟩ (fun b' hb'=>?_);simp only[mpE,zg7] at hb';subst hb';exact⟨by simpa using hfr.2,.inl I⟩
theorem SO.entryStore {j:Nat}{st:Int}(i:Nat)(hx:ev f x=some (.map (some b)))(hy:ev f y=some (vi st))(hu:ev f u=some v)(hi:s[i]?=some (mpE b l j st))(hk:∃ u,l[j]?=some (k,u)) :
  SO P N E ⟨dst,.entryStore t x y u,ty,pos,af,gd⟩ f g s fun _ g' s'=>g=g'∧s'=s.set i (mp b (l.set j (k,v))) :=
 SO.of_skip fun a w ha hw=>by
  obtain ⟨es,clk,h1,h2,e,he,hst⟩:=hw.own _ (zg2 hi);have hb:w.heap[b]?=some (.map es clk):=by simpa [mpE] using h1
  subst hst;obtain ⟨es',clk',hr,hm'⟩:=m5 (P:=P) (t:=t) hb h2 he hk v;have hfr:=hw.fresh _ (zg2 hi) b rfl;obtain ⟨e1,e2⟩:=MapKept.heap_set (o':=.map es' clk') hb;refine⟨_,g,s.set i (mp b (l.set j (k,v))),by simp[execOp,ha.ev hx,ha.ev hy,ha.ev hu,hr]; rfl,?_,rfl,rfl⟩;refine hw.turn hi I ⟨I,(by exact lR _)⟩ I (by simp) (fun q _ hne=>e2 q (fun e=>hne (by simp[mpE,e]))) ⟨es',clk',by simpa [mp] using e1,hm'⟩ (fun b' hb'=>?_);simp only[mp,zg7] at hb';subst hb';exact⟨by simpa using hfr.2,.inl I⟩
end
end Go.Sy
namespace Go.Sy
open Go
section
variable {P:Program}{M:Md}{N:Nat}{E:World}{Q:Exit→Act→World→Prop}{f:Fr}{g:PH}{s:Own}{dst:Option Tmp}{ty:TypeId}{pos:String}{af:Array Edge}{gd:Option (Nat×Bool)}
end
end Go.Sy
namespace Go.Proofs.YtbbppeihhkhkcaaGreatDoor
open _root_.Go.Proofs.Tryz _root_.Go.Proofs.YtbbppeihhkhkcaaGreatDoor.Tryz
open Go Go.Sy Go.Pl Go.Proofs
set_option maxRecDepth 100000
set_option maxHeartbeats 1000000
set_option maxHeartbeats 2000000
theorem vK (E:World)(g:PH)(s:Own)(v:Value)(l:List Cl)(hv:ar g v l)(hf:ci l) :
  Ctr Tryz.prog E 41 #[.agg #[v]] g s (fun r g' s'=>r=vb (decide ((aG l).2=0))∧g=g'∧s=s'):=by
 obtain ⟨q,d,rfl⟩:=hv.form;refine zb2 (args:=[.agg #[.slice q l.length d]]) func41 I ntmps41 (bE I) ?_;refine rZ (bW (bO I) fun b1=>?_);refine aT I (rZ (lK (qV 0 ba aC I I I) (lW (cL call14 I (kS E g _ _ l hv hf)) ?_)));rintro _ _ _ ⟨rfl,rfl,rfl⟩;refine lM I (yX I (yX I (lA I (aT I (sW I (yE I (aT I (rE (dR (s':=s) uR ?_)))))))));exact za8 (.inl I) results41 I ⟨I,I,I⟩
section
variable {P:Program}{N:Nat}{E:World}{f:Fr}{g:PH}{s:Own}{dst:Option Tmp}{ty:TypeId}{pos:String}{af:Array Edge}{gd:Option (Nat×Bool)}
variable {t kt et:TypeId}{z:Value}{b:Nat}{l:List (Int×Value)}{x y u:Operand}{k:Int}{v:Value}
theorem SO.insertK (i:Nat)(hT:MTy P t kt et z)(hx:ev f x=some (.map (some b)))(hy:ev f y=some (vi k))(hu:ev f u=some v)(hi:s[i]?=some (mp b l)) :
  SO P N E ⟨dst,.insert t x y u,ty,pos,af,gd⟩ f g s fun _ g' s'=>g=g'∧s'=s.set i (mp b (dG l k v)) :=
 SO.of_skip fun a w ha hw=>by
  obtain ⟨es,clk,h1,h2⟩:=hw.own _ (zg2 hi);have hb:w.heap[b]?=some (.map es clk):=by simpa [mp] using h1
  obtain ⟨es',clk',hr,hm'⟩:=jo hT hb h2 k v;have hfr:=hw.fresh _ (zg2 hi) b rfl;obtain ⟨e1,e2⟩:=MapKept.heap_set (o':=.map es' clk') hb;refine⟨_,g,s.set i (mp b (dG l k v)),by simp[execOp,ha.ev hx,ha.ev hy,ha.ev hu,hr]; rfl,?_,rfl,rfl⟩;refine hw.turn hi I ⟨I,(by exact lR _)⟩ I (by simp) (fun q _ hne=>e2 q (fun e=>hne (by simp[mp,e]))) ⟨es',clk',by simpa [mp] using e1,hm'⟩ (fun b' hb'=>?_);simp only[mp,zg7] at hb';subst hb';exact⟨by simpa using hfr.2,.inl I⟩
end
def m8:List (Int×Value):=[(1,.func (.func 105) #[] #[]),(2,.func (.func 106) #[] #[]),(3,.func (.func 107) #[] #[]),(4,.func (.func 108) #[] #[]),(5,.func (.func 109) #[] #[])]
theorem Tryz.mtyKinds:∃ z,MTy Tryz.prog 93 3 91 z:=⟨_,rfl,rfl,fun _=>rfl⟩
theorem nt (E:World)(g:PH)(s:Own):Ctr Tryz.prog E 40 #[] g s (fun r g' s'=>s=s'∧Le g g'∧∃ b,r = .map (some b)∧Mp g' b m8):=by
 obtain ⟨z,hty⟩:=Tryz.mtyKinds;refine zb2 (args:=[]) func40 I ntmps40 (bE I) ?_;refine rZ (aT I (rZ (lW (SO.mkMap) ?_)));rintro _ _ _ ⟨b1,rfl,rfl,rfl⟩;refine lO (SO.insertK 0 hty I I I I) ?_;rintro _ _ _ ⟨rfl,rfl⟩;refine lO (SO.insertK 0 hty I I I I) ?_;rintro _ _ _ ⟨rfl,rfl⟩;refine lO (SO.insertK 0 hty I I I I) ?_;rintro _ _ _ ⟨rfl,rfl⟩;refine lO (SO.insertK 0 hty I I I I) ?_;rintro _ _ _ ⟨rfl,rfl⟩;refine lO (SO.insertK 0 hty I I I I) ?_;rintro _ _ _ ⟨rfl,rfl⟩;refine lM I (aT I (rE ?_));refine ST.to (g':=g) (s':=mp b1 m8::s) (fun w hw=>hw) ?_;refine ST.freezeMap fun g1 hle1 hm=>?_;exact za8 (.inl I) results40 I ⟨I,hle1,b1,I,hm⟩
end Go.Proofs.YtbbppeihhkhkcaaGreatDoor
namespace Go.Sy
open Go Go.MapKept
def tU:List (Int×Value)→Int→List (Int×Value)
 | [],_=>[]
 | (a,v)::r,k=>if k=a then r else (a,v)::tU r k
theorem uy (k:Int):∀ (l:List (Int×Value)),(∀ p∈l,p.1≠k)→tU l k=l
 | [],_=>rfl
 | (a,u)::r,h=>by
  have h1:k≠a:=fun e=>h (a,u) (by simp) e.symm;simp only[tU,h1,if_false,uy k r (fun p hp=>h p (by simp[hp]))]
theorem Bj (k:Int):∀ (l:List (Int×Value)) (i:Nat),(fnd k l i=none∧∀ p∈l,p.1≠k)∨∃ j v,fnd k l i=some (i+j,v)∧j<l.length∧tU l k=l.eraseIdx j
 | [],_=>.inl ⟨rfl,by simp⟩
 | (a,v)::r,i=>by
  by_cases h:k=a
  ·subst h;exact .inr ⟨0,v,by simp[fnd],by simp,by simp[tU]⟩
  ·rcases Bj k r (i+1) with ⟨h1,h2⟩ | ⟨j,v',h1,h2,h3⟩
   ·refine .inl ⟨by simp[fnd,h,h1],fun p hp=>?_⟩
    rcases zf1.1 hp with e | e
    ·rw[e]; exact fun e2=>h e2.symm
    ·exact h2 p e
   ·exact .inr ⟨j+1,v',by simp[fnd,h,h1]; omega,by simpa using h2,by simp[tU,h,h3]⟩
theorem ph {α β:Type}(f:α→β):∀ (l:List α) (j:Nat),(l.eraseIdx j).map f=(l.map f).eraseIdx j
 | [],_=>rfl
 | _::_,0=>rfl
 | x::l,j+1=>ze2 (List.cons (f x)) (ph f l j)
section
variable {P:Program}{w:World}{t kt et ty:TypeId}{z:Value}{b:Nat}{es:Array MapEntry}{clk:Nat}{l:List (Int×Value)}
theorem re (hT:MTy P t kt et z)(hb:w.heap[b]?=some (.map es clk))(hm:jn l es clk)(k:Int) :
  ∃ es' clk',(Builtin.delete_ #[t,kt] ty #[.map (some b),vi k]).run P w = .ok (.tuple #[]) { w with heap:=w.heap.setIfInBounds b (.map es' clk') }∧jn (tU l k) es' clk':=by
 have hf:=gN k es.toList l 0 hm.1;have h1:=MapKept.run_findKey (w:=w) hT.key hf;have h2:=MapKept.run_checkKey (P:=P) (w:=w) hT.key (k:=vi k) rfl es.isEmpty 9999;have hlen:es.toList.length=l.length:=by have:=ze2 List.length hm.1; simpa using this
 rcases Bj k l 0 with ⟨hn,hne⟩ | ⟨j,u,hs,hj,hdel⟩
 ·refine⟨es,clk,?_,?_⟩
  ·rw[hn] at h1;simp[Builtin.delete_,run_underlying hT.und,MapKept.run_getObj_map hb,h2,h1,MapKept.run_setObj_map _ hb,Result.andThen]
  ·rw[uy k l hne];exact hm
 ·rw[hs,Nat.zero_add] at h1;refine⟨es.eraseIdxIfInBounds j,clk,?_,?_,stamped_erase hm.2 j⟩
  ·simp[Builtin.delete_,run_underlying hT.und,MapKept.run_getObj_map hb,h2,h1,MapKept.run_setObj_map _ hb,Result.andThen]
  ·have hjs:j<es.size:=by
    have h3:j<es.toList.length:=oM;simpa using h3
   rw[hdel];unfold Array.eraseIdxIfInBounds;rw[dif_pos hjs,Array.toList_eraseIdx,ph,hm.1,← ph]
end
section
variable {P:Program}{N:Nat}{E:World}{ops:Array Oper}{Q:Exit→Act→World→Prop}{f:Fr}{g:PH}{s:Own}{dst:Option Tmp}{ty:TypeId}{pos:String}{af:Array Edge}{gd:Option (Nat×Bool)}
variable {t kt et:TypeId}{z:Value}{b:Nat}{l:List (Int×Value)}{x y:Operand}{k:Int}
theorem SO.delete (i:Nat)(hT:MTy P t kt et z)(hx:ev f x=some (.map (some b)))(hy:ev f y=some (vi k))(hi:s[i]?=some (mp b l)) :
  SO P N E ⟨dst,.call ⟨.builtin .delete,#[x,y],#[t,kt]⟩,ty,pos,af,gd⟩ f g s fun _ g' s'=>g=g'∧s'=s.set i (mp b (tU l k)) :=
 SO.of_run fun a w ha hw=>by
  obtain ⟨es,clk,h1,h2⟩:=hw.own _ (zg2 hi);have hb:w.heap[b]?=some (.map es clk):=by simpa [mp] using h1
  obtain ⟨es',clk',hr,hm'⟩:=re (ty:=ty) hT hb h2 k;have hfr:=hw.fresh _ (zg2 hi) b rfl;obtain ⟨e1,e2⟩:=MapKept.heap_set (o':=.map es' clk') hb;refine⟨_,_,g,s.set i (mp b (tU l k)),by simp[execOp,resolve,invoke,builtin,ha.ev hx,ha.ev hy,hr]; exact⟨I,I⟩,?_,I,I⟩;refine hw.turn hi I ⟨I,(by exact lR _)⟩ I (by simp) (fun q _ hne=>e2 q (fun e=>hne (by simp[mp,e]))) ⟨es',clk',by simpa [mp] using e1,hm'⟩ (fun b' hb'=>?_);simp only[mp,zg7] at hb';subst hb';exact⟨by simpa using hfr.2,.inl I⟩
end
end Go.Sy
namespace Go.Sy
open Go
section
variable {P:Program}{N:Nat}{E:World}{f:Fr}{g:PH}{s:Own}{dst:Option Tmp}{ty:TypeId}{pos:String}{af:Array Edge}{gd:Option (Nat×Bool)}
theorem SQ.loadOne {x:Operand}{T:TypeId}{b o:Nat}{v:Value}(hT:∀ w,(isAgg T).run P w = .ok true w)(hk:∀ w,(sizeOf T).run P w = .ok 1 w)(hx:ev f x=some (pp b o))(hc:hZ g s ⟨b,o,none⟩ v) :
  SQ P N E ⟨dst,.load T x,ty,pos,af,gd⟩ f g s (.agg #[v]) :=
 SQ.loadAggAt (vs:=[v]) hT hk hx rfl fun j u hu=>by
  cases j with
  | zero=>simp at hu; subst hu; exact hc
  | succ j=>simp at hu
end
section
variable {α:Type}{k:Nat}{P:Program}{N:Nat}{E:World}{f:Fr}{g:PH}{s:Own}{dst:Option Tmp}{ty:TypeId}{pos:String}{af:Array Edge}{gd:Option (Nat×Bool)}
theorem SO.appNewA {e:Enc α k}{bytes:Nat}{x y:Operand}{t T:TypeId}{z u:Value}{p:Option Addr}{m:List α}(hT:STy P t T k bytes z)(hx:ev f x=some (.slice p 0 0))(hy:ev f y=some u)(hu:SlA e g u m)
  (hb:m.length * bytes≤140737488355328) (hlen:m.length≤4611686018427387904) :
  SO P N E ⟨dst,.call ⟨.builtin .append,#[x,y],#[t,t]⟩,ty,pos,af,gd⟩ f g s fun v' g' s'=>g=g'∧s'=rowA e T v' m::s:=fun a w ha hw =>
 aQ (e:=e) (l:=[]) (s:=rowA e T (.slice p 0 0) []::s) 0 hT hx hy rfl hu (by simpa using hb) (by simpa using hlen) a w ha (hw.emptyRow T k p)
end
section
variable {P:Program}{N:Nat}{E:World}{f:Fr}{g:PH}{s:Own}{fn:Func}{R:Value→PH→Own→Prop}{e:Exit}
theorem ST.retCCT {T U T' U':TypeId}{t t' u b b' k k':Nat}{cs cs':Array Value}{fr fr':Nat×Nat}{x:Value}(i i':Nat)(s':Own)(he:e = .ret∨e = .normal)(hr:fn.results = #[.cell t T,.cell t' T',.tmp u])(hv:bh f t=some (pp b 0))(hv':bh f t'=some (pp b' 0))(hu:bh f u=some x)
  (hT:∀ w,(isAgg T).run P w = .ok true w) (hk:∀ w,(sizeOf T).run P w = .ok k w) (hT':∀ w,(isAgg T').run P w = .ok true w) (hk':∀ w,(sizeOf T').run P w = .ok k' w)
  (hs:s[i]?=some (pt b (.cells cs U fr))) (hc:cs.size=k) (hsb:s[i']?=some (pt b' (.cells cs' U' fr'))) (hc':cs'.size=k') (hs':s'.Sublist s) (hR:R (.tuple #[.agg cs,.agg cs',x]) g s'):ST N E (bodyPost P fn (qW E R)) e f g s :=
 fun a w ha hw=>by
  have h1:=fB (P:=P) hw hT (by rw[hc]; exact hk) hs;have h1':=fB (P:=P) hw hT' (by rw[hc']; exact hk') hsb;have h2:=ha.at_ t _ hv;have h2':=ha.at_ t' _ hv';have h5:=ha.at_ u _ hu;simp only[Array.getD_eq_getD_getElem?] at h2 h2' h5;have h3:(results fn a.tmps).run P w = .ok (.tuple #[.agg cs,.agg cs',x]) w:=by simp[results,hr,asAddr,pp,h2,h2',h1,h1',h5]
  have h4:qW E R (.returned (.tuple #[.agg cs,.agg cs',x])) w:=⟨_,g,s',rfl,hw.sublist hs',hR⟩
  rcases he with rfl | rfl
  ·exact⟨ha.defers,_,h3,h4⟩
  ·exact⟨ha.defers,_,h3,h4⟩
end
end Go.Sy
namespace Go.Proofs.YtbbppeihhkhkcaaGreatDoor
open _root_.Go.Proofs.Tryz _root_.Go.Proofs.YtbbppeihhkhkcaaGreatDoor.Tryz
open Go Go.Sy Go.Pl Go.Proofs
def eE:List Cl→Cl→List Cl
 | [],c=>[c]
 | x::l,c=>if c.id=x.id then c::l else x::eE l c
def iZ:List Rc→Rc→List Rc
 | [],c=>[c]
 | x::l,c=>if c.id=x.id then c::l else x::iZ l c
def qT:List Cl→Int→List Cl
 | [],_=>[]
 | x::l,k=>if k=x.id then l else x::qT l k
def oN:List Rc→Int→List Rc
 | [],_=>[]
 | x::l,k=>if k=x.id then l else x::oN l k
theorem jg (r:Rc):∀ rs:List Rc,dG (rs.map ah) r.id (rcv r)=(iZ rs r).map ah
 | []=>rfl
 | x::rs=>by
  simp only[zg4,ah,dG,iZ];by_cases h:r.id=x.id
  ·rw[zg1 h,zg1 h]; rfl
  ·rw[zf9 h,zf9 h];exact ze2 _ (jg r rs)
theorem o5 (k:Int):∀ rs:List Rc,tU (rs.map ah) k=(oN rs k).map ah
 | []=>rfl
 | x::rs=>by
  simp only[zg4,ah,tU,oN];by_cases h:k=x.id
  ·rw[zg1 h,zg1 h]
  ·rw[zf9 h,zf9 h];exact ze2 _ (o5 k rs)
theorem kh {R:Cl→Rc→Prop}(hR:∀ c r,R c r→r.id=c.id){c:Cl}{r:Rc}(h:R c r):∀ {B:List Cl} {rs:List Rc},aF R B rs→aF R (eE B c) (iZ rs r)
 | [],[],_=>⟨h,trivial⟩
 | x::B,y::rs,h2=>by
  have e1:=hR _ _ h;have e2:=hR _ _ h2.1;unfold eE iZ;rw[e1,e2];split
  ·exact⟨h,h2.2⟩
  ·exact⟨h2.1,kh hR h h2.2⟩
 | [],_::_,h2=>h2.elim
 | _::_,[],h2=>h2.elim
theorem l7 {R:Cl→Rc→Prop}(hR:∀ c r,R c r→r.id=c.id)(k:Int):∀ {B:List Cl} {rs:List Rc},aF R B rs→aF R (qT B k) (oN rs k)
 | [],[],_=>trivial
 | x::B,y::rs,h2=>by
  have e2:=hR _ _ h2.1;unfold qT oN;rw[e2];split
  ·exact h2.2
  ·exact⟨h2.1,l7 hR k h2.2⟩
 | [],_::_,h2=>h2.elim
 | _::_,[],h2=>h2.elim
theorem oy {c:Cl}:∀ {B:List Cl},(∀ x∈B,x.id≠c.id)→eE B c=B++[c]
 | [],_=>rfl
 | x::B,h=>by
  have h1:¬ c.id=x.id:=fun e=>h x (by simp) e.symm;unfold eE;rw[zf9 h1,oy fun y hy=>h y (by simp[hy])];rfl
theorem ye {c:Rc}:∀ {B:List Rc},(∀ x∈B,x.id≠c.id)→iZ B c=B++[c]
 | [],_=>rfl
 | x::B,h=>by
  have h1:¬ c.id=x.id:=fun e=>h x (by simp) e.symm;unfold iZ;rw[zf9 h1,ye fun y hy=>h y (by simp[hy])];rfl
theorem yf {c y:Cl}:∀ {B:List Cl},y∈eE B c→y=c∨y∈B
 | [],h=>by simpa [eE] using h
 | x::B,h=>by
  unfold eE at h;split at h
  ·rcases zf1.1 h with e | e
   ·exact .inl e
   ·exact .inr (by simp[e])
  ·rcases zf1.1 h with e | e
   ·exact .inr (by simp[e])
   ·rcases yf e with e | e
    ·exact .inl e
    ·exact .inr (by simp[e])
theorem fH {c:Cl}:∀ {B:List Cl},(B.map Cl.id).Nodup→((eE B c).map Cl.id).Nodup
 | [],_=>by simp[eE]
 | x::B,h=>by
  rw[zg4,zk3] at h;unfold eE;split
  ·rename_i e;rw[zg4,zk3,e];exact h
  ·rename_i e;rw[zg4,zk3];refine⟨fun hm=>?_,fH h.2⟩;obtain ⟨y,hy,e2⟩:=zf2.1 hm
   rcases yf hy with e3 | e3
   ·exact e (by rw[← e3]; exact e2)
   ·exact h.1 (by rw[← e2]; exact zf2.2 ⟨y,e3,I⟩)
theorem qy (k:Int):∀ {B:List Cl},(B.map Cl.id).Nodup→qT B k=B.filter fun c=>!decide (c.id=k)
 | [],_=>rfl
 | x::B,h=>by
  rw[zg4,zk3] at h;unfold qT;by_cases e:k=x.id
  ·rw[zg1 e,zi7];have h1:∀ y∈B,(!decide (y.id=k))=true:=fun y hy=>by
    have:y.id≠k:=fun e2=>h.1 (by rw[← e,← e2]; exact zf2.2 ⟨y,hy,I⟩);simpa using this
   rw[List.filter_eq_self.2 h1];simp[e]
  ·rw[zf9 e,zi7,qy k h.2];have:(!decide (x.id=k))=true:=by simpa using fun e2=>e e2.symm
   rw[zg1 this]
theorem uh {α:Type}{key:α→Int}{l m:List α}(h:l.Perm m)(hn:(l.map key).Nodup):aA key l m:=by
 refine⟨h.length_eq.symm,fun c=>?_⟩;have hp:=h.filter (fun a=>key a == c);have hone:∀ q:List α,(q.map key).Nodup→(q.filter fun a=>key a == c).length≤1:=by
  intro q;induction q with
  | nil=>intro _; simp
  | cons x r ih =>
   intro hq;rw[zg4,zk3] at hq;rw[zi7];by_cases e:(key x == c)=true
   ·rw[zg1 e];have:r.filter (fun a=>key a == c)=[]:=lD fun y hy e2=>hq.1 (by
     have e1:key x=c:=by simpa using e
     rw[e1,← e2];exact zf2.2 ⟨y,hy,I⟩)
    rw[this];simp
   ·rw[zf9 e];exact ih hq.2
 have h1:=hone l hn
 match hl:l.filter (fun a=>key a == c),hm:m.filter (fun a=>key a == c) with
 | [],[]=>rfl
 | [],y::t=>rw[hl,hm] at hp; exact absurd hp.length_eq (by simp)
 | x::t,[]=>rw[hl,hm] at hp; exact absurd hp.length_eq (by simp)
 | x::t,y::u =>
  rw[hl,hm] at hp;rw[hl] at h1;have ht:t=[]:=zf4 (by simpa using h1);subst ht;have:=hp.length_eq;have hu:u=[]:=zf4 (by simpa using this.symm);subst hu;have:=hp.subset (List.mem_cons_self ..);simp at this;rw[this]
theorem vP {l m:List Cl}(h:l.Perm m)(hn:(l.map Cl.id).Nodup):aa l=aa m:=by
 have:sortBy Cl.id l=sortBy Cl.id m:=(ck l).unique (ck m) ((eu l).symm.trans ((uh h hn).trans (eu m)));unfold aa;rw[this]
set_option maxRecDepth 100000
set_option maxHeartbeats 1000000
structure Ed where
 kind:Int
 cell:Int
 dim:Int
 new:Int
 other:Int
 sides:List Side
 pairs:List Pr
def EdR (g:PH)(v:Value)(e:Ed):Prop:=∃ sv pv,v = .agg #[vi e.kind,vi e.cell,vi e.dim,vi e.new,vi e.other,sv,pv]∧SlA encSide g sv e.sides∧SlA iT g pv e.pairs
theorem EdR.mono {g g':PH}{v:Value}{e:Ed}(h:EdR g v e)(hl:Le g g'):EdR g' v e:=by
 obtain ⟨sv,pv,h1,h2,h3⟩:=h;exact⟨sv,pv,h1,za5 h2 hl,za5 h3 hl⟩
abbrev edP (bx:Nat)(u:Value)(mb ms:Nat)(bk:Bool):Ent:=pt bx (.cells #[u,.map (some mb),.map (some ms),vb bk] 156 (0,0))
theorem Tryz.build156 (u:Value)(h:u.cells = #[u])(x y:Option Nat)(w:World):(Instr.build 156 #[(0,.agg #[u]),(1,.map x),(2,.map y)]).run Tryz.prog w = .ok (.agg #[u,.map x,.map y,vb false]) w:=by
 have h2:∀ x,(Value.map x).cells = #[.map x]:=fun _=>rfl;have h3:(Value.agg #[u]).cells = #[u]:=rfl;simp[Instr.build,Instr.fill,h2,h3];rfl
theorem Ax {R:Cl→Rc→Prop}(hR:∀ c r,R c r→r.id=c.id){tl:List Cl}{rs:List Rc}(h:aF R tl rs)(k:Int):∃ r,(df (rs.map ah) k).getD (.agg #[vi 0,vi 0,.slice none 0 0])=rcv r∧(df (rs.map ah) k).isSome=(am tl k).isSome:=by
 rcases fJ hR h k with ⟨h1,h2⟩ | ⟨c,r,h1,h2,h3⟩
 ·exact⟨vk,by rw[h2]; rfl,by unfold am; rw[h1,h2]; rfl⟩
 ·exact⟨r,by rw[h2]; rfl,by unfold am; rw[h1,h2]; rfl⟩
theorem we (E:World)(g:PH)(s:Own)(v:Value)(l:List Side)(hv:SlA encSide g v l)(hn:l.length<1099511627776) :
  Ctr Tryz.prog E 110 #[v] g s (fun r g' s'=>g=g'∧s'=rowA encSide 75 r l::s):=by
 obtain ⟨p,c,rfl⟩:=za4 hv;refine zb2 (args:=[.slice p l.length c]) func110 I ntmps110 (bE I) ?_;refine rZ (aT I (sQ (sW I (lU (SU.eqlNil aY I I) (tZ ?_)))));refine iQ I (fun hp=>?_) (fun hp=>?_)
 ·refine rZ (aT I (rE (tR ?_)));have hl:l=[]:=by
   cases l with
   | nil=>rfl
   | cons x r =>
    have hb:=za6 hv (by simp);cases p with
    | none=>simp[based] at hb
    | some q=>simp at hp
  subst hl;refine ST.nilRow 75 2 ?_;exact za8 (.inl I) results110 I ⟨I,I⟩
 ·refine kP (tN (rZ (lW (bS sty39 I I I (ae trivial) dC) ?_)));rintro _ _ _ ⟨b5,rfl,rfl,rfl⟩;refine SL.emptyRow 75 2 (some ⟨b5,0,none⟩) (lM I (lW (SO.appendE (m:=l.length) 0 l.length (l.flatMap encSide.enc) sty39 I I I I I (Sl.rd hv) (encSide.length l) (encSide.ones l) oM (by simp) oM oM) ?_));rintro r7 _ _ ⟨rfl,rfl⟩;refine aT I (rE (dR (s':=rowA encSide 75 r7 l::s) (.cons_cons _ (.cons _ (.refl _))) ?_));exact za8 (.inl I) results110 I ⟨I,I⟩
theorem DH (E:World)(g:PH)(s:Own)(v:Value)(l:List Cl)(hv:ar g v l)(hf:ci l)(hnd:((aa l).map Cl.id).Nodup) :
  Ctr Tryz.prog E 42 #[.agg #[v]] g s (fun r g' s'=>Le g g'∧∃ bx u mb ms rs,r=pp bx 0∧ar g' u (aa l)∧aF kY (aa l) rs∧s'=edP bx u mb ms false::mp mb (rs.map ah)::mp ms []::(gy (aa l) rs++s)):=by
 have hfc:=ct hf;refine zb2 (args:=[.agg #[v]]) func42 I ntmps42 (bE I) ?_;refine rZ (bW (bO I) fun b1=>?_);refine aT I (rZ (lK (qV 0 ba aC I I I) (lW (cL call53 I (kT E g _ v l hv hf)) ?_)));rintro _ g1 _ ⟨rfl,hle1,u,rfl,hc⟩;have hcc:=hc;obtain ⟨rs,hrs,hall⟩:=hc;obtain ⟨q,d,rfl⟩:=za4 hrs;refine lW (SO.mkMap) ?_;rintro _ _ _ ⟨b8,rfl,rfl,rfl⟩;refine lW (SO.mkMap) ?_;rintro _ _ _ ⟨b9,rfl,rfl,rfl⟩;refine lU (za3 I (build156 _ I _ _)) (bW (bO I) fun b11=>?_);refine aT I (sQ (sW I (lU (nC I) (lU (fA de I aC I) (lU (fA eH I ee I) (lK (qL fX I (cO 0 I I)) (lU (eN aJ I) (lM I (tZ (bK ?_))))))))));generalize aa l=A at *;have hrl:=hall.length;have hAl:=hfc.1;refine oP (ι:=Nat×List Rc) (fun i=>[(3,pp b11 0),(16,.slice q rs.length d),(17,vi rs.length),(18,vi i.1)]) (fun _=>g1)
  (fun i=>edP b11 (.slice q rs.length d) b8 b9 false::mp b9 []::mp b8 (i.2.map ah)::pt b1 (.cells #[v] 29 (0,0))::(gy (A.take i.1) i.2++s))
  (fun i=>i.1≤rs.length∧aF kY (A.take i.1) i.2) (fun i=>rs.length - i.1) (0,[])
  sB rfl rfl ⟨zf6 _,by simp[aF]⟩ ?_
 rintro ⟨k,acc⟩ ⟨hk,hacc⟩;dsimp only at hk hacc ⊢;have hal:=hacc.length;refine rZ (yL I (tZ (sQ ?_)));refine iP I (fun hlt=>?_) (fun hlt=>?_)
 ·have hkr:k<rs.length:=oM;have hkl:k<A.length:=oM;have hb1:=za6 hrs oM;have hcr:=hall.get (gE hkl) (gE hkr);have hgx:rs[((k:Nat):Int).toNat]?=some rs[k]:=gE hkr;have htk:A.take (k+1)=A.take k++[A[k]]:=tS hkl;have hxl:=hfc.2 _ (gM hkl);have hnew:∀ x∈acc,x.id≠A[k].id:=fun x hx=>by
   obtain ⟨i,hi,rfl⟩:=zc7 hx;have hi2:i<(A.take k).length:=oM;have hi3:i<k:=by rw[ze4] at hi2; omega
   have h1:=(hacc.get (gE hi2) (gE hi)).1;rw[h1,List.getElem_take];intro e;have h2:=zc9.1 (List.nodup_iff_pairwise_ne.1 hnd) i k (by rw[ze6]; omega) (by rw[ze6]; omega) hi3;simp only[List.getElem_map] at h2;exact h2 e
  generalize rs[k]=x at *;generalize A[k]=cx at *;obtain ⟨xi,xd,xp,xn,xc⟩:=x;obtain ⟨e1,e2,hxsl⟩:=hcr;dsimp only at e1 e2 hxsl;have hxn:xn=cx.sides.length:=zc2 hxsl;subst hxn e1 e2;refine kP (tN (sQ (bK (rZ (lU (iA aJ aq I I hb1 oM (show (k:Int)<((rs.length:Nat):Int) by omega)) ?_)))));refine lK (eA dL aq I (za7 hrs) hgx) (bW (aL zl4) fun b5=>?_);refine oZ (sK 0 aq I I I I I sB) ?_;refine tZ (rZ (lU (fA au I bQ I) (lK (qL (v:=.slice xp cx.sides.length xc) cZ I (cO 0 I I)) (lW (cL call110 I (we E g1 _ _ cx.sides hxsl hxl)) ?_))));rintro v24 _ _ ⟨rfl,rfl⟩;refine zd3 fun ⟨w0,hw0⟩=>?_;obtain ⟨q2,d2,rfl⟩:=ag (e:=encSide) (l:=cx.sides) (i:=0) hw0 rfl;clear hw0 w0;refine lU (fA au rfl bQ rfl) (oZ (SO.store1 1 bQ rfl rfl rfl rfl (bE rfl) (by rfl)) ?_);refine tZ ?_;refine dW [7] [(0,2),(1,2),(2,2),(3,1),(4,2),(5,1),(6,1),(7,0)] ze3 kR ?_;refine yM I (pU I (nC I) (pU I (fA de I eC I) (pK I (qL eD I (cO 2 I I)) (pU I (fA au I zT3 I) (pK I (qL iT3 I (cO 1 I I)) (pK I (qV 1 dL aq I I I) (SP.on I (SO.mapUpdate 4 mty125 I I I I) (.inl dC) ?_)))))));rintro _ _ _ ⟨rfl,rfl⟩;refine pN (bN (tN (rG (yD I (lM I (nL ?_))))));refine ST.to (fun w hw=>?_) (g':=g1) (s':=edP b11 (.slice q rs.length d) b8 b9 false::mp b9 []::mp b8 ((acc++[(⟨cx.id,cx.dim,⟨q2,cx.sides.length,d2⟩⟩:Rc)]).map ah)::pt b1 (.cells #[v] 29 (0,0))::(gy (A.take (k+1)) (acc++[(⟨cx.id,cx.dim,⟨q2,cx.sides.length,d2⟩⟩:Rc)])++s)) ?_
  ·rw[htk,qj cx _ hal];have hput:dG (acc.map ah) cx.id (rcv ⟨cx.id,cx.dim,⟨q2,cx.sides.length,d2⟩⟩)=(acc++[(⟨cx.id,cx.dim,⟨q2,cx.sides.length,d2⟩⟩:Rc)]).map ah:=by
    rw[← ye hnew];exact jg ⟨cx.id,cx.dim,⟨q2,cx.sides.length,d2⟩⟩ acc
   rw[← hput];have h1:=(hw.sublist (s':=Dd cx ⟨cx.id,cx.dim,⟨q2,cx.sides.length,d2⟩⟩::(edP b11 (.slice q rs.length d) b8 b9 false::mp b9 []::mp b8 (dG (acc.map ah) cx.id (rcv ⟨cx.id,cx.dim,⟨q2,cx.sides.length,d2⟩⟩))::pt b1 (.cells #[v] 29 (0,0))::gy (A.take k) acc)++s) (.cons_cons _ (.cons _ (.refl _))));have h2:=h1.perm List.perm_middle.symm;simpa using h2
  exact ST.again (k+1,_) sB I I ⟨by dsimp only; omega,by
   dsimp only;rw[htk];exact hacc.append ⟨⟨I,I,I⟩,trivial⟩⟩ (by dsimp only; omega)
 ·have hkk:A.take k=A:=tL oM;rw[hkk] at hacc ⊢;refine xI (tX (tX (bX (tN (sW I (aT I (rE ?_)))))));refine ST.to (g':=g1) (s':=edP b11 (.slice q rs.length d) b8 b9 false::mp b8 (acc.map ah)::mp b9 []::(gy A acc++s)) (fun w hw=>(hw.perm (List.Perm.cons _ (zk1 _ _ _))).sublist (.cons_cons _ (.cons_cons _ (.cons_cons _ (.cons _ (.refl _)))))) ?_;exact za8 (.inl I) results42 I ⟨hle1,b11,_,b8,b9,acc,I,hcc,hacc,I⟩
theorem ce (E:World)(g:PH)(s:Own)(bx mb ms:Nat)(u:Value)(bk:Bool)(k:Int)(R:Cl→Rc→Prop)(hR:∀ c r,R c r→r.id=c.id)(B:List Cl)(rs:List Rc)(hall:aF R B rs)(i j:Nat)(hi:s[i]?=some (edP bx u mb ms bk))(hj:s[j]?=some (mp mb (rs.map ah))) :
  Ctr Tryz.prog E 166 #[pp bx 0,vi k] g s (fun r g' s'=>r=vb (am B k).isSome∧g=g'∧s=s'):=by
 obtain ⟨x,hx1,hx2⟩:=Ax hR hall k;refine zb2 (args:=[pp bx 0,vi k]) func166 I ntmps166 (bE I) ?_;refine rZ (aT I (sW I (lU (nC I) (lU (fA de I eC I) (lK (qL (v:=.map (some mb)) eD I (cO i hi I)) (lM I (lK (SQ.eq (v':=.tuple #[rcv x,vb (am B k).isSome]) (SQ.lookupOk mty125 I I (bJ.own j hj)) (by rw[hx1,hx2])) ?_)))))));refine lM I (yX I (yX I (bW (aL zl4) fun b5=>?_)));refine oZ (sK 0 aq I I I I I sB) ?_;refine aT I (sW I (aT I (rE (dR (s':=s) uR ?_))));exact za8 (.inl I) results166 I ⟨I,I,I⟩
theorem xE (E:World)(g:PH)(s:Own)(bx mb ms:Nat)(u v:Value)(bk:Bool)(e:Ed)(B:List Cl)(rs:List Rc)(hall:aF (aw g) B rs)(i j:Nat)(hi:s[i]?=some (edP bx u mb ms bk))(hj:s[j]?=some (mp mb (rs.map ah)))(he:EdR g v e)(hes:e.sides.length<1099511627776) :
  Ctr Tryz.prog E 105 #[pp bx 0,v] g s (fun r g' s'=>Le g g'∧((r=vi 54∧(am B e.cell).isSome=true∧s=s')∨(r=vi 0∧(am B e.cell).isSome=false∧∃ rs',aF (aw g') (eE B ⟨e.cell,e.dim,e.sides⟩) rs'∧s'=s.set j (mp mb (rs'.map ah))))):=by
 obtain ⟨sv,pv,rfl,hsv,hpv⟩:=he;obtain ⟨sp,sc,rfl⟩:=za4 hsv;refine zb2 (args:=[pp bx 0,.agg #[vi e.kind,vi e.cell,vi e.dim,vi e.new,vi e.other,.slice sp e.sides.length sc,pv]]) func105 I ntmps105 (bE I) ?_;refine rZ (bW (bO I) fun b3=>?_);refine aT I (sQ (sW I (lU (fA cY I zT3 I) (lK (qL iT3 I (cO 0 I I)) (lW (cL call166 I (ce E g _ bx mb ms u bk e.cell _ (fun _ _ h=>h.1) B rs hall (i+1) (j+1) hi hj)) ?_)))));rintro _ _ _ ⟨rfl,rfl,rfl⟩;refine tZ ?_;refine iQ I (fun hp=>?_) (fun hp=>?_)
 ·refine rZ (aT I (rE (tR (dR (s':=s) uR ?_))));exact za8 (.inl I) results105 I ⟨zb9 _,.inl ⟨I,hp,I⟩⟩
 ·refine kP (tN (sQ ?_));refine dW [14] [(0,2),(1,2),(2,2),(3,1),(4,2),(5,1),(6,2),(7,1),(8,2),(9,1),(10,2),(11,1),(12,0),(13,2),(14,0)] ze3 kR ?_;refine yM I (pU I (nC I) (pU I (fA de I eC I) (pK I (qL (v:=.map (some mb)) eD I (cO (i+1) hi I)) (pU I (fA cY I zT3 I) (pK I (qL iT3 I (cO 0 I I)) (pU I (fA cY I zT3 I) (pK I (qL iT3 I (cO 0 I I)) (pU I (fA cY I zT3 I) (pK I (qL iT3 I (cO 0 I I)) (pU I (fA cY I bQ I) (pK I (qL (v:=.slice sp e.sides.length sc) cZ I (cO 0 I I)) (SP.o I (cL call110 I (we E g _ _ e.sides hsv hes)) dC (.inr iR) ?_))))))))))));rintro v21 _ _ ⟨rfl,rfl⟩;refine zd5 fun g2 hle2 hs2=>?_;obtain ⟨q2,d2,rfl⟩:=Sl.form hs2;refine pU I (za3 I (buildF56 _ _ _ I)) (SP.on I (SO.mapUpdate (j+1) mty125 I I I hj) (.inl dC) ?_);rintro _ _ _ ⟨rfl,rfl⟩;refine pN (tN (rZ (aT I (rE (dR (s':=s.set j (mp mb (dG (rs.map ah) e.cell (rcv ⟨e.cell,e.dim,⟨q2,e.sides.length,d2⟩⟩)))) (.cons _ (.refl _)) ?_)))));refine za8 (.inl I) results105 I ⟨hle2,.inr ⟨I,hp,iZ rs ⟨e.cell,e.dim,⟨q2,e.sides.length,d2⟩⟩,kh (fun _ _ h=>h.1) ⟨I,I,hs2⟩ (hall.mono fun _ _=>aw.mono hle2),?_⟩⟩;rw[← jg]
theorem wN (E:World)(g:PH)(s:Own)(bx mb ms:Nat)(u v:Value)(bk:Bool)(e:Ed)(A B:List Cl)(rs:List Rc)(hu:ar g u A)(hf:ci A)(hall:aF (aw g) B rs)(i j:Nat)(hi:s[i]?=some (edP bx u mb ms bk))(hj:s[j]?=some (mp mb (rs.map ah)))(hij:j≠i)(he:EdR g v e) :
  Ctr Tryz.prog E 106 #[pp bx 0,v] g s (fun r g' s'=>Le g g'∧((r=vi 30∧(am B e.cell).isSome=false∧s=s')∨(r=vi 31∧(am B e.cell).isSome=true∧0<(aj A e.cell).length∧s=s')∨(r=vi 0∧(am B e.cell).isSome=true∧aj A e.cell=[]∧s'=(s.set j (mp mb ((oN rs e.cell).map ah))).set i (edP bx u mb ms true)))):=by
 obtain ⟨sv,pv,rfl,hsv,hpv⟩:=he;obtain ⟨p,c,rfl⟩:=hu.form;refine zb2 (args:=[pp bx 0,.agg #[vi e.kind,vi e.cell,vi e.dim,vi e.new,vi e.other,sv,pv]]) func106 I ntmps106 (bE I) ?_;refine rZ (bW (bO I) fun b3=>?_);refine aT I (sQ (bK (sW I (lU (fA cY I zT3 I) (lK (qL iT3 I (cO 0 I I)) (lW (cL call166 I (ce E g _ bx mb ms _ bk e.cell _ (fun _ _ h=>h.1) B rs hall (i+1) (j+1) hi hj)) ?_))))));rintro _ _ _ ⟨rfl,rfl,rfl⟩;refine lU (SU.not I) (aT I ?_);refine iQ I (fun hp=>?_) (fun hp=>?_)
 ·refine rZ (aT I (rE (bR (tR (dR (s':=s) uR ?_)))));exact za8 (.inl I) results106 I ⟨zb9 _,.inl ⟨I,by simpa using hp,I⟩⟩
 ·have hp2:(am B e.cell).isSome=true:=by simpa using hp
  refine sQ ?_;refine dW [] [(0,2),(1,2),(2,2),(3,1),(4,2),(5,1),(6,0),(7,2),(8,2),(9,2)] ze3 kR ?_;refine yM I (pU I (nC I) (pU I (fA de I aC I) (pK I (SQ.loadOne ba aC I (cO (v:=.slice p A.length c) (i+1) hi I)) (pU I (fA cY I zT3 I) (pK I (qL iT3 I (cO 0 I I)) (SP.o I (cL call167 I (fK E g _ _ A e.cell hu hf)) dC (.inr iR) ?_))))));rintro v18 g1 _ ⟨rfl,hle1,ha⟩;obtain ⟨q2,d2,rfl⟩:=za4 ha;refine pU I (eN aH I) (pU I (gR I I) (pU I (aS I) (pN (tN ?_))));refine iP I (fun ha0=>?_) (fun ha0=>?_)
  ·refine rZ (aT I (rE (bR (tR (dR (s':=s) uR ?_)))));exact za8 (.inl I) results106 I ⟨hle1,.inr (.inl ⟨I,hp2,oM,I⟩)⟩
  ·have hi2:(s.set j (mp mb (tU (rs.map ah) e.cell)))[i]?=some (edP bx (.slice p A.length c) mb ms bk):=by rw[List.getElem?_set_ne hij]; exact hi
   refine kP (bN (tN (sQ ?_)));refine dW [6] [(0,2),(1,2),(2,2),(3,1),(4,2),(5,1),(6,0)] ze3 kR ?_;refine yM I (pU I (nC I) (pU I (fA de I eC I) (pK I (qL (v:=.map (some mb)) eD I (cO (i+1) hi I)) (pU I (fA cY I zT3 I) (pK I (qL iT3 I (cO 0 I I)) (SP.on I (SO.delete (j+1) mty125 I I hj) (.inl dC) ?_))))));rintro _ _ _ ⟨rfl,rfl⟩;refine pN (tN (sW I (lU (nC I) (lU (fA de I zT4 I) (oZ (SO.store1 (i+1) zT4 I I hi2 I (bE I) I) (tZ (rZ (aT I (rE (dR (s':=(s.set j (mp mb (tU (rs.map ah) e.cell))).set i (edP bx (.slice p A.length c) mb ms true)) (.cons _ (.refl _)) ?_))))))))));refine za8 (.inl I) results106 I ⟨hle1,.inr (.inr ⟨I,hp2,zf4 oM,by rw[← o5]⟩)⟩
theorem zJ (E:World)(g:PH)(s:Own)(bx mb ms:Nat)(u:Value)(bk:Bool)(B:List Cl)(rs:List Rc)(hall:aF (aw g) B rs)(hn:(B.map Cl.id).Nodup)(hf:ci B)(hm:Mp g mb (rs.map ah))(i:Nat)(hi:s[i]?=some (edP bx u mb ms bk)) :
  Ctr Tryz.prog E 43 #[pp bx 0] g s (fun r g' s'=>s=s'∧Le g g'∧∃ u',r = .agg #[u']∧hX (mns g' g) u' (aa B)):=by
 obtain ⟨es,clk,hes,hmi⟩:=hm;have hrl:=hall.length;have hBl:=hf.1;refine zb2 (args:=[pp bx 0]) func43 I ntmps43 (bE I) ?_;refine rZ (bW (aL zl5) fun b2=>?_);refine tZ (rZ (bW (aL zl5) fun b3=>?_));refine tZ (sQ (sW I (lU (nC I) (lU (fA de I eC I) (lK (qL (v:=.map (some mb)) eD I (cO (i+2) hi I)) (lW (SO.range underlying125 I hes) ?_))))));rintro _ _ _ ⟨it,rfl,rfl,rfl⟩;refine tZ (bK (zb6 56 3 ?_));refine oP (ι:=List MapEntry×List Rc×List Cl×Value) (fun _=>[(2,pp b2 0),(3,pp b3 0),(10,pp it 0)]) (fun _=>g)
  (fun i=>rowA encCell 56 i.2.2.2 i.2.1::eW it mb es clk i.1::pt b3 (.cells #[i.2.2.2] 29 (0,0))::pt b2 (.cells #[.slice none 0 0] 29 (0,0))::s)
  (fun i=>kU (rs.map ah) es i.1 (i.2.1.map ah)∧aF (aw g) i.2.2.1 i.2.1∧(∀ c∈i.2.2.1,c∈B)) (fun i=>rs.length - i.2.1.length)
  ([],[],[],.slice none 0 0) sB rfl rfl ⟨kU.nil _ _,trivial,by simp⟩ ?_
 rintro ⟨vis,acc,vc,ov⟩ ⟨hrv,hacc,hvs⟩;dsimp only at hrv hacc hvs ⊢;have hvle:=hrv.len hmi;simp only[ze6] at hvle;have hal:=hacc.length;refine rZ (lW (SO.nextP 1 I I hes hmi hrv) ?_);rintro _ _ _ ⟨rfl,hcase⟩
 rcases hcase with ⟨rfl,rfl,hperm⟩ | ⟨e,pr,he,hp1,hk1,hv1,hrv2,rfl,rfl⟩
 ·have hpv:vc.Perm B:=vx (by rw[zi5,jt hacc]; rfl) hvs hn hall hperm;have hcn:aa vc=aa B:=vP hpv ((hpv.map Cl.id).symm.nodup hn);have hvf:ci vc:=⟨by have:=hpv.length_eq; omega,fun c hc=>hf.2 c (hvs c hc)⟩;refine yX I (tZ (sQ (za1 I (xI (tX (tX (bX (tN (sQ (fS fun g2 hle2 hs2=>?_))))))))));obtain ⟨q2,d2,rfl⟩:=Sl.form hs2;refine rG (lK (qV 1 ba aC I I I) (lW (cL call53 I (pB E g2 _ _ vc ⟨acc,hs2,hacc.mono fun _ _=>aw.mono hle2⟩ hvf)) ?_));rintro _ g3 _ ⟨rfl,hle3,u3,rfl,hu3⟩;rw[hcn] at hu3;have hu4:=hu3.cells (kI _ _);obtain ⟨q3,d3,rfl⟩:=hu4.form;refine oZ (sK 2 aC I I I I I sB) ?_;refine tZ (rE ?_);exact ST.retCD 2 s (.inl I) results43 I ba aC I I uR ⟨I,hle2.trans hle3,_,I,hu3.mono (oA hle2)⟩
 ·obtain ⟨x,hx,rfl⟩:=zf2.1 hp1;obtain ⟨cx,hcm,hcx⟩:=zh hall hx;refine yX I (tZ (sQ (za2 I (kP (tN (bK (rZ (lK (SQ.entryP 1 I I hes hmi he hk1 hv1) (yX I (bW (aL zl4) fun b5=>?_))))))))));refine oZ (sK 0 aq I I I I I sB) ?_;refine tZ ?_;refine SC.to (g':=g) (s':=pt b5 (.cells #[vi x.id,vi x.dim,.slice x.sv.p x.sv.n x.sv.c] 56 (0,0))::rowA encCell 56 ov acc::eW it mb es clk (vis++[e])::pt b3 (.cells #[ov] 29 (0,0))::pt b2 (.cells #[.slice none 0 0] 29 (0,0))::s) (fun w hw=>hw) ?_;refine rG (lU (fA eH I ee I) (lK (qL fX I (cO 3 I I)) (lK (qV 0 dL aq I I I) (lW (bS sty27 I I I (ae sB) dC) ?_))));rintro _ _ _ ⟨b18,rfl,rfl,rfl⟩;refine lW (aP (e:=encCell) 1 x sty27 I I I I I oM oM) ?_;rintro ov' _ _ ⟨rfl,rfl⟩;refine zd3 fun ⟨w0,hw0⟩=>?_;obtain ⟨q',d',rfl⟩:=ag (e:=encCell) (l:=acc++[x]) (i:=1) hw0 rfl;clear hw0 w0;refine lU (fA eH I ee I) (oZ (sK 3 ee I I I I I sB) ?_);refine nL (bN (dR (.cons _ (.refl _)) ?_));exact ST.again (vis++[e],acc++[x],vc++[cx],_) sB I I ⟨by dsimp only; rw[zg5]; exact hrv2,hacc.append ⟨hcx,trivial⟩,fun c hc=>by
   rcases zf3.1 hc with h | h
   ·exact hvs c h
   ·simp at h; rw[h]; exact hcm⟩ (by
   have:=hrv2.len hmi;simp only[ze6,ze5,ze7] at this ⊢;omega)
abbrev Tm:=Int×Int
def mc (n:Int):Bool:=decide (n<0)&&decide (eJ n.natAbs≠[])
def a6:Enc Tm 3:=⟨fun p=>[vi p.1,vb (mc p.2),txt (eJ p.2.natAbs)],fun _=>rfl,fun _ u hu=>by simp at hu; rcases hu with rfl | rfl | rfl <;> rfl,by decide⟩
structure Im where
 cell:Int
 sv:Sv
def s8:Enc Im 2:=⟨fun r=>[vi r.cell,.slice r.sv.p r.sv.n r.sv.c],fun _=>rfl,fun _ u hu=>by simp at hu; rcases hu with rfl | rfl <;> rfl,by decide⟩
def ImR (g:PH)(c:Int×List Tm)(r:Im):Prop:=r.cell=c.1∧SlA a6 g (.slice r.sv.p r.sv.n r.sv.c) c.2
theorem ImR.mono {g g':PH}(hl:Le g g'){c:Int×List Tm}{r:Im}(h:ImR g c r):ImR g' c r:=⟨h.1,za5 h.2 hl⟩
def Ims (g:PH)(v:Value)(l:List (Int×List Tm)):Prop:=∃ rs,SlA s8 g v rs∧aF (ImR g) l rs
theorem Ims.mono {g g':PH}{v:Value}{l:List (Int×List Tm)}(h:Ims g v l)(hl:Le g g'):Ims g' v l:=by
 obtain ⟨rs,h1,h2⟩:=h;exact⟨rs,za5 h1 hl,h2.mono fun _ _=>ImR.mono hl⟩
theorem Tryz.build82 (x:Int)(b:Bool)(l:List UInt8)(w:World):(Instr.build 82 #[(0,vi x),(1,.agg #[vb b,txt l])]).run Tryz.prog w = .ok (.agg #[vi x,vb b,txt l]) w:=by
 have h1:(vi x).cells = #[vi x]:=rfl;have h2:(Value.agg #[vb b,txt l]).cells = #[vb b,txt l]:=rfl;simp[Instr.build,Instr.fill,h1,h2];rfl
theorem Tryz.build113 (x:Int)(p:Option Addr)(n c:Nat)(w:World):(Instr.build 113 #[(0,vi x),(1,.slice p n c)]).run Tryz.prog w = .ok (.agg #[vi x,.slice p n c]) w:=by
 have h1:(vi x).cells = #[vi x]:=rfl;have h2:(Value.slice p n c).cells = #[.slice p n c]:=rfl;simp[Instr.build,Instr.fill,h1,h2];rfl
theorem Tryz.buildB35 (b:Bool)(w:World):(Instr.build 35 #[(1,vb b)]).run Tryz.prog w = .ok (.agg #[.slice none 0 0,vb b]) w:=by
 have h1:(vb b).cells = #[vb b]:=rfl;simp[Instr.build,Instr.fill,h1];rfl
theorem Tryz.mty110:MTy Tryz.prog 110 3 77 (.slice none 0 0):=⟨underlying110,underlying3,zeroValue77⟩
theorem Tryz.sty77:STy Tryz.prog 77 82 3 32 (.agg #[vi 0,vb false,txt []]):=⟨underlying77,⟨t82,by kernel_rfl,by kernel_rfl,by kernel_rfl,by kernel_rfl⟩,rfl,by decide⟩
theorem Tryz.sty31:STy Tryz.prog 31 113 2 32 (.agg #[vi 0,.slice none 0 0]):=⟨underlying31,⟨t113,by kernel_rfl,by kernel_rfl,by kernel_rfl,by kernel_rfl⟩,rfl,by decide⟩
theorem jW (E:World)(g:PH)(s:Own)(c n:Int)(h0 : -9223372036854775808≤n)(h1:n<9223372036854775808) :
  Ctr Tryz.prog E 112 #[vi c,vi n] g s (fun r g' s'=>r = .agg (a6.enc (c,n)).toArray∧s=s'∧Le g g'):=by
 refine zb2 (args:=[vi c,vi n]) func112 I ntmps112 (bE I) ?_;refine rZ (bW (aL zeroValue82) fun b4=>?_);refine tZ (sW I (lM I (lW (cL call129 I (px E g _ n h0 h1)) ?_)));rintro _ g1 _ ⟨rfl,rfl,hle1⟩;refine lU (za3 I (build82 _ _ _)) (oZ (sK 0 qD I I I I I sB) ?_);refine tZ (rE ?_);exact ST.retCD 0 s (.inl I) results112 I isAgg82 qD I I uR ⟨I,I,hle1⟩
set_option maxHeartbeats 2000000
theorem Ctr.freezeO {P:Program}{E:World}{n:FuncId}{args:Array Value}{g:PH}{L s:Own}{R:Value→PH→Own→Prop}{A:List Cl}{rs:List Rc}(hO:aF kY A rs)
  (h:∀ g1,Le g g1→aF (aw g1) A rs→Ctr P E n args g1 (L++s) R):Ctr P E n args g (L++(gy A rs++s)) R:=fun w hw=>by
 have h1:(L++(gy A rs++s)).Perm (gy A rs++(L++s)):=by
  rw[← zg8,← zg8];exact List.perm_append_comm.append_right s
 obtain ⟨g1,h2,h3,h4⟩:=Go.Proofs.YtbbppeihhkhkcaaGreatDoor.freezeO hO (hw.perm h1);exact h g1 h2 h4 w h3
def sA (fv:Value)(e:Ed)(A:List Cl)(code:Int)(B:List Cl)(bk:Bool):Prop :=
 ∀ (E:World) (g:PH) (s:Own) (bx mb ms:Nat) (u v:Value) (rs:List Rc),ar g u A→aF kY A rs→EdR g v e →
  c4 Tryz.prog E fv [pp bx 0,v] g (edP bx u mb ms false::mp mb (rs.map ah)::mp ms []::(gy A rs++s)) (fun r g' s'=>Le g g'∧r=vi code∧(if code=0 then ∃ rs',aF (aw g') B rs'∧s'=edP bx u mb ms bk::mp mb (rs'.map ah)::mp ms []::s else ∃ h,s'=h++s))
def jb (A:List Cl)(e:Ed):Int:=if (am A e.cell).isSome then 54 else 0
def nr (A:List Cl)(e:Ed):Int:=if (am A e.cell).isSome then (if 0<(aj A e.cell).length then 31 else 0) else 30
theorem As (A:List Cl)(e:Ed)(he:e.sides.length<1099511627776):sA (.func (.func 105) #[] #[]) e A (jb A e) (eE A ⟨e.cell,e.dim,e.sides⟩) false:=by
 intro E g s bx mb ms u v rs hu hO hv;refine c4.mk (args:=[_,_]) (cap:=[]) call105 ?_;refine Ctr.freezeO (L:=[edP bx u mb ms false,mp mb (rs.map ah),mp ms []]) hO fun g1 hle1 hall=>?_;refine (xE E g1 _ bx mb ms u v false e A rs hall 0 1 I I (hv.mono hle1) he).mono ?_;rintro r g' s' ⟨hle,h⟩;refine⟨hle1.trans hle,?_⟩;unfold jb
 rcases h with ⟨rfl,h1,rfl⟩ | ⟨rfl,h1,rs',h2,rfl⟩
 ·rw[h1];exact⟨I,[edP bx u mb ms false,mp mb (rs.map ah),mp ms []],I⟩
 ·rw[h1];exact⟨I,rs',h2,I⟩
theorem zL (A:List Cl)(hf:ci A)(e:Ed):sA (.func (.func 106) #[] #[]) e A (nr A e) (qT A e.cell) true:=by
 intro E g s bx mb ms u v rs hu hO hv;refine c4.mk (args:=[_,_]) (cap:=[]) call106 ?_;refine Ctr.freezeO (L:=[edP bx u mb ms false,mp mb (rs.map ah),mp ms []]) hO fun g1 hle1 hall=>?_;refine (wN E g1 _ bx mb ms u v false e A A rs (hu.mono hle1) hf hall 0 1 I I dC (hv.mono hle1)).mono ?_;rintro r g' s' ⟨hle,h⟩;refine⟨hle1.trans hle,?_⟩;unfold nr
 rcases h with ⟨rfl,h1,rfl⟩ | ⟨rfl,h1,h2,rfl⟩ | ⟨rfl,h1,h2,rfl⟩
 ·rw[h1];exact⟨I,[edP bx u mb ms false,mp mb (rs.map ah),mp ms []],I⟩
 ·rw[h1,zg1 rfl,zg1 h2];exact⟨I,[edP bx u mb ms false,mp mb (rs.map ah),mp ms []],I⟩
 ·rw[h1,h2];exact⟨I,oN rs e.cell,(l7 (fun _ _ h=>h.1) e.cell hall).mono fun _ _=>aw.mono hle,I⟩
theorem uC {α:Type}(L r:List α)(k:Nat):(L++r)[L.length+k]?=r[k]?:=by
 rw[zh3 oM,Nat.add_sub_cancel_left]
def bZ (code:Int)(B:List Cl):Int×List Cl :=
 if code≠0 then (code,[]) else if (aG (aa B)).2≠0 then ((aG (aa B)).2,[]) else (0,aa B)
theorem Tryz.buildZ35 (w:World):(Instr.build 35 #[]).run Tryz.prog w = .ok (.agg #[.slice none 0 0,vb false]) w:=by
 simp[Instr.build,Instr.fill];rfl
theorem uK (E:World)(g:PH)(s:Own)(v:Value)(l:List Cl)(hv:ar g v l)(hf:ci l)(b:Bool)(hb:decide ((aG l).2=0)=b) :
  Ctr Tryz.prog E 41 #[.agg #[v]] g s (fun r g' s'=>r=vb b∧g=g'∧s=s'):=by
 subst hb;exact vK E g s v l hv hf
open Go.ChangeShapes Go.WideShapes Go.ChangeAt Go.RowKit
set_option maxRecDepth 100000
section
variable {H:Type}{enc:TypeId×Value→H}{W:World}{base:Nat}{spare:Nat→Bool}{hd:Bool}
end
set_option maxHeartbeats 4000000
theorem Ims.form {g:PH}{v:Value}{l:List (Int×List Tm)}(h:Ims g v l):∃ p n c,v = .slice p n c:=by
 obtain ⟨rs,h1,h2⟩:=h;obtain ⟨p,c,e⟩:=za4 h1;exact⟨p,_,c,e⟩
end Go.Proofs.YtbbppeihhkhkcaaGreatDoor
namespace Go.Sy
open Go
section
variable {P:Program}{N:Nat}{E:World}{ops:Array Oper}{Q:Exit→Act→World→Prop}{g0:PH}{s0:Own}{tail:List Nat}{f:Fr}{g:PH}{s s':Own}{L:Array Bool}{n:Nat}
theorem SX.gq [hQ:Quiet Q]{i d:Nat}{op:Op}{ty:TypeId}{pos:String}{af:Array Edge}{gd:Option (Nat×Bool)}{v:Value}(hi:ops[i]?=some ⟨some d,op,ty,pos,af,gd⟩)(hok:wl ops tail L i=true)(hg:Gd N ops f ⟨some d,op,ty,pos,af,gd⟩ true)
  (hq:SQ P N E ⟨some d,op,ty,pos,af,gd⟩ f g0 s0 v) (hd:d<N)
  (h:SX P N E ops Q g0 s0 tail (L.setIfInBounds i true) n ((d,v)::f) g s):SX P N E ops Q g0 s0 tail L (n+1) f g s:=by
 intro a w hs hcl ha hw hb;simp only[wl,zj3,Bool.not_eq_true'] at hok;obtain ⟨⟨⟨⟨h1,h2⟩,h3⟩,h4⟩,h5⟩:=hok;refine ky hi (Region.noSelect_spec hs) (fun c a w hh=>hQ.out c _ _ w (cN a d v) hh) (by simpa using h4) (iH h3) _ L a w hcl (Region.free_spec hi h2) (by simpa using h1)
  (.inl ⟨hg a ha,fun w' hw'=>hq a w' ha hw'⟩) h5 (hb h5) ?_
 exact h _ w hs (cH hcl (by simpa using h1)) (ha.put hd v) hw (fun _=>hb h5)
theorem SX.gu [hQ:Quiet Q]{i d:Nat}{op:Op}{ty:TypeId}{pos:String}{af:Array Edge}{gd:Option (Nat×Bool)}{v:Value}(hi:ops[i]?=some ⟨some d,op,ty,pos,af,gd⟩)(hok:qQ ops tail L i=true)(hg:Gd N ops f ⟨some d,op,ty,pos,af,gd⟩ true)
  (hq:SU P N ⟨some d,op,ty,pos,af,gd⟩ f v) (hd:d<N)
  (h:SX P N E ops Q g0 s0 tail (L.setIfInBounds i true) n ((d,v)::f) g s):SX P N E ops Q g0 s0 tail L (n+1) f g s:=by
 intro a w hs hcl ha hw hb;simp only[qQ,zj3,Bool.not_eq_true'] at hok;obtain ⟨⟨h1,h2⟩,h4⟩:=hok;have hit:i ∉ tail:=by simpa using h4
 refine ib hi (Region.noSelect_spec hs) (fun c a w hh=>hQ.out c _ _ w (cN a d v) hh) hit _ L a w (Region.free_spec hi h2) (by simpa using h1)
  (.inl ⟨hg a ha,fun w'=>hq a w' ha⟩) hb ?_
 exact h _ w hs (cH hcl (by simpa using h1)) (ha.put hd v) hw (fun hb'=>hb (by rwa [er hit] at hb'))
theorem SX.off [hQ:Quiet Q]{i d:Nat}{op:Op}{ty:TypeId}{pos:String}{af:Array Edge}{gd:Option (Nat×Bool)}(hi:ops[i]?=some ⟨some d,op,ty,pos,af,gd⟩)(hok:qQ ops tail L i=true)(hg:Gd N ops f ⟨some d,op,ty,pos,af,gd⟩ false)(hd:d<N)
  (h:SX P N E ops Q g0 s0 tail (L.setIfInBounds i true) n ((d,undef)::f) g s):SX P N E ops Q g0 s0 tail L (n+1) f g s:=by
 intro a w hs hcl ha hw hb;simp only[qQ,zj3,Bool.not_eq_true'] at hok;obtain ⟨⟨h1,h2⟩,h4⟩:=hok;have hit:i ∉ tail:=by simpa using h4
 refine ib hi (Region.noSelect_spec hs) (fun c a w hh=>hQ.out c _ _ w (cN a d undef) hh) hit _ L a w (Region.free_spec hi h2) (by simpa using h1)
  (.inr ⟨hg a ha,rfl⟩) hb ?_
 exact h _ w hs (cH hcl (by simpa using h1)) (ha.put hd undef) hw (fun hb'=>hb (by rwa [er hit] at hb'))
theorem SB.go {i d:Nat}{op:Op}{ty:TypeId}{pos:String}{af:Array Edge}{gd:Option (Nat×Bool)}{K:Value→PH→Own→Prop}(hi:ops[i]?=some ⟨some d,op,ty,pos,af,gd⟩)(hg:Gd N ops f ⟨some d,op,ty,pos,af,gd⟩ true)
  (ho:SO P N E ⟨some d,op,ty,pos,af,gd⟩ f g s K) (hd:d<N) (hk:i∈tail∨∀ v g' s',K v g' s'→Le g0 g'∧s0.Sublist s')
  (h:∀ v g' s',K v g' s'→SX P N E ops Q g0 s0 tail (L.setIfInBounds i true) n ((d,v)::f) g' s'):SB P N E ops Q g0 s0 tail L n i f g s :=
 SB.step hi hg ho hk fun v g' s' _ hK ha=>⟨_,ha.put hd v,h v g' s' hK⟩
theorem SB.offo {i d:Nat}{op:Op}{ty:TypeId}{pos:String}{af:Array Edge}{gd:Option (Nat×Bool)}(hi:ops[i]?=some ⟨some d,op,ty,pos,af,gd⟩)
  (hg:Gd N ops f ⟨some d,op,ty,pos,af,gd⟩ false) (hd:d<N) (hk:Le g0 g∧s0.Sublist s)
  (h:SX P N E ops Q g0 s0 tail (L.setIfInBounds i true) n ((d,undef)::f) g s):SB P N E ops Q g0 s0 tail L n i f g s:=by
 intro a w hs hcl hr ha hw hb;unfold wpOp;simp only[hi];rw[zf9 (by rw[hg a ha]; simp)];have hb':gh tail (L.setIfInBounds i true)=false→At E g0 s0 w:=fun _=>(hw.less hk.1).sublist hk.2;exact⟨hb',h _ w hs (cH hcl hr) (ha.put hd undef) hw hb'⟩
end
end Go.Sy
namespace Go.Proofs.YtbbppeihhkhkcaaGreatDoor
open _root_.Go.Proofs.Tryz _root_.Go.Proofs.YtbbppeihhkhkcaaGreatDoor.Tryz
open Go Go.Sy Go.Pl Go.Proofs
set_option maxRecDepth 100000
set_option maxHeartbeats 4000000
def sz (code:Int)(D:List Cl)(ims:List (Int×List Tm))(bk:Bool)(r:Value)(g':PH):Prop:=∃ u p n c b,r = .tuple #[.agg #[u],.agg #[.slice p n c,vb b],vi code]∧ar g' u D∧(code=0→b=bk∧Ims g' (.slice p n c) ims)∧(code≠0→b=false∧Ims g' (.slice p n c) [])
theorem Ims.nil (g:PH):Ims g (.slice none 0 0) []:=⟨[],zc1 g _,trivial⟩
theorem iy (l:List Cl):aG (aa l)=aG l:=by
 have ht:ak (aa l)=ak l:=by unfold ak; rw[fL]
 unfold aG;rw[ht,fL,aB]
end Go.Proofs.YtbbppeihhkhkcaaGreatDoor
namespace Go.Sy
open Go Go.MapKept
instance quiet_scope {Q:Exit→Act→World→Prop}[h:Quiet Q]:Quiet (Exit.noGoto Q):=⟨fun c a a' w hd hq=>h.out c a a' w hd hq⟩
section
variable {P:Program}{N:Nat}{E:World}{Q:Exit→Act→World→Prop}{f:Fr}{g:PH}{s:Own}
end
end Go.Sy
namespace Go.Proofs.YtbbppeihhkhkcaaGreatDoor
open _root_.Go.Proofs.Tryz _root_.Go.Proofs.YtbbppeihhkhkcaaGreatDoor.Tryz
open Go Go.Sy Go.Pl Go.Proofs Go.Shelf Go.Sort
set_option maxRecDepth 100000
theorem rT {α:Type}[Inhabited α]{k:Nat}(en:Enc α k)(l:List α):(flatK en.enc k l.toArray).toList=l.flatMap en.enc:=by
 apply List.ext_getElem?;intro t;by_cases ht:t<l.length * k
 ·have h1:t / k<l.length:=by rw[Nat.div_lt_iff_lt_mul en.pos]; exact ht
  have h2:t % k<k:=Nat.mod_lt _ en.pos;have h3:l[t / k]?=some l[t / k]:=gE h1;have h4:t % k<(en.enc l[t / k]).length:=by rw[en.len]; exact h2
  have h5:=Enc.get (e:=en) (l:=l) h3 (gE h4);rw[show t / k * k+t % k=t from Nat.div_add_mod' t k] at h5;rw[h5];have hs:t<(flatK en.enc k l.toArray).size:=by simpa using ht
  rw[Array.getElem?_toList,Array.getElem?_eq_getElem hs];have h6:=get_flatK en.enc k l.toArray t (by simpa using ht);rw[getElem!_pos _ t hs] at h6;rw[h6];have h7:l.toArray[t / k]! = l[t / k]:=by rw[getElem!_pos l.toArray (t / k) (by simpa using h1)]; simp
  rw[h7,getElem!_pos (en.enc l[t / k]) (t % k) h4]
 ·rw[List.getElem?_eq_none (by simp; omega),List.getElem?_eq_none (by rw[Enc.length]; omega)]
def GP (P:Program)(fn:Nat){α:Type}(enc:α→List Value)(cf:α→α→Int):Prop:=∀ (E:World) (g:PH) (s:Own) (x y:α),
 Ctr P E fn #[.agg (enc x).toArray,.agg (enc y).toArray] g s (fun r g' s'=>r = .int .i64 (cf x y)∧g=g'∧s=s')
theorem x5 {P:Program}{ρ:Ren}(L:SlLaysF0.n6 P ρ){α:Type}[Inhabited α]{k:Nat}(en:Enc α k)(aE:∀ w,(isAgg (ρ.t 24)).run P w = .ok true w)(zE:∀ w,(Go.sizeOf (ρ.t 24)).run P w = .ok k w)(cf:α→α→Int)(hO:SWO (ltOf cf))(fn:Nat)
  (eg:∀ args w,(callFunc fn args).run P w = .ok (.enter fn args) w) (hcmp:GP P fn en.enc cf) (T:TypeId) (E:World) (g:PH) (s:Own) (v:Value) (l:List α) (i:Nat) (hi:s[i]?=some (rowA en T v l)) (hl:l.length<1099511627776) :
  Ctr P E (ρ.f 6) #[v,.func (.func fn) #[] #[]] g s (fun _ g' s'=>g=g'∧∃ l':List α,l'.Perm l∧(l'.Pairwise fun x y=>¬ cf y x<0)∧s'=s.set i (rowA en T v l')):=by
 intro w hw;obtain ⟨h1,h2⟩:=gX hw hi
 rcases h2 with ⟨p,rfl,hn⟩ | ⟨b,cap,cur,rfl,hb,hle,hcm,hcs,ht⟩
 ·have hnil:l=[]:=zf4 hn;subst hnil;refine (AnyF.slices_SortFunc_none L p 0 (.func (.func fn) #[] #[]) w).mono ?_;rintro e w' ⟨rfl,rfl⟩;exact⟨_,g,s,I,hw,I,[],.nil,.nil,(om hi).symm⟩
 ·have hfr:=hw.fresh _ (zg2 hi) b rfl;have hblt:=(Array.getElem?_eq_some_iff.1 hb).1;have hfl:=rT en l;have hcmp':CmpLays P fn #[] en.enc k cf b 0 l.toArray.size w:=by
   intro m os dk hs x y;refine (hcmp (sortWorldK en.enc k w b 0 m dk os) (xJ _) [] x y _ (EU _)).mono ?_;rintro e w' ⟨v',g',s',rfl,hat,rfl,rfl,rfl⟩;exact⟨I,y6 hat⟩
  have hH:HoldsK en.enc k w b 0 l.toArray:=by
   intro j hj;have hj':j<l.length * k:=by simpa using hj
   refine⟨?_,by simp[World.frozen?,hb]⟩;have h1:(cur.toList.take (l.length * k))[j]?=(flatK en.enc k l.toArray).toList[j]?:=by rw[ht,hfl]
   rw[List.getElem?_take_of_lt hj'] at h1;have hs:j<(flatK en.enc k l.toArray).size:=by simpa using hj'
   simp only[World.cell?,hb,Nat.zero_add];simp only[Option.isSome_none,Bool.false_eq_true,if_false];rw[← Array.getElem?_toList,h1,Array.getElem?_toList,Array.getElem?_eq_getElem hs,getElem!_pos _ j hs];rfl
  refine (AnyQ.slices_SortFunc L k aE zE en.enc en.len en.one cf hO fn #[] b 0 (cap+1) l.toArray w eg hcmp' hH hblt (by simp; omega)).mono ?_;rintro e w' ⟨rfl,d',n,os,hp,hsd,rfl⟩;obtain ⟨d'⟩:=d';have hdl:d'.length=l.length:=by have:=hp.1; simpa using this
  have hperm:d'.Perm l:=by
   have h5:=hp.2.2;simp only[List.size_toArray,List.extract_toArray] at h5;simpa [List.extract_eq_take_drop,hdl,tL (Nat.le_of_eq hdl)] using h5
  have hsrt:d'.Pairwise fun x y=>¬ cf y x<0:=by
   rw[zc9];intro i j hi hj hij;have h5:=hsd i j (zf6 _) hij (by simp; omega);simp only[ltOf,decide_eq_false_iff_not] at h5;simpa [hi,hj] using h5
  have hfd:=rT en d';have hfs:(flatK en.enc k d'.toArray).size=l.length * k:=by simp[hdl]
  refine⟨_,g,s.set i (rowA en T (.slice (some ⟨b,0,none⟩) l.length (cap+1)) d'),I,?_,I,d',hperm,hsrt,I⟩;have h5:(sortWorldK en.enc k w b 0 n d'.toArray os).heap[b]?=some (.cells (putCells id 0 (flatK en.enc k d'.toArray) cur) T (0,0)):=by
   show (grow (putRow id (Sort.ahead w n) b 0 (flatK en.enc k d'.toArray)) os).heap[b]?=_;rw[heap_grow_old _ _ (by simpa using hblt)];simp[putRow,mapBlock,Sort.ahead,Array.getElem?_modify,hb,onCells]
  exact hw.turn (i:=i) (w':=sortWorldK en.enc k w b 0 n d'.toArray os) (e':=rowA en T (.slice (some ⟨b,0,none⟩) l.length (cap+1)) d') hi I ⟨I,Nat.le_add_right _ _⟩ I (by simp[sortWorldK,grow,putRowK,putRow,mapBlock,Sort.ahead]) (fun q hq hne=>by
    have hne':b≠q:=fun e=>hne (by rw[e]; rfl);show (grow (putRow id (Sort.ahead w n) b 0 (flatK en.enc k d'.toArray)) os).heap[q]?=_;rw[heap_grow_old _ _ (by simpa using hq)];simp[putRow,mapBlock,Sort.ahead,Array.getElem?_modify,hne']) (by
    have:=ep (w:=sortWorldK en.enc k w b 0 n d'.toArray os) (T:=T) (k:=k) (n:=d'.length) (b:=b) (cap:=cap) (xs:=d'.flatMap en.enc) (by rw[en.length]) h5 oM hcm (by simp[putCells]; simpa using hcs) (by
     rw[← hfd];apply List.ext_getElem?;intro j;by_cases hj:j<d'.length * k
     ·have hj2:j<(flatK en.enc k d'.toArray).size:=by simpa using hj
      have hj3:j<cur.size:=by
       have:d'.length * k≤(cap+1) * k:=Nat.mul_le_mul_right _ oM;omega
      rw[List.getElem?_take_of_lt hj,Array.getElem?_toList,Array.getElem?_toList,Array.getElem?_eq_getElem hj2];simp only[putCells,Array.getElem?_mapIdx,Array.getElem?_eq_getElem hj3,Option.map_some,zf6,true_and,Nat.zero_add,Nat.sub_zero];rw[zg1 hj2,getElem!_pos _ j hj2];rfl
     ·rw[List.getElem?_take_eq_none oM,List.getElem?_eq_none (by simp; omega)])
    rw[show rowA en T (.slice (some ⟨b,0,none⟩) l.length (cap+1)) d'=row T k (.slice (some ⟨b,0,none⟩) d'.length (cap+1)) d'.length (d'.flatMap en.enc) by simp only[rowA,hdl]];exact this) (fun b' hb'=>by
    simp only[rowA,row,n9,zg7] at hb';subst hb';exact⟨(Array.getElem?_eq_some_iff.1 h5).1,.inl I⟩)
set_option maxHeartbeats 2000000
abbrev Ts:=List (Int×Value×List Tm)
def di (ts:Ts):Own:=ts.map fun t=>rowA a6 82 t.2.1 t.2.2
def ii (ts:Ts):List (Int×Value):=ts.map fun t=>(t.1,t.2.1)
theorem uw (k:Int):∀ ts:Ts,(df (ii ts) k=none∧∀ t∈ts,t.1≠k)∨∃ (m:Nat) (t:Int×Value×List Tm),ts[m]?=some t∧t.1=k∧df (ii ts) k=some t.2.1∧ts.find? (fun t=>decide (t.1=k))=some t
 | []=>.inl ⟨rfl,by simp⟩
 | t::ts=>by
  have hc:ii (t::ts)=(t.1,t.2.1)::ii ts:=rfl;rw[hc,bD];by_cases h:k=t.1
  ·rw[zg1 h];exact .inr ⟨0,t,I,h.symm,I,by rw[zi6,zf8 h.symm]⟩
  ·rw[zf9 h]
   rcases uw k ts with ⟨h1,h2⟩ | ⟨m,u,h1,h2,h3,h4⟩
   ·exact .inl ⟨h1,fun x hx=>by
     rcases zf1.1 hx with rfl | hx
     ·exact fun e=>h e.symm
     ·exact h2 x hx⟩
   ·exact .inr ⟨m+1,u,h1,h2,h3,by rw[zi6,zf7 (fun e=>h e.symm)]; exact h4⟩
theorem B5 {ts:Ts}{m:Nat}{t:Int×Value×List Tm}(h:ts[m]?=some t)(p q:Own):(p++(di ts++q))[p.length+m]?=some (rowA a6 82 t.2.1 t.2.2):=by
 have hj:=(zf5.1 h).1;rw[uC,zh2 (by simpa [di] using hj)];simp[di,h]
theorem B4 {ts:Ts}{m:Nat}{t:Int×Value×List Tm}(h:ts[m]?=some t)(l':List Tm)(p q:Own):(p++(di ts++q)).set (p.length+m) (rowA a6 82 t.2.1 l')=p++(di (ts.set m (t.1,t.2.1,l'))++q):=by
 have hj:=(zf5.1 h).1;rw[List.set_append_right _ _ oM,Nat.add_sub_cancel_left,List.set_append_left _ _ (by simpa [di] using hj)];simp[di,List.map_set]
theorem freezeRowsT {E:World}{w:World}:∀ (ts:Ts) (g:PH) (s:Own),At E g (di ts++s) w→∃ g',Le g g'∧At E g' s w∧∀ t∈ts,SlA a6 g' t.2.1 t.2.2
 | [],g,s,h=>⟨g,zb9 g,h,by simp⟩
 | (a,v,l)::r,g,s,h=>by
  have h':At E g (row 82 3 v l.length (l.flatMap a6.enc)::(di r++s)) w:=h;obtain ⟨g1,hl1,h1,h2⟩:=h'.freezeRow;obtain ⟨g2,hl2,h3,h4⟩:=freezeRowsT r g1 s h1;refine⟨g2,hl1.trans hl2,h3,fun t ht=>?_⟩
  rcases zf1.1 ht with rfl | ht
  ·exact Sl.mono h2 hl2
  ·exact h4 t ht
theorem SC.freezeRowsT {P:Program}{N:Nat}{E:World}{c:Code}{Q:Exit→Act→World→Prop}{f:Fr}{g:PH}{p q:Own}{ts:Ts}(h:∀ g',Le g g'→(∀ t∈ts,SlA a6 g' t.2.1 t.2.2)→SC P N E c Q f g' (p++q)):SC P N E c Q f g (p++(di ts++q)):=fun a w ha hw=>by
 have h0:(p++(di ts++q)).Perm (di ts++(p++q)):=by
  rw[← zg8,← zg8];exact List.perm_append_comm.append_right q
 obtain ⟨g',h1,h2,h3⟩:=Go.Proofs.YtbbppeihhkhkcaaGreatDoor.freezeRowsT ts g (p++q) (hw.perm h0);exact h g' h1 h3 a w ha h2
def C6 (ts:Ts):Prop:=∀ t∈ts,t.2.2.length<1099511627776∧(t.2.2.map Prod.fst).Nodup∧∃ p n c,t.2.1 = .slice p n c
def tV (ts:Ts)(k:Int):List Tm:=match ts.find? (fun t=>decide (t.1=k)) with
 | some t=>sortBy Prod.fst t.2.2
 | none=>[(k,1)]
theorem BP {l l':List Tm}(hp:l'.Perm l)(hs:l'.Pairwise fun x y=>¬ jA y.1 x.1<0)(hn:(l.map Prod.fst).Nodup):l'=sortBy Prod.fst l:=by
 have h1:Srt Prod.fst l':=hs.imp fun h=>by rw[cQ] at h; omega
 exact cB h1 (uh hp.symm hn)
def Tryz.sortT_ren:Ren :=
 {
  f:=fun x =>
   match x with
   | 6=>113
   | 15=>156
   | 14=>173
   | 28=>209
   | 29=>210
   | 20=>219
   | 21=>220
   | 22=>221
   | 23=>222
   | 24=>223
   | 25=>224
   | 26=>225
   | 27=>226
   | 46=>266
   | 47=>259
   | 48=>260
   | 49=>267
   | 50=>268
   | 57=>291
   | n=>n,
  t:=fun x =>
   match x with
   | 22=>77
   | 24=>82
   | 25=>160
   | 3=>3
   | 39=>203
   | 0=>0
   | 53=>239
   | 55=>145
   | 4=>4
   | 46=>233
   | 45=>232
   | 50=>149
   | 5=>5
   | 9=>9
   | 66=>270
   | 70=>274
   | 76=>292
   | 77=>293
   | n=>n,
  g:=fun x =>
   have n:=x;
   n }
theorem Tryz.sortT:SlLaysF0.n6 Tryz.prog Tryz.sortT_ren :=
  {
  mixed:=Eq.refl true,
  f6 :=
   Exists.intro "slices.SortFunc[[]cocycle/api.Term,cocycle/api.Term]"
    ⟨zg3 (id (Eq.refl true)),
     zb8 func113
      (ze2 some
       kR)⟩,
  f14 :=
   Exists.intro "slices.pdqsortCmpFunc[cocycle/api.Term]"
    ⟨zg3 (id (Eq.refl true)),
     zb8 func173
      (ze2 some
       kR)⟩,
  f15:=zb8 func156 (ze2 some kR),
  f20 :=
   Exists.intro "slices.insertionSortCmpFunc[cocycle/api.Term]"
    ⟨zg3 (id (Eq.refl true)),
     zb8 func219
      (ze2 some
       kR)⟩,
  f21 :=
   Exists.intro "slices.heapSortCmpFunc[cocycle/api.Term]"
    ⟨zg3 (id (Eq.refl true)),
     zb8 func220
      (ze2 some
       kR)⟩,
  f22 :=
   Exists.intro "slices.breakPatternsCmpFunc[cocycle/api.Term]"
    ⟨zg3 (id (Eq.refl true)),
     zb8 func221
      (ze2 some
       kR)⟩,
  f23 :=
   Exists.intro "slices.choosePivotCmpFunc[cocycle/api.Term]"
    ⟨zg3 (id (Eq.refl true)),
     zb8 func222
      (ze2 some
       kR)⟩,
  f24 :=
   Exists.intro "slices.reverseRangeCmpFunc[cocycle/api.Term]"
    ⟨zg3 (id (Eq.refl true)),
     zb8 func223
      (ze2 some
       kR)⟩,
  f25 :=
   Exists.intro "slices.partialInsertionSortCmpFunc[cocycle/api.Term]"
    ⟨zg3 (id (Eq.refl true)),
     zb8 func224
      (ze2 some
       kR)⟩,
  f26 :=
   Exists.intro "slices.partitionEqualCmpFunc[cocycle/api.Term]"
    ⟨zg3 (id (Eq.refl true)),
     zb8 func225
      (ze2 some
       kR)⟩,
  f27 :=
   Exists.intro "slices.partitionCmpFunc[cocycle/api.Term]"
    ⟨zg3 (id (Eq.refl true)),
     zb8 func226
      (ze2 some
       kR)⟩,
  f28:=zb8 func209 (ze2 some kR),
  f29:=zb8 func210 (ze2 some kR),
  f46 :=
   Exists.intro "slices.siftDownCmpFunc[cocycle/api.Term]"
    ⟨zg3 (id (Eq.refl true)),
     zb8 func266
      (ze2 some
       kR)⟩,
  f47:=zb8 func259 (ze2 some kR),
  f48:=zb8 func260 (ze2 some kR),
  f49 :=
   Exists.intro "slices.medianAdjacentCmpFunc[cocycle/api.Term]"
    ⟨zg3 (id (Eq.refl true)),
     zb8 func267
      (ze2 some
       kR)⟩,
  f50 :=
   Exists.intro "slices.medianCmpFunc[cocycle/api.Term]"
    ⟨zg3 (id (Eq.refl true)),
     zb8 func268
      (ze2 some
       kR)⟩,
  f57 :=
   Exists.intro "slices.order2CmpFunc[cocycle/api.Term]"
    ⟨zg3 (id (Eq.refl true)),
     zb8 func291
      (ze2 some
       kR)⟩,
  t0:=uT0,a0:=isAgg0,z0:=sizeOf0,v0:=zl2,t3:=uT3,
  a3:=iT3,z3:=zT3,v3:=zl1,t4:=uT4,a4:=iT4,
  z4:=zT4,v4:=zl9,t5:=uT5,a5:=isAgg5,z5:=sizeOf5,
  v5:=zeroValue5,t9:=uT9,a9:=isAgg9,z9:=sizeOf9,v9:=zeroValue9,
  t22:=tf,a22:=isAgg77,z22:=sizeOf77,v22:=zeroValue77,
  t25:=underlying160,a25:=isAgg160,z25:=sizeOf160,v25:=zeroValue160,
  t39:=fV,a39:=isAgg203,z39:=sizeOf203,v39:=zeroValue203,
  t45:=underlying232,a45:=isAgg232,z45:=sizeOf232,v45:=zeroValue232,
  t46:=underlying233,a46:=isAgg233,z46:=sizeOf233,v46:=zeroValue233,
  t50:=underlying149,a50:=isAgg149,z50:=sizeOf149,v50:=zeroValue149,
  t53:=underlying239,a53:=isAgg239,z53:=sizeOf239,v53:=zeroValue239,
  t55:=mO,a55:=iS,z55:=dH,v55:=zeroValue145,
  t66:=underlying270,a66:=isAgg270,z66:=sizeOf270,v66:=zeroValue270,
  t70:=underlying274,a70:=isAgg274,z70:=sizeOf274,v70:=zeroValue274,
  t76:=underlying292,a76:=isAgg292,z76:=sizeOf292,v76:=zeroValue292,
  t77:=underlying293,a77:=isAgg293,z77:=sizeOf293,v77:=zeroValue293 }
theorem FU:GP Tryz.prog 114 a6.enc (fun x y=>jA x.1 y.1):=by
 intro E g s x y;obtain ⟨x1,x2⟩:=x;obtain ⟨y1,y2⟩:=y;refine zb2 (args:=[.agg #[vi x1,vb (mc x2),txt (eJ x2.natAbs)],.agg #[vi y1,vb (mc y2),txt (eJ y2.natAbs)]]) func114 I ntmps114 (bE I) ?_;refine rZ (bW (bO I) fun b2=>?_);refine bW (bO I) fun b3=>?_;refine aT I (rZ (lU (fA C8 I zT3 I) (lK (qL (v:=vi x1) iT3 I (cO 1 I I)) (lU (fA C8 I zT3 I) (lK (qL (v:=vi y1) iT3 I (cO 0 I I)) (lW (cL call90 I (ew E g _ x1 y1)) ?_))))));rintro _ _ _ ⟨rfl,rfl,rfl⟩;refine aT I (rE (dR (s':=s) uR ?_));exact za8 (.inl I) results114 I ⟨I,I,I⟩
theorem Gm {α:Type}(key:α→Int):SWO (ltOf fun x y:α=>jA (key x) (key y)):=⟨fun x=>by simp[ltOf,cQ],fun x y z h1 h2=>by simp[ltOf,cQ] at *; omega,fun x y z h1 h2=>by simp[ltOf,cQ] at *; omega⟩
theorem BQ (E:World)(g:PH)(s:Own)(v:Value)(l:List Tm)(i:Nat)(hi:s[i]?=some (rowA a6 82 v l))(hl:l.length<1099511627776)(hn:(l.map Prod.fst).Nodup) :
  Ctr Tryz.prog E 113 #[v,.func (.func 114) #[] #[]] g s (fun _ g' s'=>g=g'∧s'=s.set i (rowA a6 82 v (sortBy Prod.fst l))) :=
 (x5 Tryz.sortT a6 isAgg82 qD (fun x y=>jA x.1 y.1) (Gm Prod.fst) 114 call114 FU 82 E g s v l i hi hl).mono fun _ _ _ ⟨h1,l',h2,h3,h4⟩=>⟨h1,by rw[h4,BP h2 h3 hn]⟩
theorem Aa (E:World)(g:PH)(p q:Own)(b2 bx mb ms:Nat)(u:Value)(bk:Bool)(k:Int)(ts:Ts)(hts:C6 ts)(i j z:Nat)(hq:p[z]?=some (pt b2 (.cells #[pp bx 0] 96 (0,0))))(hi:p[i]?=some (edP bx u mb ms bk))(hj:p[j]?=some (mp ms (ii ts))) :
  c4 Tryz.prog E (.func (.func 111) #[] #[pp b2 0]) [vi k] g (p++(di ts++q)) (fun r g' s'=>Le g g'∧∃ ts',s'=p++(di ts'++q)∧((ts.find? (fun t=>decide (t.1=k))=none∧ts'=ts∧SlA a6 g' r [(k,1)])∨∃ (m:Nat) (t:Int×Value×List Tm),ts[m]?=some t∧t.1=k∧ts.find? (fun t=>decide (t.1=k))=some t∧r=t.2.1∧ts'=ts.set m (t.1,t.2.1,sortBy Prod.fst t.2.2))):=by
 refine c4.mk (args:=[_]) (cap:=[pp b2 0]) call111 ?_;have left:∀ {n:Nat} {x:Ent},p[n]?=some x→(p++(di ts++q))[n]?=some x:=fun {n x} h=>by
  rw[zh2 (zf5.1 h).1]; exact h
 have hq':=left hq;have hi':=left hi;have hj':=left hj;generalize hs:p++(di ts++q)=s at *
 rcases uw k ts with ⟨h1,h2⟩ | ⟨m,t,h1,h2,h3,h4⟩
 ·have hf:ts.find? (fun t=>decide (t.1=k))=none:=List.find?_eq_none.2 fun t ht=>by simpa using h2 t ht
  refine zb2 (args:=[vi k,pp b2 0]) func111 I ntmps111 (bE I) ?_;refine rZ (aT I (rZ (lK (qL (v:=pp bx 0) isAgg96 I (cO z hq' I)) (lU (nC I) (lU (fA de I sizeOf110 I) (lK (qL (v:=.map (some ms)) isAgg110 I (cO i hi' I)) (lM I (lK (SQ.eq (v':=.tuple #[.slice none 0 0,vb false]) (SQ.lookupOk mty110 I I (bJ.own j hj')) (by rw[h1]; rfl)) ?_))))))));refine lM I (yX I (yX I (lA I (aT I (sQ (sW I (lU (SU.not I) (tZ (za2 I (sW I (lW (cL call112 I (jW E g _ k 1 dC dC)) ?_)))))))))));rintro _ g1 _ ⟨rfl,rfl,hle1⟩;refine lW (bS sty77 I I I (ae ⟨I,trivial⟩) dC) ?_;rintro _ _ _ ⟨b19,rfl,rfl,rfl⟩;refine zb5 fun g2 hle2 hb2=>?_;refine aT I (rE (tR ?_));exact za8 (.inl I) results111 I ⟨hle1.trans hle2,ts,hs.symm,.inl ⟨hf,I,SlA.lit hb2 I I⟩⟩
 ·have hrow:=B5 h1 p q;have hset:=B4 h1 (sortBy Prod.fst t.2.2) p q;rw[hs] at hrow hset;obtain ⟨hl1,hl2,_⟩:=hts t (zg2 h1);refine zb2 (args:=[vi k,pp b2 0]) func111 I ntmps111 (bE I) ?_;refine rZ (aT I (rZ (lK (qL (v:=pp bx 0) isAgg96 I (cO z hq' I)) (lU (nC I) (lU (fA de I sizeOf110 I) (lK (qL (v:=.map (some ms)) isAgg110 I (cO i hi' I)) (lM I (lK (SQ.eq (v':=.tuple #[t.2.1,vb true]) (SQ.lookupOk mty110 I I (bJ.own j hj')) (by rw[h3]; rfl)) ?_))))))));refine lM I (yX I (yX I (lA I (aT I (sQ (sW I (lU (SU.not I) (tZ (za1 I (kP (tN (sW I (lW (cL call113 I (BQ E g _ t.2.1 t.2.2 _ hrow hl1 hl2)) ?_)))))))))))));rintro _ _ _ ⟨rfl,rfl⟩;refine tZ (sW I (aT I (rE ?_)));exact za8 (.inl I) results111 I ⟨zb9 _,_,hset,.inr ⟨m,t,h1,h2,h4,I,I⟩⟩
open Go Go.Sy Go.Pl Go.Proofs
theorem zC (l:List Tm):sortBy Prod.fst (sortBy Prod.fst l)=sortBy Prod.fst l:=(cB (ck l) (aA.refl _)).symm
def jT (ts:Ts)(ids:List Int):Ts:=ts.map fun t=>if t.1∈ids then (t.1,t.2.1,sortBy Prod.fst t.2.2) else t
theorem Di (ts:Ts):jT ts []=ts:=by simp[jT]
theorem BG {ts:Ts}{ids:List Int}{k:Int}(h:(jT ts ids).find? (fun t=>decide (t.1=k))=none):∀ t∈ts,t.1≠k:=fun t ht e=>by
 have h1:=List.find?_eq_none.1 h _ (zf2.2 ⟨t,ht,rfl⟩);apply h1;split <;> exact zf8 e
theorem BF {ts:Ts}{ids:List Int}{k:Int}(h:∀ t∈ts,t.1≠k):jT ts (ids++[k])=jT ts ids:=by
 unfold jT;apply zc8;intro t ht;have hne:=h t ht;by_cases h1:t.1∈ids
 ·rw[zg1 h1,zg1 (by simp[h1])]
 ·rw[zf9 h1,zf9 (by simp[h1,hne])]
theorem Dj {ts:Ts}{ids:List Int}{m:Nat}{t':Int×Value×List Tm}(h:(jT ts ids)[m]?=some t'):∃ t,ts[m]?=some t∧t.1=t'.1∧t.2.1=t'.2.1∧sortBy Prod.fst t'.2.2=sortBy Prod.fst t.2.2:=by
 unfold jT at h;rw[zh9] at h;cases ht:ts[m]? with
 | none=>rw[ht] at h; cases h
 | some t =>
  rw[ht] at h;simp only[Option.map_some,zg7] at h;subst h;refine⟨t,I,?_,?_,?_⟩
  ·split <;> rfl
  ·split <;> rfl
  ·split
   ·exact zC _
   ·rfl
theorem BD {ts:Ts}(hn:(ts.map Prod.fst).Nodup){ids:List Int}{k:Int}{m:Nat}{t':Int×Value×List Tm}(h:(jT ts ids)[m]?=some t')(hk:t'.1=k):(jT ts ids).set m (t'.1,t'.2.1,sortBy Prod.fst t'.2.2)=jT ts (ids++[k]):=by
 obtain ⟨t,h1,h2,h3,h4⟩:=Dj h;apply List.ext_getElem?;intro n;rw[List.getElem?_set];by_cases e:m=n
 ·subst e;have hj:=(zf5.1 h).1;rw[zg1 rfl,zg1 hj];unfold jT;rw[zh9,h1,Option.map_some,zg1 (by simp[h2,hk]),← h4,← h2,← h3]
 ·rw[zf9 e];unfold jT;rw[zh9,zh9];cases hn2:ts[n]? with
  | none=>rfl
  | some u =>
   have hne:u.1≠k:=fun e2=>by
    have hm1:=(zf5.1 h1).1;have hn1:=(zf5.1 hn2).1;have h5:(ts.map Prod.fst)[m]'(by simpa using hm1)=(ts.map Prod.fst)[n]'(by simpa using hn1):=by
     rw[List.getElem_map,List.getElem_map,(zf5.1 h1).2,(zf5.1 hn2).2,h2,hk,e2]
    exact e ((List.getElem_inj hn).1 h5)
   rw[Option.map_some,Option.map_some];by_cases h5:u.1∈ids
   ·rw[zg1 h5,zg1 (by simp[h5])]
   ·rw[zf9 h5,zf9 (by simp[h5,hne])]
theorem AV {ts:Ts}(h:C6 ts)(ids:List Int):C6 (jT ts ids):=fun t ht=>by
 obtain ⟨u,hu,rfl⟩:=zf2.1 ht;obtain ⟨h1,h2,h3⟩:=h u hu;split
 ·exact⟨by rw[fu]; exact h1,((dj u.2.2).map Prod.fst).symm.nodup h2,h3⟩
 ·exact⟨h1,h2,h3⟩
theorem Dh (ts:Ts)(ids:List Int):ii (jT ts ids)=ii ts:=by
 unfold ii jT;rw[zi5];apply zc8;intro t _;simp only[Function.comp];split <;> rfl
theorem ve {α β γ:Type}{R:α→γ→Prop}{S:β→γ→Prop}{f:α→β}:∀ {l:List α} {m:List γ},(∀ a c,a∈l→R a c→S (f a) c)→aF R l m→aF S (l.map f) m
 | [],[],_,_=>trivial
 | a::l,c::m,h,⟨h1,h2⟩=>⟨h a c (by simp) h1,ve (fun x y hx=>h x y (by simp[hx])) h2⟩
 | [],_::_,_,h=>h.elim
 | _::_,[],_,h=>h.elim
def ImS (ts:Ts)(g:PH)(c:Cl)(r:Im):Prop:=r.cell=c.id∧match ts.find? (fun t=>decide (t.1=c.id)) with
 | some t=>.slice r.sv.p r.sv.n r.sv.c=t.2.1
 | none=>SlA a6 g (.slice r.sv.p r.sv.n r.sv.c) [(c.id,1)]
theorem ImS.mono {ts:Ts}{g g':PH}(hl:Le g g'){c:Cl}{r:Im}(h:ImS ts g c r):ImS ts g' c r:=by
 refine⟨h.1,?_⟩;have h2:=h.2
 revert h2
 cases ts.find? (fun t=>decide (t.1=c.id)) with
 | some t=>exact id
 | none=>exact fun h2=>za5 h2 hl
theorem ImS.done {ts:Ts}{g:PH}{F:List Cl}(hk:∀ t∈jT ts (F.map Cl.id),SlA a6 g t.2.1 t.2.2){c:Cl}(hc:c∈F){r:Im}(h:ImS ts g c r):ImR g (c.id,tV ts c.id) r:=by
 refine⟨h.1,?_⟩;have h2:=h.2;unfold tV;dsimp only
 revert h2
 cases hf:ts.find? (fun t=>decide (t.1=c.id)) with
 | some t =>
  intro h2;have h3:=zk7 hf;have h4:t.1=c.id:=by simpa using List.find?_some hf
  dsimp only at h2 ⊢;rw[h2];exact hk (t.1,t.2.1,sortBy Prod.fst t.2.2) (zf2.2 ⟨t,h3,by rw[zg1 (by rw[h4]; exact zf2.2 ⟨c,hc,I⟩)]⟩)
 | none=>exact id
theorem BE {ts:Ts}{ids:List Int}{k:Int}{t':Int×Value×List Tm}(h:(jT ts ids).find? (fun t=>decide (t.1=k))=some t'):∃ t,ts.find? (fun t=>decide (t.1=k))=some t∧t.2.1=t'.2.1:=by
 unfold jT at h;rw[List.find?_map] at h;rw[Option.map_eq_some_iff] at h;obtain ⟨t,h1,h2⟩:=h;refine⟨t,?_,?_⟩
 ·rw[← h1];congr 1;funext u;simp only[Function.comp];split <;> rfl
 ·rw[← h2];split <;> rfl
theorem Cz {ts ts2:Ts}(htn:(ts.map Prod.fst).Nodup)(hok:C6 ts){ids:List Int}{cx:Cl}{g2:PH}{v:Value}
  (h:((jT ts ids).find? (fun t=>decide (t.1=cx.id))=none∧ts2=jT ts ids∧SlA a6 g2 v [(cx.id,1)])∨∃ (m:Nat) (t:Int×Value×List Tm),(jT ts ids)[m]?=some t∧t.1=cx.id∧(jT ts ids).find? (fun t=>decide (t.1=cx.id))=some t∧v=t.2.1∧ts2=(jT ts ids).set m (t.1,t.2.1,sortBy Prod.fst t.2.2)) :
  ∃ q n d,v = .slice q n d∧ts2=jT ts (ids++[cx.id])∧ImS ts g2 cx ⟨cx.id,⟨q,n,d⟩⟩:=by
 rcases h with ⟨h1,rfl,h3⟩ | ⟨m,t,h1,h2,h3,rfl,rfl⟩
 ·obtain ⟨p,c,rfl⟩:=za4 h3;have hne:=BG h1;refine⟨p,_,c,I,(BF hne).symm,I,?_⟩;rw[show ts.find? (fun t=>decide (t.1=cx.id))=none from List.find?_eq_none.2 fun t ht=>by simpa using hne t ht];exact h3
 ·obtain ⟨_,_,p,n,c,hv⟩:=AV hok ids t (zg2 h1);obtain ⟨u,hu1,hu2⟩:=BE h3;refine⟨p,n,c,hv,BD htn h1 h2,I,?_⟩;rw[hu1];dsimp only;rw[hu2,hv]
theorem BN (E:World)(g:PH)(p0 q0:Own)(bx mb ms:Nat)(u v:Value)(bk:Bool)(A D:List Cl)(ts:Ts)(hts:C6 ts)(htn:(ts.map Prod.fst).Nodup)(hu:ar g u A)(hv:ar g v D)(hA:A.length<1099511627776)(hD:D.length<1099511627776)(i j:Nat)(hi0:p0[i]?=some (edP bx u mb ms bk))(hj0:p0[j]?=some (mp ms (ii ts))) :
  Ctr Tryz.prog E 44 #[pp bx 0,.agg #[v]] g (p0++(di ts++q0)) (fun r g' s'=>s'=p0++q0∧Le g g'∧∃ iv,r = .agg #[iv,vb bk]∧Ims g' iv ((if bk then D else A).map fun c=>(c.id,tV ts c.id))):=by
 have hi:(p0++(di ts++q0))[i]?=some (edP bx u mb ms bk):=by rw[zh2 (zf5.1 hi0).1]; exact hi0
 obtain ⟨pu,cu,rfl⟩:=hu.form;obtain ⟨pv,cv,rfl⟩:=hv.form;refine zb2 (args:=[pp bx 0,.agg #[.slice pv D.length cv]]) func44 I ntmps44 (bE I) ?_;refine rZ (bW (bO I) fun b2=>?_);refine bW (bO I) fun b3=>?_;refine bW (aL zl6) fun b4=>?_;refine tZ (rZ (lK (qL isAgg96 I (cO 2 I I)) (lU (nC I) (lU (fA de I aC I) (lK (SQ.loadOne ba aC I (cO (v:=.slice pu A.length cu) (i+3) hi I)) (bW (aL zl5) fun b5=>?_))))));refine oZ (sK 0 aC I I I I I sB) ?_;refine tZ ?_;refine SC.cut (ι:=Unit) (fun _=>[(2,pp b2 0),(3,pp b3 0),(4,pp b4 0),(5,pp b5 0)]) (fun _=>g) (fun _=>pt b5 (.cells #[if bk then .slice pv D.length cv else .slice pu A.length cu] 29 (0,0))::pt b4 (.cells #[.slice none 0 0,vb false] 35 (0,0))::pt b3 (.cells #[.slice pv D.length cv] 29 (0,0))::pt b2 (.cells #[pp bx 0] 96 (0,0))::(p0++(di ts++q0))) (fun _=>True) ?_ ?_
 ·refine rZ (lK (qL isAgg96 I (cO 3 I I)) (lU (nC I) (lU (fA de I zT4 I) (lK (qL (v:=vb bk) iT4 I (cO (i+4) hi I)) (tZ ?_)))));cases bk with
  | true =>
   refine za2 I (rG (lK (qV 2 ba aC I I I) (oZ (sK 0 aC I I I I I sB) ?_)));refine nL ?_;exact za9 () sB I I trivial
  | false =>
   refine za1 I (kP ?_);exact za9 () sB I I trivial
 rintro _ -;try dsimp only
 have hF:ar g (if bk then .slice pv D.length cv else .slice pu A.length cu) (if bk then D else A):=by cases bk <;> assumption
 have hFl:(if bk then D else A).length<1099511627776:=by cases bk <;> assumption
 generalize (if bk=true then D else A)=F at *;generalize (if bk=true then Value.slice pv D.length cv else Value.slice pu A.length cu)=w at *;obtain ⟨rs,hrs,hall⟩:=hF;have hrl:=hall.length;obtain ⟨p,c,rfl⟩:=za4 hrs;refine rZ (lK (qL isAgg96 I (cO 3 I I)) (lU (nC I) (lU (fA de I zT4 I) (lK (qL (v:=vb bk) iT4 I (cO (i+4) hi I)) (lU (za3 I (buildB35 _)) (bW (aL zl6) fun b6=>?_))))));refine oZ (sK 0 ma I I I I I sB) ?_;refine tZ (rZ (lU (SU.mkFunc I) (aT I (sQ (rZ (lU (fA eH I ee I) (lK (qL fX I (cO 1 I I)) (lU (eN aJ I) (lM I (tZ (bK ?_)))))))))));clear hi;refine zb6 113 2 ?_;refine oP (ι:=Nat×PH×Value×List Im) (fun i=>[(2,pp b2 0),(4,pp b4 0),(6,pp b6 0),(7,.func (.func 111) #[] #[pp b2 0]),(26,.slice p rs.length c),(27,vi rs.length),(28,vi i.1)]) (fun i=>i.2.1)
  (fun i=>rowA s8 113 i.2.2.1 i.2.2.2::pt b6 (.cells #[i.2.2.1,vb bk] 35 (0,0))::pt b5 (.cells #[.slice p rs.length c] 29 (0,0))::pt b4 (.cells #[.slice none 0 0,vb false] 35 (0,0))::pt b3 (.cells #[.slice pv D.length cv] 29 (0,0))::pt b2 (.cells #[pp bx 0] 96 (0,0))::(p0++(di (jT ts ((F.take i.1).map Cl.id))++q0)))
  (fun i=>i.1≤rs.length∧Le g i.2.1∧aF (ImS ts i.2.1) (F.take i.1) i.2.2.2) (fun i=>rs.length - i.1) (0,g,.slice none 0 0,[])
  sB rfl (by dsimp only; rw[List.take_zero,List.map_nil,Di]; rfl) ⟨zf6 _,zb9 g,by simp[aF]⟩ ?_
 rintro ⟨k,g1,ov,acc⟩ ⟨hk,hle,hacc⟩;dsimp only at hk hle hacc ⊢;have hal:=hacc.length;rw[ze4] at hal;refine rZ (yL I (tZ (sQ ?_)));refine iP I (fun hlt=>?_) (fun hlt=>?_)
 ·have hkr:k<rs.length:=oM;have hkl:k<F.length:=oM;have hb1:=za6 hrs oM;have hcr:=hall.get (gE hkl) (gE hkr);have hgx:rs[((k:Nat):Int).toNat]?=some rs[k]:=gE hkr;have htk:F.take (k+1)=F.take k++[F[k]]:=tS hkl;generalize rs[k]=x at *;generalize F[k]=cx at *;obtain ⟨xi,xd,xp,xn,xc⟩:=x;obtain ⟨e1,e2,-⟩:=hcr;dsimp only at e1 e2;subst e1 e2;refine kP (tN (sQ (bK (rZ (lU (iA aJ aq I I hb1 oM (show (k:Int)<((rs.length:Nat):Int) by omega)) ?_)))));refine lK (eA dL aq I (za7 (za5 hrs hle)) hgx) (bW (aL zl4) fun b9=>?_);refine oZ (sK 0 aq I I I I I sB) ?_;refine tZ ?_;refine SC.drawT 3 [11,14] [(0,2),(1,2),(2,1),(3,2),(4,1),(5,2),(6,2),(7,1),(8,0),(9,2),(10,0),(11,0),(12,2),(13,2),(14,0)] ze3 kR ?_;refine pU I (fA C9 I sizeOf33 I) (pU I (fA AF I sizeOf31 I) (pK I (qL isAgg31 I (cO 2 I I)) (pU I (fA au I zT3 I) (pK I (qL iT3 I (cO 0 I I)) (yM I (pU I (fA au I zT3 I) (pK I (qL iT3 I (cO 0 I I)) (SP.o I (SO.callV I I (Aa E g1 (pt b9 (.cells #[vi cx.id,vi cx.dim,.slice xp xn xc] 56 (0,0))::rowA s8 113 ov acc::pt b6 (.cells #[ov,vb bk] 35 (0,0))::pt b5 (.cells #[.slice p rs.length c] 29 (0,0))::pt b4 (.cells #[.slice none 0 0,vb false] 35 (0,0))::pt b3 (.cells #[.slice pv D.length cv] 29 (0,0))::pt b2 (.cells #[pp bx 0] 96 (0,0))::p0) q0 b2 bx mb ms _ bk cx.id (jT ts ((F.take k).map Cl.id)) (AV hts _) (i+7) (j+7) 6 I hi0 (by rw[Dh]; exact hj0))) dC (.inr (by rintro v40 g2 _ ⟨hle2,ts2,rfl,hcase⟩; exact⟨by assumption,(by exact .cons_cons _ (.cons_cons _ (.cons_cons _ (List.nil_sublist _))))⟩)) ?_))))))));rintro v40 g2 _ ⟨hle2,ts2,rfl,hcase⟩;obtain ⟨q2,n2,d2,rfl,hts2,him2⟩:=Cz htn hts hcase;subst hts2;refine pU rfl (za3 rfl (build113 _ _ _ _)) (SP.o rfl (bS sty31 rfl rfl rfl (ae sB) dC) dC (.inr (by rintro _ _ _ ⟨b42,rfl,rfl,rfl⟩; exact⟨by assumption,(by exact .cons _ (.cons_cons _ (.cons_cons _ (.cons_cons _ (List.nil_sublist _)))))⟩)) ?_);rintro _ _ _ ⟨b42,rfl,rfl,rfl⟩;refine SP.o I (aP (e:=s8) 1 ⟨cx.id,⟨q2,n2,d2⟩⟩ sty31 I I I I I oM oM) dC (.inl dC) ?_;rintro ov' _ _ ⟨rfl,rfl⟩;refine zd2 fun ⟨w0,hw0⟩=>?_;obtain ⟨q',d',rfl⟩:=ag (e:=s8) (l:=acc++[⟨cx.id,⟨q2,n2,d2⟩⟩]) (i:=1) hw0 rfl;clear hw0 w0;refine pU rfl (fA C9 rfl sizeOf33 rfl) (pU rfl (fA AF rfl sizeOf31 rfl) (SP.on rfl (SO.store1 2 sizeOf31 rfl rfl rfl rfl (bE rfl) (by rfl)) (.inl dC) ?_));rintro _ _ _ ⟨rfl,rfl⟩;refine pN (bN (tN (rG (yD I (lM I (nL (dR (.cons _ (.refl _)) ?_)))))));exact ST.again (k+1,g2,_,acc++[⟨cx.id,⟨q2,n2,d2⟩⟩]) sB I (by dsimp only; rw[htk,zg5]; rfl) ⟨by dsimp only; omega,hle.trans hle2,by
   dsimp only;rw[htk];exact (hacc.mono fun _ _=>ImS.mono hle2).append ⟨him2,trivial⟩⟩ (by dsimp only; omega)
 ·have hkk:F.take k=F:=tL oM;rw[hkk] at hacc ⊢;refine xI (tX (tX (bX (tN (sQ (fS fun g2 hle2 hs2=>?_))))));obtain ⟨q2,d2,rfl⟩:=Sl.form hs2;refine SC.freezeRowsT (p:=pt b6 (.cells #[.slice q2 acc.length d2,vb bk] 35 (0,0))::pt b5 (.cells #[.slice p rs.length c] 29 (0,0))::pt b4 (.cells #[.slice none 0 0,vb false] 35 (0,0))::pt b3 (.cells #[.slice pv D.length cv] 29 (0,0))::pt b2 (.cells #[pp bx 0] 96 (0,0))::p0) (q:=q0) fun g3 hle3 hfr=>?_;refine rG (lK (qV 0 isAgg35 ma I I I) (oZ (sK 2 ma I I I I I sB) ?_));refine tZ (rE ?_);have hdone:aF (ImR g3) (F.map fun c=>(c.id,tV ts c.id)) acc:=ve (fun c r hc hr=>ImS.done hfr hc (hr.mono (hle2.trans hle3))) hacc;exact ST.retCD 2 (p0++q0) (.inl I) results44 I isAgg35 ma I I uR ⟨I,hle.trans (hle2.trans hle3),_,I,acc,za5 hs2 hle3,hdone⟩
end Go.Proofs.YtbbppeihhkhkcaaGreatDoor
