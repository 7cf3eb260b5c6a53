/- 11 -/
import Derived.Test.YtcfkpajlakidbaaGreatDoorTm10
import Derived.Test.YtcfkpajlakidbaaGreatDoorTm02
import Derived.Test.YtcfkpajlakidbaaGreatDoorTm09
import Derived.Test.YtcfkpajlakidbaaGreatDoorTm03
import Derived.ChangeKeysEq
import Derived.Test.YtcfkpajlakidbaaGreatDoorTm08
import Derived.Test.YtcfkpajlakidbaaGreatDoorTm04
import Derived.Test.YtcfkpajlakidbaaGreatDoorTm05
import Derived.Test.YtcfkpajlakidbaaGreatDoorTm07
import Derived.Test.YtcfkpajlakidbaaGreatDoorTm06
import Derived.Scope
import Derived.Shelf.SlSortCmp.NoneTotal
set_option linter.unusedSimpArgs false
set_option linter.unusedVariables false
namespace Go.Proofs.YtcfkpajlakidbaaGreatDoor
open _root_.Go.Proofs.Tryz _root_.Go.Proofs.YtcfkpajlakidbaaGreatDoor.Tryz
open Go Go.Sy Go.Pl Go.Proofs
set_option maxRecDepth 100000
set_option maxHeartbeats 1000000
def Fs (la lb:List Int)(n:Nat)(i:Nat):List Int:=if i=0 then List.replicate (la.length+lb.length) 0 else if lb=[] then [0] else [(n:Int),0]
def FJ (lb:List Int)(n:Nat)(i:Nat):List Int:=if i=0 then List.replicate (1+lb.length) 0 else [(n:Int),0]
theorem vQ (E:World)(g:PH)(s:Own)(v u:Value)(a b:Nat)(hv:SlA fE g v (ef a))(hu:SlA fE g u (ef b))(h:a * b<4294967296) :
  Ctr Tryz.prog E 141 #[v,u] g s (fun r g' s'=>s=s'∧Le g g'∧SlA fE g' r (ef (a * b))):=by
 obtain ⟨p1,c1,rfl⟩:=za2 hv;obtain ⟨p2,c2,rfl⟩:=za2 hu;have hl0:∀ k,(ef k).length≤1:=fun k=>by rcases bw k with ⟨h,-⟩ | ⟨h,-⟩ <;> rw[h] <;> simp
 have hl1:=hl0 a;have hl2:=hl0 b;have hca:=bw a;have hcb:=bw b;obtain ⟨n,hn⟩:∃ n,n=a * b:=⟨_,rfl⟩;rw[← hn] at h ⊢;generalize ef a=la at *;generalize ef b=lb at *;refine za9 (args:=[.slice p1 la.length c1,.slice p2 lb.length c2]) func141 I ntmps141 (bE I) ?_;refine rZ (aT I (sW I (lU (eN aV I) (lM I (lU (eN aV I) (lU (SU.eq (v':=vi ((la.length+lb.length:Nat))) (aD I I oM) (zd6 vi oM)) (lW (mK fE 0 sty142 I I I oM oM) ?_)))))));rintro _ _ _ ⟨b17,rfl,rfl,rfl⟩;refine aT I (sQ (sW I (lU (eN aV I) (lM I (tZ (bK ?_))))));refine oP (ι:=Nat) (fun i=>[(0,.slice p1 la.length c1),(1,.slice p2 lb.length c2),(5,.slice (some ⟨b17,0,none⟩) (la.length+lb.length) (la.length+lb.length)),(18,.slice p1 la.length c1),(19,vi la.length),(20,vi i)]) (fun _=>g) (fun i=>rowA fE 140 (.slice (some ⟨b17,0,none⟩) (la.length+lb.length) (la.length+lb.length)) (Fs la lb n i)::s) (fun i=>i≤la.length) (fun i=>la.length - i) 0
  sB rfl rfl (zf1 _) ?_
 intro i hi;refine rZ (yL I (tZ (sQ ?_)));refine iP I (fun hlt=>?_) (fun hlt=>?_)
 ·rcases hca with ⟨rfl,ha⟩ | ⟨rfl,ha⟩
  ·exact absurd hlt (by simp)
  obtain rfl:i=0:=by simp at hi hlt; omega
  have hb1:=za4 hv Nat.zero_lt_one;refine kP (tN (sQ (bK (sW I (lU (iA aV di I I hb1 dC (by simp[slen])) ?_)))));refine lK (eB jh I (za5 hv) (j:=0) I I) (lA I (aT I (rZ (aT I (sQ (sW I (lU (eN aV I) (lM I (tZ (bK ?_))))))))));refine oP (ι:=Nat) (fun i=>[(0,.slice p1 1 c1),(1,.slice p2 lb.length c2),(5,.slice (some ⟨b17,0,none⟩) (1+lb.length) (1+lb.length)),(18,.slice p1 1 c1),(19,vi 1),(20,vi 0),(6,vi 0),(7,.int .u64 (a:Int)),(8,.int .u64 0),(25,.slice p2 lb.length c2),(26,vi lb.length),(27,vi i)]) (fun _=>g) (fun i=>rowA fE 140 (.slice (some ⟨b17,0,none⟩) (1+lb.length) (1+lb.length)) (FJ lb n i)::s) (fun i=>i≤lb.length) (fun i=>lb.length - i) 0
   sB rfl rfl (zf1 _) ?_
  intro k hk;refine rZ (yL I (tZ (sQ ?_)));refine iP I (fun hkl=>?_) (fun hkl=>?_)
  ·rcases hcb with ⟨rfl,hb⟩ | ⟨rfl,hb⟩
   ·exact absurd hkl (by simp)
   obtain rfl:k=0:=by simp at hk hkl; omega
   have hb2:=za4 hu Nat.zero_lt_one;refine kP (tN (sQ (bK (sW I (lU (iA aV di I I hb2 dC (by simp[slen])) ?_)))));refine lK (eB jh I (za5 hu) (j:=0) I I) (lA I (aT I (sW I (lM I (lM I (yD I (lU (iA aV di I I I dC (by simp[slen])) ?_)))))));refine lK (eB jh I (zb5 0 I) (j:=0) I I) (lM I (lM I (lU (SU.eq (v':=.int .u64 (n:Int)) (SU.mulW I I) (zd6 (Value.int .u64) (by rw[← Int.natCast_mul,← hn,Ct oM]))) ?_)));refine lU (SU.eq (v':=.int .u64 (n:Int)) (zd5 I I) (zd6 (Value.int .u64) (by rw[Ct oM]; omega))) ?_;refine lM I (lU (SU.eq (v':=.int .u64 (n:Int)) (zd5 I I) (zd6 (Value.int .u64) (by rw[Ct oM]; omega))) ?_);refine aT I (rG (lM I (lM I (lM I (yD I (lM I (lU (SU.eq (v':=.int .u64 (n:Int)) (SU.and I I) (zd6 (Value.int .u64) (by rw[pF _ oM,Nat.mod_eq_of_lt h]))) ?_)))))));refine lM I (lU (SU.eq (v':=.int .u64 0) (SU.shr I I dC) (zd6 (Value.int .u64) (jr _ _ dC dC h))) (lU (iA aV di I I I dC (by simp[slen])) ?_));refine oZ (sT (e:=fE) (a:=(n:Int)) (j:=0) 0 di I I I (bE I) I) (lA I (nL (bN (tN (rG (yD I (lM I (nL ?_))))))));exact ST.again 1 sB I I (lR _) Nat.zero_lt_one
  ·obtain rfl:k=lb.length:=oM;have hlen:(FJ lb n lb.length).length=1+lb.length:=by
    unfold FJ;split
    ·simp
    ·simp; omega
   have hset:(FJ lb n lb.length).set lb.length 0=Fs [(a:Int)] lb n 1:=by
    rcases hcb with ⟨rfl,hb⟩ | ⟨rfl,hb⟩
    ·rfl
    ·rfl
   refine xI (tX (tX (bX (tN (rG (lM I (lM I (lM I (lU (eN aV I) (lU (SU.eq (v':=vi (lb.length:Nat)) (aD I I oM) (zd6 vi oM)) (lM I (lU (iA aV di I I I oM sL) (oZ (sT (e:=fE) (a:=0) (j:=lb.length) 0 di I I I oM I) (nL (bN (tN (rG (yD I (lM I (nL ?_))))))))))))))))))));exact ST.again 1 sB I (by rw[← hset]; rfl) (lR _) Nat.zero_lt_one
 ·obtain rfl:i=la.length:=oM;have hlen:(Fs la lb n la.length).length=la.length+lb.length:=by
   rcases hca with ⟨rfl,ha⟩ | ⟨rfl,ha⟩ <;> rcases hcb with ⟨rfl,hb⟩ | ⟨rfl,hb⟩ <;> rfl
  have hfin:dL (Fs la lb n la.length)=ef n:=by
   rcases hca with ⟨rfl,ha⟩ | ⟨rfl,ha⟩
   ·subst ha;rw[Nat.zero_mul] at hn;subst hn
    rcases hcb with ⟨rfl,hb⟩ | ⟨rfl,hb⟩ <;> rfl
   ·rcases hcb with ⟨rfl,hb⟩ | ⟨rfl,hb⟩
    ·subst hb;rw[Nat.mul_zero] at hn;subst hn;rfl
    ·exact l6 _
  refine xI (tX (tX (bX (tN (sQ (fS fun g1 hle1 hs1=>?_))))));refine rG (lM I (lW (cL call132 I (jt E g1 _ _ (Fs la lb n la.length) (by unfold SlA; rw[hlen]; rw[hlen] at hs1; exact hs1) oM)) ?_));rintro v63 _ _ ⟨rfl,rfl,hm⟩;refine aT I (rE ?_);rw[hfin] at hm;exact za6 (.inl I) results141 I ⟨I,hle1,hm⟩
theorem vn {k:Nat}(h:k<4294967296):gn (ef k)=ey k:=by
 have h1:=oA (k:Int) (by rw[Int.natAbs_natCast]; omega);rw[Int.natAbs_natCast] at h1;rw[← h1];have h2:uh (k:Int)=[(k:Int),0]:=by
  unfold uh;rw[Int.natAbs_natCast,Nat.mod_eq_of_lt h,Nat.div_eq_of_lt h];rfl
 have h3:dL (ef k)=ef k:=by
  rcases bw k with ⟨e,h0⟩ | ⟨e,h0⟩
  ·rw[e]; rfl
  ·rw[← ia k,ia k,e,ia k,e]
 unfold gn;rw[h3,h2,l6]
theorem tz {k:Nat}(h:k<18446744073709551616):ey k=[]↔k=0:=by
 refine⟨fun e=>?_,fun e=>by subst e; rfl⟩;have:=iS h;rw[e] at this;exact this.symm
theorem m4 {neg:Bool}{k:Nat}{z:Int}(hk:k=z.natAbs)(h:k<4294967296)(hn:k≠0→neg=decide (z<0)):r6 neg (gn (ef k))=dy z:=by
 rw[vn h];subst hk;show Value.agg #[vb (neg&&decide (ey z.natAbs≠[])),txt (ey z.natAbs)]=Value.agg #[vb (decide (z<0)&&decide (ey z.natAbs≠[])),txt (ey z.natAbs)];by_cases h0:z.natAbs=0
 ·have:ey z.natAbs=[]:=(tz oM).2 h0;rw[this];simp
 ·rw[hn h0]
theorem jP {z:Int}(h:z.natAbs<4294967296):dy z = .agg #[vb (decide (z<0)),txt (ey z.natAbs)]:=by
 show Value.agg #[vb (decide (z<0)&&decide (ey z.natAbs≠[])),txt (ey z.natAbs)]=_;by_cases h0:z.natAbs=0
 ·have:¬ z<0:=oM;simp[this]
 ·have:ey z.natAbs≠[]:=fun e=>h0 ((tz oM).1 e);simp[this]
theorem SU.neqB {P:Program}{N:Nat}{f:Fr}{dst:Option Tmp}{ty:TypeId}{pos:String}{af:Array Edge}{gd:Option (Nat×Bool)}{x y:Operand}{T U:TypeId}{a b:Bool}(hT:P.underlying T=some .bool)(hx:ev f x=some (vb a))(hy:ev f y=some (vb b)) :
  SU P N ⟨dst,.binOp .neq T x y U,ty,pos,af,gd⟩ f (.bool (!(a == b))):=fun ac w ha=>by
 have hg:(eqGuard .neq T x y (.bool a) (.bool b)).run P w = .ok () w:=by simp[eqGuard]
 have hb:=run_neq_bool (P:=P) w T a b hT;simp only[execOp,ha.ev hx,ha.ev hy,Sem.run_bind,hg,zc7,hb];rfl
theorem SU.eqlB' {P:Program}{N:Nat}{f:Fr}{dst:Option Tmp}{ty:TypeId}{pos:String}{af:Array Edge}{gd:Option (Nat×Bool)}{x y:Operand}{T U:TypeId}{a b:Bool}(hT:P.underlying T=some .bool)(hx:ev f x=some (vb a))(hy:ev f y=some (vb b)) :
  SU P N ⟨dst,.binOp .eql T x y U,ty,pos,af,gd⟩ f (.bool (a == b)):=fun ac w ha=>by
 have hg:(eqGuard .eql T x y (.bool a) (.bool b)).run P w = .ok () w:=by simp[eqGuard]
 have hb:=run_eql_bool (P:=P) w T a b hT;simp only[execOp,ha.ev hx,ha.ev hy,Sem.run_bind,hg,zc7,hb];rfl
theorem mQ (E:World)(g:PH)(s:Own)(n m:Int)(hn:n.natAbs<4294967296)(hm:m.natAbs<4294967296)(h:(n * m).natAbs<4294967296) :
  Ctr Tryz.prog E 97 #[dy n,dy m] g s (fun r g' s'=>r=dy (n * m)∧s=s'∧Le g g'):=by
 have hfin:r6 (decide (n<0) != decide (m<0)) (gn (ef (n.natAbs * m.natAbs)))=dy (n * m):=by
  refine m4 (Int.natAbs_mul n m).symm (by rwa [Int.natAbs_mul] at h) fun h0=>?_;have h1:n≠0:=by rintro rfl; simp at h0
  have h2:m≠0:=by rintro rfl; simp at h0
  rcases Int.lt_or_gt_of_ne h1 with a | a <;> rcases Int.lt_or_gt_of_ne h2 with b | b
  ·have:=Int.mul_pos_of_neg_of_neg a b;rw[zf3 a,zf3 b,zf2 oM]; rfl
  ·have:=Int.mul_neg_of_neg_of_pos a b;rw[zf3 a,zf2 oM,zf3 this]; rfl
  ·have:=Int.mul_neg_of_pos_of_neg a b;rw[zf2 oM,zf3 b,zf3 this]; rfl
  ·have:=Int.mul_pos a b;rw[zf2 oM,zf2 oM,zf2 oM]; rfl
 rw[Int.natAbs_mul] at h;rw[← hfin,jP hn,jP hm];have e1:=iS (m:=n.natAbs) oM;have e2:=iS (m:=m.natAbs) oM;have l1:=kU hn;have l2:=kU hm;generalize ey n.natAbs=B at *;generalize ey m.natAbs=C at *;generalize decide (n<0)=x at *;generalize decide (m<0)=y at *;rw[← e1,← e2] at h ⊢;clear e1 e2 hfin hn hm n m;rw[show (x != y) = !(x == y) from rfl];refine za9 (args:=[.agg #[vb x,txt B],.agg #[vb y,txt C]]) func97 I ntmps97 (bE I) ?_;refine rZ (bW (bO I) fun b2=>?_);refine bW (bO I) fun b3=>?_;refine bW (aL zk3) fun b4=>?_;refine tZ (sQ ?_);refine dW [11] [(0,1),(2,1),(5,2),(6,1),(7,2),(8,1),(9,2),(1,0),(3,0),(4,0),(10,0),(11,0)] zd7 kR ?_;refine pK I (qV 2 mZ iI I I I) (pK I (qV 1 mZ iI I I I) (pU I (fA sS I zT4 I) (pK I (qL iT4 I (cO 2 I I)) (pU I (fA sS I zT4 I) (pK I (qL iT4 I (cO 1 I I)) (pU I (SU.neqB uT4 I I) (SP.o I (cL call140 I (lf E _ _ x B l1)) dC (.inr iR) ?_)))))));rintro v6 g1 _ ⟨rfl,hle1,hs1⟩;refine SP.o rfl (cL call140 rfl (lf E _ _ y C l2)) dC (.inr (by rintro v8 g2 _ ⟨rfl,hle2,hs2⟩; exact⟨by exact Le.trans (by assumption) (by assumption),(by exact .refl _)⟩)) ?_;rintro v8 g2 _ ⟨rfl,hle2,hs2⟩;have h12:=hle1.trans hle2;refine SP.o rfl (cL call141 rfl (vQ E _ _ v6 v8 (beN B) (beN C) (za3 hs1 hle2) hs2 h)) dC (.inr (by rintro v9 g3 _ ⟨rfl,hle3,hs3⟩; exact⟨by exact Le.trans (by assumption) (by assumption),(by exact .refl _)⟩)) ?_;rintro v9 g3 _ ⟨rfl,hle3,hs3⟩;have h13:=h12.trans hle3;refine SP.o rfl (cL call90 rfl (ft E _ _ v9 _ _ hs3 (by rcases bw (beN B * beN C) with ⟨e,-⟩ | ⟨e,-⟩ <;> rw[e] <;> simp))) dC (.inr (by rintro _ g4 _ ⟨rfl,rfl,hle4⟩; exact⟨by exact Le.trans (by assumption) (by assumption),(by exact .refl _)⟩)) ?_;rintro _ g4 _ ⟨rfl,rfl,hle4⟩;refine SP.on I (sK 0 iI I I I I I sB) (.inl dC) ?_;rintro _ _ _ ⟨rfl,rfl⟩;refine pN (tN (rE ?_));exact ST.retCD 0 s (.inl I) results97 I mZ iI I I uR ⟨I,I,hle1.trans (hle2.trans (hle3.trans hle4))⟩
theorem rO (k:Nat):(ef k).length<1099511627776:=by rcases bw k with ⟨e,-⟩ | ⟨e,-⟩ <;> rw[e] <;> simp
def Fu (x:Bool)(b:Nat)(y:Bool)(c:Nat):Value:=if (x == y)=true then r6 x (gn (ef (b+c))) else if b<c then r6 y (gn (ef (c - b))) else r6 x (gn (ef (b - c)))
theorem xr (b c:Nat):Cg b c<0↔b<c:=by
 unfold Cg;split
 ·simp; omega
 ·split <;> simp <;> omega
theorem vq (E:World)(g:PH)(s:Own)(x y:Bool)(B C:List UInt8)(l1:B.length≤4)(l2:C.length≤4)(h:beN B+beN C<4294967296) :
  Ctr Tryz.prog E 139 #[.agg #[vb x,txt B],.agg #[vb y,txt C]] g s (fun r g' s'=>r=Fu x (beN B) y (beN C)∧s=s'∧Le g g'):=by
 obtain ⟨V,hV⟩:∃ V,V=Fu x (beN B) y (beN C):=⟨_,rfl⟩;rw[← hV];unfold Fu at hV;refine za9 (args:=[.agg #[vb x,txt B],.agg #[vb y,txt C]]) func139 I ntmps139 (bE I) ?_;refine rZ (bW (bO I) fun b2=>?_);refine bW (bO I) fun b3=>?_;refine bW (aL zk3) fun b4=>?_;refine tZ (sQ ?_);refine dW [] [(0,1),(2,1),(1,0),(3,0),(4,2),(5,2)] zd7 kR ?_;refine pK I (qV 2 mZ iI I I I) (pK I (qV 1 mZ iI I I I) (SP.o I (cL call140 I (lf E _ _ x B l1)) dC (.inr iR) ?_));rintro v6 g1 _ ⟨rfl,hle1,hs1⟩;refine SP.o rfl (cL call140 rfl (lf E _ _ y C l2)) dC (.inr (by rintro v8 g2 _ ⟨rfl,hle2,hs2⟩; exact⟨by exact Le.trans (by assumption) (by assumption),(by exact .refl _)⟩)) ?_;rintro v8 g2 _ ⟨rfl,hle2,hs2⟩;have h12:=hle1.trans hle2;have hs1:=za3 hs1 hle2;refine pU I (aS I) (pU I (aS I) (pN (tN (sQ (bK (rZ (lU (fA sS I zT4 I) (lK (qL iT4 I (cO 2 I I)) (lU (fA sS I zT4 I) (lK (qL iT4 I (cO 1 I I)) (lU (SU.eqlB' uT4 I I) (aT I ?_))))))))))));refine iQ I (fun hxy=>?_) (fun hxy=>?_)
 ·rw[zf5 hxy] at hV;subst hV;refine sQ ?_;refine dW [6] [(0,2),(1,2),(3,2),(4,1),(2,0),(5,0),(6,0)] zd7 kR ?_;refine yM I (yM I (pU I (fA sS I zT4 I) (pK I (qL iT4 I (cO 2 I I)) (SP.o I (cL call164 I (vS E _ _ v6 v8 (beN B) (beN C) hs1 hs2 h)) dC (.inr iR) ?_))));rintro v9 g3 _ ⟨rfl,hle3,hs3⟩;have h13:=h12.trans hle3;refine SP.o rfl (cL call90 rfl (ft E _ _ v9 _ _ hs3 (rO _))) dC (.inr (by rintro _ g4 _ ⟨rfl,rfl,hle4⟩; exact⟨by exact Le.trans (by assumption) (by assumption),(by exact .refl _)⟩)) ?_;rintro _ g4 _ ⟨rfl,rfl,hle4⟩;have h14:=h13.trans hle4;refine SP.on I (sK 0 iI I I I I I sB) (.inl dC) ?_;rintro _ _ _ ⟨rfl,rfl⟩;refine pN (tN (rE (bR (tR ?_))));exact ST.retCD 0 s (.inl I) results139 I mZ iI I I uR ⟨I,I,h14⟩
 ·rw[zf4 (by rw[hxy]; decide)] at hV;refine sW I (lM I (lW (cL call165 I (vR E _ _ v6 v8 (beN B) (beN C) hs1 hs2)) ?_));rintro _ _ _ ⟨rfl,rfl,rfl⟩;refine yL I (aT I ?_);refine iP I (fun hc=>?_) (fun hc=>?_)
  ·rw[xr] at hc;rw[zf5 hc] at hV;subst hV;refine sQ ?_;refine dW [6] [(0,2),(1,2),(3,2),(4,1),(2,0),(5,0),(6,0)] zd7 kR ?_;refine yM I (yM I (pU I (fA sS I zT4 I) (pK I (qL iT4 I (cO 1 I I)) (SP.o I (cL call166 I (oW E _ _ v8 v6 (beN C) (beN B) hs2 hs1 oM oM)) dC (.inr iR) ?_))));rintro v9 g3 _ ⟨rfl,hle3,hs3⟩;have h13:=h12.trans hle3;refine SP.o rfl (cL call90 rfl (ft E _ _ v9 _ _ hs3 (rO _))) dC (.inr (by rintro _ g4 _ ⟨rfl,rfl,hle4⟩; exact⟨by exact Le.trans (by assumption) (by assumption),(by exact .refl _)⟩)) ?_;rintro _ g4 _ ⟨rfl,rfl,hle4⟩;have h14:=h13.trans hle4;refine SP.on I (sK 0 iI I I I I I sB) (.inl dC) ?_;rintro _ _ _ ⟨rfl,rfl⟩;refine pN (tN (rE (bR (tR ?_))));exact ST.retCD 0 s (.inl I) results139 I mZ iI I I uR ⟨I,I,h14⟩
  ·rw[xr] at hc;rw[zf4 hc] at hV;subst hV;refine kP (bN (tN (sQ ?_)));refine dW [6] [(0,2),(1,2),(3,2),(4,1),(2,0),(5,0),(6,0)] zd7 kR ?_;refine yM I (yM I (pU I (fA sS I zT4 I) (pK I (qL iT4 I (cO 2 I I)) (SP.o I (cL call166 I (oW E _ _ v6 v8 (beN B) (beN C) hs1 hs2 oM oM)) dC (.inr iR) ?_))));rintro v9 g3 _ ⟨rfl,hle3,hs3⟩;have h13:=h12.trans hle3;refine SP.o rfl (cL call90 rfl (ft E _ _ v9 _ _ hs3 (rO _))) dC (.inr (by rintro _ g4 _ ⟨rfl,rfl,hle4⟩; exact⟨by exact Le.trans (by assumption) (by assumption),(by exact .refl _)⟩)) ?_;rintro _ g4 _ ⟨rfl,rfl,hle4⟩;have h14:=h13.trans hle4;refine SP.on I (sK 0 iI I I I I I sB) (.inl dC) ?_;rintro _ _ _ ⟨rfl,rfl⟩;refine pN (tN (rE ?_));exact ST.retCD 0 s (.inl I) results139 I mZ iI I I uR ⟨I,I,h14⟩
theorem Fo {n m:Int}(h:n.natAbs+m.natAbs<4294967296):Fu (decide (n<0)) n.natAbs (decide (m<0)) m.natAbs=dy (n+m):=by
 unfold Fu;split
 ·rename_i e;have e:=eq_of_beq e;have e':(n<0↔m<0):=by simpa [decide_eq_decide] using e
  refine m4 oM h fun h0=>?_;rw[decide_eq_decide];omega
 ·rename_i e;have e':¬ (n<0↔m<0):=by simpa [decide_eq_decide] using e
  split
  ·refine m4 oM oM fun h0=>?_;rw[decide_eq_decide];omega
  ·refine m4 oM oM fun h0=>?_;rw[decide_eq_decide];omega
theorem uv (E:World)(g:PH)(s:Own)(n m:Int)(h:n.natAbs+m.natAbs<4294967296) :
  Ctr Tryz.prog E 139 #[dy n,dy m] g s (fun r g' s'=>r=dy (n+m)∧s=s'∧Le g g'):=by
 rw[← Fo h,jP oM,jP oM];have e1:=iS (m:=n.natAbs) oM;have e2:=iS (m:=m.natAbs) oM;have:=vq E g s (decide (n<0)) (decide (m<0)) (ey n.natAbs) (ey m.natAbs) (kU oM) (kU oM) (by rw[e1,e2]; exact h);rwa [e1,e2] at this
abbrev Pr:=Int×Int
def Ring (adj:Pr→Pr→Bool)(l:List Pr):Prop:=l≠[]∧∀ x∈l,∃ y∈l,y≠x∧adj x y=true
def Cyc (adj:Pr→Pr→Bool)(m:List Pr):Prop:=∃ l,Ring adj l∧∀ x∈l,x∈m
inductive Pth (adj:Pr→Pr→Bool)(m:List Pr):Pr→Pr→Prop
 | one (x y:Pr) (hy:y∈m) (hne:y≠x) (ha:adj x y=true):Pth adj m x y
 | cons (x y z:Pr) (hy:y∈m) (hne:y≠x) (ha:adj x y=true) (h:Pth adj m y z):Pth adj m x z
def adjS (S:Int→List Int)(x y:Pr):Bool:=(S x.2).contains y.1
section
variable {p:Pr}{S:Int→List Int}{T:List Pr}
end
def Gv (l:List Cl)(h:Int):List Int:=((r8 l h).getD eO).sides.map ah.cell
structure Vd (l:List Cl)(T:List Pr):Prop where
 once:(T.map Prod.fst++T.map Prod.snd).Nodup
 side:∀ q∈T,q.1∈Gv l q.2
 free:¬ Cyc (adjS (Gv l)) T
section
variable {l:List Cl}(hl:(aN l).2=0)
include hl
end
structure Gd8 (l:List Cl):Prop where
 right:Rt (aa l)
 ids:∀ c∈l,0<c.id∧c.id≤4000
def at2 (p:Pr)(k:Nat):Int:=if k=0 then p.1 else p.2
end Go.Proofs.YtcfkpajlakidbaaGreatDoor
namespace Go.Sy
open Go Go.MapKept
section
variable {P:Program}{w:World}{t kt et:TypeId}{z:Value}{b:Nat}{es:Array MapEntry}{clk:Nat}{l:List (Int×Value)}
end
section
variable {P:Program}{N:Nat}{E:World}{f:Fr}{g:PH}{s:Own}{dst:Option Tmp}{ty:TypeId}{pos:String}{af:Array Edge}{gd:Option (Nat×Bool)}
variable {t kt et:TypeId}{z:Value}{b:Nat}{l:List (Int×Value)}{x y u:Operand}{k:Int}{v:Value}
end
end Go.Sy
namespace Go.Sy
open Go
section
variable {P:Program}{M:Md}{N:Nat}{E:World}{Q:Exit→Act→World→Prop}{f:Fr}{g:PH}{s:Own}{dst:Option Tmp}{ty:TypeId}{pos:String}{af:Array Edge}{gd:Option (Nat×Bool)}
end
end Go.Sy
namespace Go.Proofs.YtcfkpajlakidbaaGreatDoor
open _root_.Go.Proofs.Tryz _root_.Go.Proofs.YtcfkpajlakidbaaGreatDoor.Tryz
open Go Go.Sy Go.Pl Go.Proofs
set_option maxRecDepth 100000
set_option maxHeartbeats 1000000
set_option maxHeartbeats 2000000
section
variable {P:Program}{N:Nat}{E:World}{f:Fr}{g:PH}{s:Own}{dst:Option Tmp}{ty:TypeId}{pos:String}{af:Array Edge}{gd:Option (Nat×Bool)}
variable {t kt et:TypeId}{z:Value}{b:Nat}{l:List (Int×Value)}{x y u:Operand}{k:Int}{v:Value}
end
end Go.Proofs.YtcfkpajlakidbaaGreatDoor
namespace Go.Sy
open Go Go.MapKept
section
variable {P:Program}{w:World}{t kt et ty:TypeId}{z:Value}{b:Nat}{es:Array MapEntry}{clk:Nat}{l:List (Int×Value)}
end
section
variable {P:Program}{N:Nat}{E:World}{ops:Array Oper}{Q:Exit→Act→World→Prop}{f:Fr}{g:PH}{s:Own}{dst:Option Tmp}{ty:TypeId}{pos:String}{af:Array Edge}{gd:Option (Nat×Bool)}
variable {t kt et:TypeId}{z:Value}{b:Nat}{l:List (Int×Value)}{x y:Operand}{k:Int}
end
end Go.Sy
namespace Go.Sy
open Go
section
variable {P:Program}{N:Nat}{E:World}{f:Fr}{g:PH}{s:Own}{dst:Option Tmp}{ty:TypeId}{pos:String}{af:Array Edge}{gd:Option (Nat×Bool)}
theorem SQ.sof {o:Oper}{v:Value}(h:SQ P N E o f g s v):SO P N E o f g s fun v' g' s'=>v'=v∧g=g'∧s=s':=SO.mono h.so fun _ _ _ ⟨h1,h2,h3⟩=>⟨h1,h2.symm,h3.symm⟩
theorem SQ.loadOne {x:Operand}{T:TypeId}{b o:Nat}{v:Value}(hT:∀ w,(isAgg T).run P w = .ok true w)(hk:∀ w,(sizeOf T).run P w = .ok 1 w)(hx:ev f x=some (pp b o))(hc:eH g s ⟨b,o,none⟩ v) :
  SQ P N E ⟨dst,.load T x,ty,pos,af,gd⟩ f g s (.agg #[v]) :=
 SQ.loadAggAt (vs:=[v]) hT hk hx rfl fun j u hu=>by
  cases j with
  | zero=>simp at hu; subst hu; exact hc
  | succ j=>simp at hu
end
section
variable {α:Type}{k:Nat}{P:Program}{N:Nat}{E:World}{f:Fr}{g:PH}{s:Own}{dst:Option Tmp}{ty:TypeId}{pos:String}{af:Array Edge}{gd:Option (Nat×Bool)}
end
section
variable {P:Program}{N:Nat}{E:World}{f:Fr}{g:PH}{s:Own}{fn:Func}{R:Value→PH→Own→Prop}{e:Exit}
end
end Go.Sy
namespace Go.Proofs.YtcfkpajlakidbaaGreatDoor
open _root_.Go.Proofs.Tryz _root_.Go.Proofs.YtcfkpajlakidbaaGreatDoor.Tryz
open Go Go.Sy Go.Pl Go.Proofs
set_option maxRecDepth 100000
set_option maxHeartbeats 1000000
structure Ed where
 kind:Int
 cell:Int
 dim:Int
 new:Int
 other:Int
 sides:List ah
 pairs:List Pr
abbrev Tm:=Int×Int
def my (n:Int):Bool:=decide (n<0)&&decide (ey n.natAbs≠[])
def cN:Enc Tm 3:=⟨fun p=>[vi p.1,vb (my p.2),txt (ey p.2.natAbs)],fun _=>rfl,fun _ u hu=>by simp at hu; rcases hu with rfl | rfl | rfl <;> rfl,by decide⟩
structure Im where
 cell:Int
 sv:Sv
def ur:Enc Im 2:=⟨fun r=>[vi r.cell,.slice r.sv.p r.sv.n r.sv.c],fun _=>rfl,fun _ u hu=>by simp at hu; rcases hu with rfl | rfl <;> rfl,by decide⟩
def ImR (g:PH)(c:Int×List Tm)(r:Im):Prop:=r.cell=c.1∧SlA cN g (.slice r.sv.p r.sv.n r.sv.c) c.2
theorem ImR.mono {g g':PH}(hl:Le g g'){c:Int×List Tm}{r:Im}(h:ImR g c r):ImR g' c r:=⟨h.1,za3 h.2 hl⟩
def Ims (g:PH)(v:Value)(l:List (Int×List Tm)):Prop:=∃ rs,SlA ur g v rs∧aA (ImR g) l rs
theorem Tryz.build87 (x:Int)(b:Bool)(l:List UInt8)(w:World):(Instr.build 87 #[(0,vi x),(1,.agg #[vb b,txt l])]).run Tryz.prog w = .ok (.agg #[vi x,vb b,txt l]) w:=by
 have h1:(vi x).cells = #[vi x]:=rfl;have h2:(Value.agg #[vb b,txt l]).cells = #[vb b,txt l]:=rfl;simp[Instr.build,Instr.fill,h1,h2];rfl
theorem Tryz.mty89:MTy Tryz.prog 89 3 76 (.slice none 0 0):=⟨underlying89,underlying3,zeroValue76⟩
theorem Tryz.sty76:STy Tryz.prog 76 87 3 32 (.agg #[vi 0,vb false,txt []]):=⟨underlying76,⟨t87,by kernel_rfl,by kernel_rfl,by kernel_rfl,by kernel_rfl⟩,rfl,by decide⟩
theorem Tryz.sty43:STy Tryz.prog 43 78 2 32 (.agg #[vi 0,.slice none 0 0]):=⟨underlying43,⟨t78,by kernel_rfl,by kernel_rfl,by kernel_rfl,by kernel_rfl⟩,rfl,by decide⟩
set_option maxHeartbeats 2000000
set_option maxHeartbeats 4000000
end Go.Proofs.YtcfkpajlakidbaaGreatDoor
namespace Go.Sy
open Go
section
variable {P:Program}{N:Nat}{E:World}{ops:Array Oper}{Q:Exit→Act→World→Prop}{g0:PH}{s0:Own}{tail:List Nat}{f:Fr}{g:PH}{s s':Own}{L:Array Bool}{n:Nat}
end
end Go.Sy
namespace Go.Proofs.YtcfkpajlakidbaaGreatDoor
open _root_.Go.Proofs.Tryz _root_.Go.Proofs.YtcfkpajlakidbaaGreatDoor.Tryz
open Go Go.Sy Go.Pl Go.Proofs
set_option maxRecDepth 100000
set_option maxHeartbeats 4000000
end Go.Proofs.YtcfkpajlakidbaaGreatDoor
namespace Go.Sy
open Go Go.MapKept
instance quiet_scope {Q:Exit→Act→World→Prop}[h:Quiet Q]:Quiet (Exit.noGoto Q):=⟨fun c a a' w hd hq=>h.out c a a' w hd hq⟩
section
variable {P:Program}{N:Nat}{E:World}{Q:Exit→Act→World→Prop}{f:Fr}{g:PH}{s:Own}
theorem SC.scope {c:Code}(h:SC P N E c (Exit.noGoto Q) f g s):SC P N E (.scope c) Q f g s:=fun a w ha hw=>wp_scope_straight (h a w ha hw)
theorem ST.scopeR (h:ST N E Q .ret f g s):ST N E (Exit.noGoto Q) .ret f g s:=h
end
end Go.Sy
namespace Go.Proofs.YtcfkpajlakidbaaGreatDoor
open _root_.Go.Proofs.Tryz _root_.Go.Proofs.YtcfkpajlakidbaaGreatDoor.Tryz
open Go Go.Sy Go.Pl Go.Proofs Go.Shelf Go.Sort
set_option maxRecDepth 100000
set_option maxHeartbeats 2000000
open Go Go.Sy Go.Pl Go.Proofs
set_option maxHeartbeats 4000000
instance:Inhabited ah:=⟨⟨0,0⟩⟩
end Go.Proofs.YtcfkpajlakidbaaGreatDoor
namespace Go.Sy
open Go Go.MapKept
section
variable {P:Program}{N:Nat}{E:World}{f:Fr}{g:PH}{s:Own}{dst:Option Tmp}{ty:TypeId}{pos:String}{af:Array Edge}{gd:Option (Nat×Bool)}
variable {t kt et:TypeId}{m r clk:Nat}{es:Array MapEntry}{vis:List MapEntry}{x y u:Operand}{l vl:List (Int×Value)}{z:Value}{b:Nat}{k:Int}{v:Value}
abbrev mx (b:Nat)(es:Array MapEntry)(clk:Nat):Ent:=pt b (.map es clk)
theorem Cq (j:Nat)(hj:s[j]?=some (mx m es clk)):∀ w,At E g s w→w.heap[m]?=some (.map es clk):=fun w hw=>by
 have:=hw.own _ (zf6 hj);simpa [mx,pt] using this
theorem At.openMap {w:World}{i:Nat}(hi:s[i]?=some (mp b l))(h:At E g s w):∃ es clk,m3 l es clk∧At E g (s.set i (mx b es clk)) w:=by
 obtain ⟨es,clk,h1,h2⟩:=h.own _ (zf6 hi);have hf:=h.fresh _ (zf6 hi);exact⟨es,clk,h2,h.turn hi I ⟨I,lR _⟩ I (lR _) (fun _ _ _=>I) (by simpa [mx,pt,mp] using h1) (fun b' hb'=>⟨(hf b' hb').2,.inl hb'⟩)⟩
theorem SC.openMap {c:Code}{Q:Exit→Act→World→Prop}(i:Nat)(hi:s[i]?=some (mp b l))(h:∀ es clk,m3 l es clk→SC P N E c Q f g (s.set i (mx b es clk))):SC P N E c Q f g s:=fun a w ha hw=>by
 obtain ⟨es,clk,h1,h2⟩:=hw.openMap hi;exact h es clk h1 a w ha h2
theorem SO.rangeG (hT:P.underlying t=some (.map kt et))(hx:ev f x=some (.map (some m)))(hmm:∀ w,At E g s w→w.heap[m]?=some (.map es clk)) :
  SO P N E ⟨dst,.range t x,ty,pos,af,gd⟩ f g s fun u g' s'=>∃ r,u=pp r 0∧g=g'∧s'=ez r m es clk []::s :=
 SO.of_run fun a w ha hw=>⟨pp w.heap.size 0,{ w with heap:=w.heap.push (.mapIter (some m) clk #[] clk) },g,ez w.heap.size m es clk []::s,by
  have hb:=hmm w hw;simp[execOp,ha.ev hx,Instr.range,run_underlying hT,MapKept.run_getObj_map hb],hw.alloc (e:=ez w.heap.size m es clk []) rfl rfl,_,rfl,rfl,rfl⟩
theorem SO.nextG (i:Nat)(hx:ev f x=some (pp r 0))(hi:s[i]?=some (ez r m es clk vis))(hmm:∀ w,At E g s w→w.heap[m]?=some (.map es clk))(hst:Stamped es clk)(hv:Vis es vis) :
  SO P N E ⟨dst,.next x false,ty,pos,af,gd⟩ f g s fun u g' s'=>g=g' ∧
   ((u = .tuple #[.bool false]∧s=s'∧∀ e∈es.toList,e∈vis)∨∃ e,e∈es.toList∧e.born ∉ vis.map (·.born)∧u = .tuple #[.bool true,e.key,e.val]∧s'=s.set i (ez r m es clk (vis++[e]))) :=
 SO.of_run fun a w ha hw=>by
  have hit:=hw.own _ (zf6 hi);have hb:=hmm w hw;have hr:w.heap[r]?=some (.mapIter (some m) clk (vis.map (·.born)).toArray clk):=by simpa [ez] using hit
  have hget:(getObj r).run P w = .ok (.mapIter (some m) clk (vis.map (·.born)).toArray clk) w:=by simp[getObj,Sem.run,hr]
  have hold:∀ e∈es.toList,e.born<clk:=hst.1;have hall:(es.all (·.born≥clk))=true→es = #[]:=fun h=>by
   rw[Array.all_eq_true_iff_forall_mem] at h;apply Array.eq_empty_of_size_eq_zero;cases hsz:es.size with
   | zero=>rfl
   | succ q =>
    exfalso;have h0:0<es.size:=oM;have h1:=h es[0] (Array.getElem_mem h0);have h2:=hold es[0] (by simp);simp at h1;omega
  have hfl:(es.filter fun e=>!(vis.map (·.born)).toArray.contains e.born).filter (·.born<clk)=es.filter fun e=>!(vis.map (·.born)).toArray.contains e.born:=by
   apply Array.ext';simp only[Array.toList_filter];rw[List.filter_eq_self];intro e he;have:=hold e (zg8.1 he).1;simpa using this
  have hfn:(es.filter fun e=>!(vis.map (·.born)).toArray.contains e.born).filter (·.born≥clk) = #[]:=by
   apply Array.ext';simp only[Array.toList_filter];rw[List.filter_eq_nil_iff];intro e he;have:=hold e (zg8.1 he).1;simp; omega
  generalize hL:es.filter (fun e=>!(vis.map (·.born)).toArray.contains e.born)=left at hfl hfn;have hmem:∀ e,e∈left.toList↔e∈es.toList∧e.born ∉ vis.map (·.born):=fun e=>by
   rw[← hL];simp
  have hguard:(!(vis.map (·.born)).toArray.isEmpty && !es.isEmpty&&es.all (·.born≥clk))=false:=by
   cases h1:es.all (·.born≥clk) with
   | false=>simp
   | true=>rw[hall h1]; simp
  have hfresh:=hw.fresh _ (zf6 hi) r rfl;by_cases hempty:left = #[]
  ·-- none is left
   refine⟨.tuple #[.bool false],w,g,s,?_,hw,I,.inl ⟨I,I,fun e he=>?_⟩⟩
   ·simp only[execOp,ha.ev hx,Instr.next,Sem.run_bind,hget,zc7,MapKept.run_getObj_map hb,hguard,Bool.false_eq_true,if_false,Sem.run_pure,hL,hfl,hfn,hempty];simp[choose,Sem.run,Question.forced]
   ·by_cases hin:e.born∈vis.map (·.born)
    ·obtain ⟨e',he',heq⟩:=ze6.1 hin;rw[← nq hst (hv.sub e' he') he heq];exact he'
    ·have:=(hmem e).2 ⟨he,hin⟩;rw[hempty] at this;simp at this
  ·have hsz:0<left.size:=by
    rcases Nat.eq_zero_or_pos left.size with h | h
    ·exact absurd (Array.eq_empty_of_size_eq_zero h) hempty
    ·exact h
   have hcand:((if left.isEmpty then #[none] else #[])++(left ++ #[]).map some:Array (Option MapEntry))=left.map some:=by
    have:left.isEmpty=false:=by simpa using hempty
    simp[this]
   -- the entry that is drawn
   have hch:∃ (q:Nat) (w':World),(choose (.mapNext left.size)).run P w = .ok q w'∧q<left.size∧∃ n,w.drawn≤n∧w'={ w with drawn:=n }:=by
    by_cases h1:left.size≤1
    ·exact⟨0,w,by simp[choose,Sem.run,Question.forced,h1],hsz,w.drawn,lR _,I⟩
    ·exact⟨_,_,by simp[choose,Sem.run,Question.forced,h1,Question.cut]; rfl,Nat.mod_lt _ hsz,w.drawn+1,Nat.le_succ _,rfl⟩
   obtain ⟨q,w',hq1,hq2,n,hq0,hq3⟩:=hch;have hr':w'.heap[r]?=some (.mapIter (some m) clk (vis.map (·.born)).toArray clk):=by rw[hq3]; exact hr
   have hset:(setObj r (.mapIter (some m) clk ((vis.map (·.born)).toArray.push left[q].born) clk)).run P w' = .ok () { w' with heap:=w'.heap.setIfInBounds r (.mapIter (some m) clk ((vis.map (·.born)).toArray.push left[q].born) clk) }:=by
    simp[setObj,Sem.run,hr']
   have hin:left[q]∈left.toList:=by simp
   refine⟨.tuple #[.bool true,left[q].key,left[q].val],{ w' with heap:=w'.heap.setIfInBounds r (.mapIter (some m) clk ((vis.map (·.born)).toArray.push left[q].born) clk) },g,s.set i (ez r m es clk (vis++[left[q]])),?_,?_,I,.inr ⟨left[q],((hmem _).1 hin).1,((hmem _).1 hin).2,I,I⟩⟩
   ·simp only[execOp,ha.ev hx,Instr.next,Sem.run_bind,hget,zc7,MapKept.run_getObj_map hb,hguard,Bool.false_eq_true,if_false,Sem.run_pure,hL,hfl,hfn];rw[hcand];simp only[Array.size_map,hq1,zc7];have hg2:(left.map some)[q]?=some (some left[q]):=by simp[hq2]
    simp only[hg2,Sem.run_bind,hset,zc7,Sem.run_pure]
   ·have hw2:At E g s w':=by rw[hq3]; exact hw.drew n hq0
    have hlt:r<w'.heap.size:=by rw[hq3]; exact hfresh.2
    refine hw2.turn hi I ⟨I,(by exact lR _)⟩ I (by simp) (fun k _ hk=>by simp only[Array.getElem?_setIfInBounds_ne (fun e=>hk (by simp[ez,e]):r≠k)]) ?_ (fun b' hb'=>?_)
    ·simp[ez,hlt]
    ·simp only[ez,zg2] at hb';subst hb';exact⟨by simpa using hlt,.inl I⟩
theorem SQ.entryG {e:MapEntry}(i:Nat)(hx:ev f x=some (pp r 0))(hi:s[i]?=some (ez r m es clk (vis++[e])))(hmm:∀ w,At E g s w→w.heap[m]?=some (.map es clk))(hst:Stamped es clk)(he:e∈es.toList) :
  SQ P N E ⟨dst,.entry x,ty,pos,af,gd⟩ f g s (.tuple #[e.key,e.val]):=fun a w ha hw=>by
 have hit:=hw.own _ (zf6 hi);have hb:=hmm w hw;have hr:w.heap[r]?=some (.mapIter (some m) clk ((vis++[e]).map (·.born)).toArray clk):=by simpa [ez] using hit
 have hget:(getObj r).run P w = .ok (.mapIter (some m) clk ((vis++[e]).map (·.born)).toArray clk) w:=by simp[getObj,Sem.run,hr]
 have hback:((vis++[e]).map (·.born)).toArray.back?=some e.born:=by simp
 have hfind:es.find? (·.born == e.born)=some e:=by
  rw[← Array.find?_toList];have h1:(es.toList.find? (·.born == e.born)).isSome:=by
   rw[List.find?_isSome];exact⟨e,he,by simp⟩
  obtain ⟨e',he'⟩:=zh3.1 h1;have h2:=List.find?_some he';have h3:=zj7 he';rw[he',nq hst h3 he (by simpa using h2)]
 simp[execOp,ha.ev hx,Instr.entry,hget,MapKept.run_getObj_map hb,hfind]
theorem SO.nextPG (i:Nat)(hx:ev f x=some (pp r 0))(hi:s[i]?=some (ez r m es clk vis))(hmm:∀ w,At E g s w→w.heap[m]?=some (.map es clk))(hI:m3 l es clk)(hv:kN l es vis vl) :
  SO P N E ⟨dst,.next x false,ty,pos,af,gd⟩ f g s fun u g' s'=>g=g' ∧
   ((u = .tuple #[.bool false]∧s=s'∧vl.Perm l)∨∃ e p,e∈es.toList∧p∈l∧e.key=vi p.1∧e.val=p.2∧kN l es (vis++[e]) (vl++[p])∧u = .tuple #[.bool true,vi p.1,p.2]∧s'=s.set i (ez r m es clk (vis++[e]))):=by
 refine SO.mono (SO.nextG i hx hi hmm hI.2 hv.ok) ?_;rintro u g' s' ⟨rfl,h⟩;refine⟨I,?_⟩
 rcases h with ⟨h1,h2,h3⟩ | ⟨e,h1,h2,h3,h4⟩
 ·exact .inl ⟨h1,h2,hv.all hI h3⟩
 ·have hp:gH e∈l.map fu:=by rw[← hI.1]; exact ze6.2 ⟨e,h1,I⟩
  obtain ⟨p,hp1,hp2⟩:=ze6.1 hp;simp only[gH,fu,Prod.mk.injEq] at hp2;refine .inr ⟨e,p,h1,hp1,hp2.1.symm,hp2.2.symm,⟨⟨?_,?_⟩,?_⟩,by rw[h3,hp2.1,hp2.2],h4⟩
  ·intro a ha
   rcases ze7.1 ha with h5 | h5
   ·exact hv.ok.sub a h5
   ·simp at h5; rw[h5]; exact h1
  ·rw[zf9,List.nodup_append];refine⟨hv.ok.nodup,by simp,fun a ha b hb hab=>?_⟩;simp at hb;rw[hab,hb] at ha;exact h2 ha
  ·rw[zf9,zf9,hv.eq];simp[gH,fu,hp2.1,hp2.2]
theorem SQ.entryPG {e:MapEntry}{p:Int×Value}(i:Nat)(hx:ev f x=some (pp r 0))(hi:s[i]?=some (ez r m es clk (vis++[e])))(hmm:∀ w,At E g s w→w.heap[m]?=some (.map es clk))(hI:m3 l es clk)(he:e∈es.toList)(hk:e.key=vi p.1)(hv:e.val=p.2) :
  SQ P N E ⟨dst,.entry x,ty,pos,af,gd⟩ f g s (.tuple #[vi p.1,p.2]):=by
 have:=SQ.entryG (P:=P) (N:=N) (E:=E) (f:=f) (s:=s) (dst:=dst) (ty:=ty) (pos:=pos) (af:=af) (gd:=gd) i hx hi hmm hI.2 he;rw[hk,hv] at this;exact this
def Cb (k:Int)(v:Value)(p:Int×Value):Int×Value:=if p.1=k then (k,v) else p
def unK:Value→Option Int
 | .int .i64 n=>some n
 | _=>none
theorem FM (a:Int):unK (vi a)=some a:=rfl
theorem FN {x:Value}{k:Int}(h:unK x=some k):x=vi k:=by
 unfold unK at h;split at h
 ·injection h with h
  rw[h]
 ·cases h
def pj (k:Int)(v:Value)(e:MapEntry):MapEntry:=if unK e.key=some k then { e with key:=vi k,val:=v } else e
theorem sZ (k:Int)(v:Value)(e:MapEntry):(pj k v e).born=e.born:=by unfold pj; split <;> rfl
theorem nV (k:Int)(v:Value):∀ (vis:List MapEntry) (vl:List (Int×Value)),vis.map gH=vl.map fu→(vis.map (pj k v)).map gH=(vl.map (Cb k v)).map fu
 | [],[],_=>rfl
 | e::vis,(a,u)::vl,h=>by
  simp only[zf8,List.cons.injEq,gH,fu,Prod.mk.injEq] at h;obtain ⟨⟨h1,h2⟩,h3⟩:=h;have ih:=nV k v vis vl h3;simp only[zf8,List.cons.injEq];refine⟨?_,ih⟩;unfold pj Cb;by_cases hk:a=k
  ·subst hk;rw[zf5 (by rw[h1]; rfl),zf5 rfl];rfl
  ·have h4:¬ unK e.key=some k:=fun h5=>by
    rw[h1,FM] at h5;injection h5 with h6
    exact hk h6
   rw[zf4 h4,zf4 hk];simp[gH,fu,h1,h2]
 | [],_::_,h=>by simp at h
 | _::_,[],h=>by simp at h
theorem SO.mapUpdateX (j:Nat)(hT:MTy P t kt et z)(hx:ev f x=some (.map (some b)))(hy:ev f y=some (vi k))(hu:ev f u=some v)(hj:s[j]?=some (mx b es clk))(hI:m3 l es clk)(hk:∃ u,dE l k=some u) :
  SO P N E ⟨dst,.mapUpdate t x y u,ty,pos,af,gd⟩ f g s fun _ g' s'=>g=g'∧∃ es',s'=s.set j (mx b es' clk)∧m3 (eZ l k v) es' clk∧∀ vis vl,kN l es vis vl→kN (eZ l k v) es' (vis.map (pj k v)) (vl.map (Cb k v)) :=
 SO.of_skip fun a w ha hw=>by
  have hb:w.heap[b]?=some (.map es clk):=Cq j hj w hw;have hf:=jU k es.toList l 0 hI.1;have h1:=MapKept.run_findKey (w:=w) hT.key hf;have h2:=MapKept.run_checkKey (P:=P) (w:=w) hT.key (k:=vi k) rfl false 9999;have hlen:es.toList.length=l.length:=by have:=zd6 List.length hI.1; simpa using this
  rcases rQ k l 0 with ⟨hn,hne⟩ | ⟨q,u0,hs,hq,hput⟩
  ·obtain ⟨u1,hu1⟩:=hk;unfold dE at hu1;rw[hn] at hu1;cases hu1
  ·have hql:q<es.toList.length:=by rw[hlen]; exact (ze9.1 hq).1
   have hqs:q<es.size:=by simpa using hql
   have hkey:(es.toList[q]).key=vi k:=by
    have h3:=zd6 (·[q]?) hI.1;simp only[zh4,hq,Option.map_some,gE hql,zg2,gH,fu,Prod.mk.injEq] at h3;exact h3.1
   have hje:es[q]?=some es.toList[q]:=by simp at hql; simp[hql]
   have huniq:∀ i (hi:i<es.size),es[i].key=vi k→i=q:=fun i hi he=>by
    have h5:(es.toList.map (·.key))[i]'(by simpa using hi)=(es.toList.map (·.key))[q]'(by simpa using hqs):=by
     rw[List.getElem_map,List.getElem_map,hkey];simpa using he
    exact (List.getElem_inj hI.2.2.2).1 h5
   have hmod:(es.modify q fun e=>{ e with key:=vi k,val:=v })=es.map (pj k v):=by
    apply Array.ext (by simp);intro i hi1 hi2;have hi:i<es.size:=by simpa using hi1
    rw[Array.getElem_modify,Array.getElem_map];unfold pj;by_cases e:q=i
    ·subst e;have h6:es[q].key=vi k:=by simpa using hkey
     rw[zf5 rfl,zf5 (by rw[h6]; rfl)]
    ·rw[zf4 e,zf4 (fun h=>e (huniq i hi (FN h)).symm)]
   rw[hs,Nat.zero_add] at h1;have hfr:=hw.fresh _ (zf6 hj) b rfl;obtain ⟨e1,e2⟩:=MapKept.heap_set (o':=.map (es.map (pj k v)) clk) hb;have h4:=MapKept.run_keyThatStays (P:=P) (w:=w) (d:=.int .i64) (k:=vi k) rfl;have hkey':∀ h:q<es.size,es[q].key=vi k:=fun h=>by simpa using hkey
   have hMI:m3 (eZ l k v) (es.map (pj k v)) clk:=by
    refine⟨?_,?_⟩
    ·rw[Array.toList_map,nV k v _ _ hI.1,hput v];congr 1;apply List.ext_getElem (by simp);intro i h5 h6;have h7:i<l.length:=by simpa using h5
     have h8:i<es.size:=by
      have:es.toList.length=es.size:=by simp
      omega
     have h9:es[i].key=vi l[i].1:=by
      have h3:=zd6 (·[i]?) hI.1;simp only[zh4,gE h7,gE (show i<es.toList.length by omega),Option.map_some,zg2,gH,fu,Prod.mk.injEq] at h3;simpa using h3.1
     rw[List.getElem_map,List.getElem_set];unfold Cb;by_cases e:q=i
     ·subst e;have h10:l[q]=(k,u0):=(ze9.1 hq).2;rw[zf5 rfl,zf5 (by rw[h10])]
     ·rw[zf4 e,zf4 (fun h=>e (huniq i h8 (by rw[h9,h])).symm)]
    ·rw[← hmod];exact stamped_modify hI.2 _ _ (fun _ _=>I) (fun e' _ he'=>by
      rw[hje] at he';injection he' with he'
      rw[← he',hkey])
   refine⟨{ w with heap:=w.heap.setIfInBounds b (.map (es.map (pj k v)) clk) },g,s.set j (mx b (es.map (pj k v)) clk),?_,?_,I,es.map (pj k v),I,hMI,fun vis vl hv=>?_⟩
   ·have hr:(Instr.mapUpdate t (.map (some b)) (vi k) v).run P w = .ok () { w with heap:=w.heap.setIfInBounds b (.map (es.map (pj k v)) clk) }:=by
     rw[← hmod];simp[Instr.mapUpdate,run_underlying hT.und,MapKept.run_getObj_map hb,h2,h1,hje,hkey',h4,MapKept.run_setObj_map _ hb]
    simp[execOp,ha.ev hx,ha.ev hy,ha.ev hu,hr]
   ·refine hw.turn hj I ⟨I,lR _⟩ I (by simp) (fun q _ hne=>e2 q (fun e=>hne (by simp[mx,pt,e]))) (by simpa [mx,pt] using e1) (fun b' hb'=>?_);simp only[mx,pt,zg2] at hb';subst hb';exact⟨by simpa using hfr.2,.inl I⟩
   ·refine⟨⟨fun e he=>?_,?_⟩,nV k v _ _ hv.eq⟩
    ·obtain ⟨e0,he0,rfl⟩:=ze6.1 he;rw[Array.toList_map];exact ze6.2 ⟨e0,hv.ok.sub e0 he0,I⟩
    ·rw[zh9,show (fun e:MapEntry=>e.born) ∘ pj k v=fun e=>e.born from funext fun e=>sZ k v e];exact hv.ok.nodup
end
end Go.Sy
namespace Go.Proofs.YtcfkpajlakidbaaGreatDoor
open _root_.Go.Proofs.Tryz _root_.Go.Proofs.YtcfkpajlakidbaaGreatDoor.Tryz
open Go Go.Sy Go.Pl Go.Proofs
section
variable {F:Cl→Cl}(hF:∀ y,(F y).id=y.id)
include hF
end
theorem A8 {l:List (Int×Value)}{es:Array MapEntry}{clk:Nat}{vis:List MapEntry}{vl:List (Int×Value)}(h:kN l es vis vl)(hm:m3 l es clk):(vl.map Prod.fst).Nodup:=by
 have h1:(vis.map (·.key)).Nodup:=by
  rw[List.Nodup,zj5];have h2:vis.Pairwise fun a b=>a.born≠b.born:=by
   have:=h.ok.nodup;rwa [List.Nodup,zj5] at this
  refine List.Pairwise.imp_of_mem ?_ h2;intro a b ha hb hab he;have hk:=hm.2.2.2;obtain ⟨i,hi,rfl⟩:=zc4 (h.ok.sub a ha);obtain ⟨j,hj,rfl⟩:=zc4 (h.ok.sub b hb);have h3:(es.toList.map (·.key))[i]'(by simpa using hi)=(es.toList.map (·.key))[j]'(by simpa using hj):=by rw[List.getElem_map,List.getElem_map]; exact he
  have h4:=(List.getElem_inj hk).1 h3;subst h4;exact hab I
 have h2:vis.map (·.key)=(vl.map Prod.fst).map vi:=by
  have h3:=zd6 (List.map Prod.fst) h.eq;rw[zh9,zh9] at h3;rw[zh9];exact h3
 rw[h2] at h1;exact List.Pairwise.of_map vi (fun a b hab hne=>hab (by rw[hne])) h1
set_option maxRecDepth 100000
set_option maxHeartbeats 8000000
theorem Dn (r m:Nat)(es es':Array MapEntry)(clk:Nat)(vis:List MapEntry)(k:Int)(v:Value):ez r m es clk (vis.map (pj k v))=ez r m es' clk vis:=by
 unfold ez;rw[zh9,show (fun e:MapEntry=>e.born) ∘ pj k v=fun e=>e.born from funext fun e=>sZ k v e]
theorem AL (k:Int)(v:Value)(vl:List (Int×Value)):(vl.map (Cb k v)).map Prod.fst=vl.map Prod.fst:=by
 rw[zh9];refine zc5 fun p _=>?_;simp only[Function.comp];unfold Cb;split
 ·rename_i h;exact h.symm
 ·rfl
set_option maxHeartbeats 4000000
set_option maxHeartbeats 1000000
theorem Rt.ids {A:List Cl}(h:Rt A):(A.map Cl.id).Nodup:=by
 rw[List.Nodup,zj5];exact h.asc.imp fun h=>by omega
theorem Rt.few64 {A:List Cl}(h:Rt A){c:Cl}(hc:c∈A):c.sides.length≤64:=(iE (h.form c hc).ok).1
theorem Rt.signs {A:List Cl}(h:Rt A){c:Cl}(hc:c∈A):∀ x∈c.sides,x.sign=1∨x.sign = -1:=(h.form c hc).sg
set_option maxHeartbeats 2000000
structure Er where
 kind:Int
 cell:Int
 dim:Int
 new:Int
 other:Int
 sv:Sv
 pv:Sv
structure Sr where
 sv:Sv
 bk:Bool
theorem tmIn (x:Tm)(w:World):(Op.equalIn 10000 87 (.agg (cN.enc x).toArray) (.agg (cN.enc x).toArray)).run Tryz.prog w = .ok true w:=by
 have hu:Tryz.prog.underlying 87=some (.struct (Tryz.prog.fieldsOf 87)):=by kernel_rfl
 have hu2:Tryz.prog.underlying 84=some (.struct (Tryz.prog.fieldsOf 84)):=by kernel_rfl
 rw[run_equalIn_agg w 9999 87 _ _ hu stoodInHeld87]
 have hfs : ∃ f1 f2,(Tryz.prog.fieldsOf 87).toList = [f1,f2] ∧ f1.name ≠ "_" ∧ f2.name ≠ "_" ∧ f1.type = 3 ∧ f2.type = 84 ∧ f1.offset = 0 ∧ f2.offset = 1:=⟨_,_,rfl,by decide,by decide,rfl,rfl,rfl,rfl⟩
 obtain ⟨f1,f2,e,n1,n2,t1,t2,o1,o2⟩:=hfs
 have hgs : ∃ f1 f2,(Tryz.prog.fieldsOf 84).toList = [f1,f2] ∧ f1.name ≠ "_" ∧ f2.name ≠ "_" ∧ f1.type = 4 ∧ f2.type = 9 ∧ f1.offset = 0 ∧ f2.offset = 1:=⟨_,_,rfl,by decide,by decide,rfl,rfl,rfl,rfl⟩
 obtain ⟨f3,f4,e2,n3,n4,t3,t4,o3,o4⟩:=hgs;obtain ⟨a,n⟩:=x;rw[e];have h1:=run_equalIn_int (P:=Tryz.prog) w 9998 3 .i64 .i64 a a uT3;have h2:(Op.equalIn 9999 84 (.agg #[vb (my n),txt (ey n.natAbs)]) (.agg #[vb (my n),txt (ey n.natAbs)])).run Tryz.prog w = .ok true w:=by
  rw[run_equalIn_agg w 9998 84 _ _ hu2 stoodInHeld84,e2];have h3:=run_equalIn_bool (P:=Tryz.prog) w 9997 4 (my n) (my n) uT4;have h4:=run_equalIn_string (P:=Tryz.prog) w 9997 9 ⟨(ey n.natAbs).toArray⟩ ⟨(ey n.natAbs).toArray⟩ uT9;simp only[Op.eqFields,n3,n4,t3,t4,o3,o4,txt,Go.part,ne_eq,not_false_eq_true,if_true,Sem.run_bind,iT4,isAgg9,zc7];simp[h3,h4]
 simp only[Op.eqFields,n1,n2,t1,t2,o1,o2,cN,Go.part,ne_eq,not_false_eq_true,if_true,Sem.run_bind,iT3,mZ,iI,zc7];simp[h1,h2]
theorem SU.neqTmT {N:Nat}{f:Fr}{dst:Option Tmp}{ty:TypeId}{pos:String}{af:Array Edge}{gd:Option (Nat×Bool)}{x y:Operand}(a:Tm){U:TypeId}(hx:ev f x=some (.agg (cN.enc a).toArray))(hy:ev f y=some (.agg (cN.enc a).toArray)) :
  SU Tryz.prog N ⟨dst,.binOp .neq 87 x y U,ty,pos,af,gd⟩ f (vb false):=fun ac w ha=>by
 have hg:=run_eqGuard_agg (P:=Tryz.prog) w .neq 87 x y (cN.enc a).toArray (cN.enc a).toArray eqGuardType87;simp only[execOp,ha.ev hx,ha.ev hy,Sem.run_bind,hg,zc7];rw[run_neq_struct,tmIn];rfl
def pn (S:List ah)(r:Int):Int:=(S.map fun y=>if y.cell=r then y.sign else 0).sum
def inc (A:List Cl)(id r:Int):Int:=pn ((aG A id).getD eO).sides r
def cf (ts:List Tm)(r:Int):Int:=(ts.map fun t=>if t.1=r then t.2 else 0).sum
def chL (D:List Cl)(ts:List Tm)(r:Int):Int:=(ts.map fun t=>t.2 * inc D t.1 r).sum
def chR (img:Int→List Tm)(S:List ah)(r:Int):Int:=(S.map fun y=>y.sign * cf (img y.cell) r).sum
def vg (A D:List Cl)(img:Int→List Tm):Prop:=∀ x∈A,∀ r,chL D (img x.id) r=chR img x.sides r
theorem Bu {S T:List ah}(h:S.Perm T)(r:Int):pn S r=pn T r:=eI (h.map _)
theorem Ec {A:List Cl}(h:Rt A){c:Cl}(hc:c∈A)(r:Int):inc A c.id r=pn c.sides r:=by unfold inc; rw[h.find hc]; rfl
theorem BT {B:List Cl}{b:Cl}(hb:b∈B):az b∈aa B:=by
 unfold aa;exact ze6.2 ⟨b,(co (key:=Cl.id) B).mem_iff.2 hb,I⟩
theorem F8 (k v r:Int):cf [(k,v)] r=if k=r then v else 0:=by simp[cf]
theorem Ax (D:List Cl)(k r:Int):chL D [(k,1)] r=inc D k r:=by simp[chL]
theorem zS (k:Int)(G:ah→Int):∀ S:List ah,(S.map fun y=>k * G y).sum=k * (S.map G).sum
 | []=>by simp
 | y::S=>by rw[zf8,List.sum_cons,zf8,List.sum_cons,zS k G S,Int.mul_add]
def sN (D:List Cl)(d:Int)(ts:List Tm):Prop:=(ts.Pairwise fun a b=>a.1<b.1)∧(∀ t∈ts,t.2=1∨t.2 = -1)∧(∀ t∈ts,∃ c,aG D t.1=some c∧c.dim=d)∧ts.length≤64
def nD (F:Int→Int)(ts:List Tm):Prop:=(ts.Pairwise fun a b=>a.1<b.1)∧(∀ t∈ts,t.2≠0)∧∀ r,cf ts r=F r
theorem c8 (t:Tm)(ts:List Tm)(r:Int):cf (t::ts) r=(if t.1=r then t.2 else 0)+cf ts r:=by simp[cf]
theorem lH {r:Int}:∀ {ts:List Tm},(∀ t∈ts,t.1≠r)→cf ts r=0
 | [],_=>rfl
 | t::ts,h=>by rw[c8,zf4 (h t (by simp)),lH fun u hu=>h u (by simp[hu])]; rfl
theorem xH:∀ {ts us:List Tm},(ts.Pairwise fun a b=>a.1<b.1)→(us.Pairwise fun a b=>a.1<b.1)→(∀ t∈ts,t.2≠0)→(∀ t∈us,t.2≠0)→(∀ r,cf ts r=cf us r)→ts=us
 | [],[],_,_,_,_,_=>rfl
 | [],u::us,_,h2,_,h4,h5=>by
  rw[zj4] at h2;have h6:=h5 u.1;rw[c8,zf5 rfl,lH (ts:=us) fun t ht=>by have:=h2.1 t ht; omega] at h6;have h7:=h4 u (by simp);have h8:cf [] u.1=0:=rfl;omega
 | t::ts,[],h1,_,h3,_,h5=>by
  rw[zj4] at h1;have h6:=h5 t.1;rw[c8,zf5 rfl,lH fun u hu=>by have:=h1.1 u hu; omega] at h6;have h7:=h3 t (by simp);have h8:cf [] t.1=0:=rfl;omega
 | t::ts,u::us,h1,h2,h3,h4,h5=>by
  rw[zj4] at h1 h2;have ht:=h3 t (by simp);have hu:=h4 u (by simp);have e1:=h5 t.1;have e2:=h5 u.1;rw[c8,zf5 rfl,lH fun v hv=>by have:=h1.1 v hv; omega] at e1;rw[c8 u,zf5 rfl,lH (ts:=us) fun v hv=>by have:=h2.1 v hv; omega] at e2;have h6:t.1=u.1:=by
   rcases Int.lt_trichotomy t.1 u.1 with h | h | h
   ·rw[c8,zf4 oM,lH fun v hv=>by have:=h2.1 v hv; omega] at e1;omega
   ·exact h
   ·rw[c8,zf4 oM,lH fun v hv=>by have:=h1.1 v hv; omega] at e2;omega
  have h7:t.2=u.2:=by
   rw[c8,zf5 h6.symm,lH fun v hv=>by have:=h2.1 v hv; omega] at e1;omega
  have h8:t=u:=Prod.ext h6 h7;subst h8;rw[xH h1.2 h2.2 (fun v hv=>h3 v (by simp[hv])) (fun v hv=>h4 v (by simp[hv])) fun r=>by
   have:=h5 r;rw[c8,c8] at this;omega]
theorem nD.uniq {F G:Int→Int}{ts us:List Tm}(h:nD F ts)(h':nD G us)(hF:∀ r,F r=G r):ts=us :=
 xH h.1 h'.1 h.2.1 h'.2.1 fun r=>by rw[h.2.2,h'.2.2,hF]
theorem sN.can {D:List Cl}{d:Int}{ts:List Tm}(h:sN D d ts):nD (cf ts) ts:=⟨h.1,fun t ht=>by rcases h.2.1 t ht with e | e <;> omega,fun _=>rfl⟩
theorem tq {A:List Cl}(h:Rt A){x:Cl}(hx:x∈A):nD (fun r=>pn x.sides r) (x.sides.map fun y=>(y.cell,y.sign)):=by
 refine⟨by rw[zj5]; exact (h.form x hx).asc,fun t ht=>?_,fun r=>?_⟩
 ·obtain ⟨y,hy,rfl⟩:=ze6.1 ht
  rcases h.signs hx y hy with e | e <;> dsimp only <;> omega
 ·unfold cf pn;rw[zh9];rfl
def bdF (C:List Cl)(G:Int→Int)(r:Int):Int:=(C.map fun c=>G c.id * pn c.sides r).sum
theorem om (l:List Cl)(G:Int→Int)(r:Int):bdF (aa l) G r=bdF l G r:=by
 unfold bdF aa;rw[zh9];have h1:((fun c:Cl=>G c.id * pn c.sides r) ∘ az)=fun c=>G c.id * pn c.sides r:=funext fun c=>by
  show G c.id * pn (sortBy ah.cell c.sides) r=_;rw[Bu (co (key:=ah.cell) c.sides)]
 rw[h1];exact eI ((co (key:=Cl.id) l).map _)
theorem AG (G H:Int→Int)(r:Int):∀ C:List Cl,bdF C (fun k=>G k+H k) r=bdF C G r+bdF C H r
 | []=>rfl
 | c::C=>by
  have:=AG G H r C;unfold bdF at this ⊢;rw[zf8,List.sum_cons,this,zf8,List.sum_cons,zf8,List.sum_cons,Int.add_mul];omega
theorem zH (G:Int→Int)(r:Int):∀ {C:List Cl},(∀ c∈C,G c.id=0)→bdF C G r=0
 | [],_=>rfl
 | c::C,h=>by
  have:=zH G r (C:=C) fun d hd=>h d (List.mem_cons_of_mem _ hd);unfold bdF at this ⊢;rw[zf8,List.sum_cons,this,h c (by simp),Int.zero_mul];rfl
theorem AF (k v r:Int):∀ {C:List Cl},(C.map Cl.id).Nodup→bdF C (fun j=>if k=j then v else 0) r=v * inc C k r
 | [],_=>by simp[bdF,inc,aG,eO,pn]
 | c::C,h=>by
  rw[zf8,zj3] at h;have hs:bdF (c::C) (fun j=>if k=j then v else 0) r=(if k=c.id then v else 0) * pn c.sides r+bdF C (fun j=>if k=j then v else 0) r:=by unfold bdF; rw[zf8,List.sum_cons]
  rw[hs];by_cases hk:k=c.id
  ·have h1:bdF C (fun j=>if k=j then v else 0) r=0:=zH _ r fun d hd=>zf4 fun e=>h.1 (ze6.2 ⟨d,hd,oM⟩);have h2:inc (c::C) k r=pn c.sides r:=by
    unfold inc aG;rw[List.find?_cons_of_pos (by simp[hk])];rfl
   rw[zf5 hk,h1,h2,Int.add_zero]
  ·have h2:inc (c::C) k r=inc C k r:=by
    unfold inc aG;rw[List.find?_cons_of_neg (by simpa using fun e=>hk e.symm)]
   rw[zf4 hk,Int.zero_mul,Int.zero_add,AF k v r h.2,h2]
theorem lx {A:List Cl}(h:Rt A)(r:Int):∀ ts:List Tm,bdF A (cf ts) r=chL A ts r
 | []=>zH _ r fun _ _=>rfl
 | t::ts=>by
  have h1:cf (t::ts)=fun k=>(if t.1=k then t.2 else 0)+cf ts k:=funext fun k=>c8 t ts k;rw[h1,AG,AF t.1 t.2 r h.ids,lx h r ts];unfold chL;rw[zf8,List.sum_cons]
def onF (img:Int→List Tm)(us:List Tm)(r:Int):Int:=(us.map fun t=>t.2 * cf (img t.1) r).sum
theorem Bj (img:Int→List Tm)(S:List ah)(r:Int):onF img (S.map fun y=>(y.cell,y.sign)) r=chR img S r:=by
 unfold onF chR;rw[zh9];rfl
theorem BS {l m:List Cl}{img:Int→List Tm}(hl:Rt (aa l))(hm:Rt (aa m))(h:vg (aa l) (aa m) img){x:Cl}(hx:x∈aa l){us:List Tm}(hu:nD (bdF l (cf [(x.id,1)])) us)(r:Int) :
  bdF m (cf (img x.id)) r=onF img us r:=by
 have h1:us=x.sides.map fun y=>(y.cell,y.sign):=hu.uniq (tq hl hx) fun r=>by
  rw[← om,lx hl,Ax,Ec hl hx]
 rw[h1,Bj,← om,lx hm];exact h x hx r
def fz (zl:List (Int×Int)):List (Int×Value):=zl.map fun p=>(p.1,dy p.2)
theorem vm (zl:List (Int×Int))(k:Int):(dE (fz zl) k).getD (dy 0)=dy (cC zl k):=by
 induction zl with
 | nil=>rfl
 | cons p r ih =>
  obtain ⟨a,z⟩:=p;by_cases h:k=a
  ·subst h; simp[fz,dE,fnd,cC]
  ·simp only[cC,zf4 h];rw[← ih];unfold fz;rw[zf8,dE,fnd,zf4 h,jv]
theorem Gf (zl:List (Int×Int))(k x:Int):eZ (fz zl) k (dy (cC zl k+x))=fz (dA zl k x):=by
 induction zl with
 | nil=>simp[fz,eZ,dA,cC]
 | cons p r ih =>
  obtain ⟨a,z⟩:=p;by_cases h:k=a
  ·subst h; simp[fz,eZ,dA,cC]
  ·simp only[cC,zf4 h,dA];unfold fz at ih ⊢;rw[zf8,eZ,zf4 h,ih,zf8]
def jD (zl:List (Int×Int))(ts:List Tm):List (Int×Int):=ts.foldl (fun zl t=>dA zl t.1 t.2) zl
theorem AS {ts:List Tm}{k:Nat}(hk:k<ts.length)(zl:List (Int×Int)):jD zl (ts.take (k+1))=dA (jD zl (ts.take k)) ts[k].1 ts[k].2:=by
 unfold jD;rw[tS hk,zi3];rfl
theorem tE:∀ (ts:List Tm) (zl:List (Int×Int)) (r:Int),cC (jD zl ts) r=cC zl r+cf ts r
 | [],_,_=>(Int.add_zero _).symm
 | t::ts,zl,r=>by
  show cC (jD (dA zl t.1 t.2) ts) r=_;rw[tE ts,oa,c8];by_cases h:r=t.1
  ·rw[zf5 h,zf5 h.symm]; omega
  ·rw[zf4 h,zf4 fun e=>h e.symm]; omega
theorem ii:∀ (ts:List Tm) {zl:List (Int×Int)},(zl.map Prod.fst).Nodup→((jD zl ts).map Prod.fst).Nodup
 | [],_,h=>h
 | t::ts,zl,h=>ii ts (mw h t.1 t.2)
theorem xL (zl:List (Int×Int))(k x:Int):(dA zl k x).length≤zl.length+1:=by
 induction zl with
 | nil=>simp[dA]
 | cons p r ih =>
  obtain ⟨a,z⟩:=p;simp only[dA];split <;> simp <;> omega
theorem kO:∀ (ts:List Tm) (zl:List (Int×Int)),(jD zl ts).length≤zl.length+ts.length
 | [],_=>lR _
 | t::ts,zl=>by
  have h1:=kO ts (dA zl t.1 t.2);have h2:=xL zl t.1 t.2;show (jD (dA zl t.1 t.2) ts).length≤_;rw[ze3];omega
def WBd (B:Nat)(zl:List (Int×Int)):Prop:=∀ p∈zl,p.2.natAbs≤B
theorem WBd.nil:WBd 0 []:=fun _ h=>by cases h
theorem WBd.mono {B C:Nat}{zl:List (Int×Int)}(h:WBd B zl)(hl:B≤C):WBd C zl:=fun p hp=>zj8 (h p hp) hl
theorem WBd.get {B:Nat}:∀ {zl:List (Int×Int)},WBd B zl→∀ k,(cC zl k).natAbs≤B
 | [],_,_=>zf1 _
 | (a,z)::r,h,k=>by
  simp only[cC];split
  ·exact h (a,z) (by simp)
  ·exact WBd.get (fun p hp=>h p (List.mem_cons_of_mem _ hp)) k
theorem WBd.add {B C:Nat}{x:Int}(hx:x.natAbs≤C)(k:Int):∀ {zl:List (Int×Int)},WBd B zl→WBd (B+C) (dA zl k x)
 | [],_=>fun p hp=>by simp[dA] at hp; subst hp; dsimp only; omega
 | (a,z)::r,h=>by
  have h1:=h (a,z) (by simp);have h2:WBd B r:=fun p hp=>h p (List.mem_cons_of_mem _ hp);simp only[dA];split
  ·intro p hp
   rcases ze5.1 hp with rfl | hp
   ·dsimp only at h1 ⊢; omega
   ·exact zj8 (h2 p hp) (Nat.le_add_right _ _)
  ·intro p hp
   rcases ze5.1 hp with rfl | hp
   ·dsimp only at h1 ⊢; omega
   ·exact WBd.add hx k h2 p hp
def gp (zl:List (Int×Int)):List Tm:=((cG (zl.map Prod.fst)).filter fun k=>decide (cC zl k≠0)).map fun k=>(k,cC zl k)
theorem Az (F:Int→Int)(r:Int):∀ {K:List Int},K.Nodup→cf (K.map fun k=>(k,F k)) r=if r∈K then F r else 0
 | [],_=>by simp[cf]
 | k::K,h=>by
  rw[zj3] at h;rw[zf8,c8,Az F r h.2];by_cases hk:k=r
  ·subst hk;rw[zf5 rfl,zf4 h.1,zf5 (by simp),Int.add_zero]
  ·rw[zf4 hk,Int.zero_add];by_cases hr:r∈K
   ·rw[zf5 hr,zf5 (by simp[hr])]
   ·rw[zf4 hr,zf4 (by simp[hr]; exact fun e=>hk e.symm)]
theorem l8 {zl:List (Int×Int)}(h:(zl.map Prod.fst).Nodup):nD (cC zl) (gp zl):=by
 have hp:=il (zl.map Prod.fst);have hn:(cG (zl.map Prod.fst)).Nodup:=hp.symm.nodup h;have ha:(cG (zl.map Prod.fst)).Pairwise (· < ·):=((gN _).and hn).imp fun h=>by have:=h.1; have:=h.2; omega
 refine⟨?_,fun t ht=>?_,fun r=>?_⟩
 ·unfold gp;rw[zj5];exact ha.sublist List.filter_sublist
 ·unfold gp at ht;obtain ⟨k,hk,rfl⟩:=ze6.1 ht;exact zf7 (zg8.1 hk).2
 ·unfold gp;rw[Az (cC zl) r (hn.sublist List.filter_sublist)];by_cases h0:cC zl r=0
  ·rw[h0]; split <;> rfl
  ·obtain ⟨p,hp1,hp2,_⟩:=n9 h0;rw[zf5 (zg8.2 ⟨hp.mem_iff.2 (ze6.2 ⟨p,hp1,hp2⟩),by simpa using h0⟩)]
theorem p8 (zl:List (Int×Int)):(gp zl).length≤zl.length:=by
 unfold gp;rw[ze1];refine zj8 (zc2 _ _) ?_;rw[cZ,ze1];exact lR _
theorem mg (n k:Int):∀ zl:List (Int×Int),cC (zl.map fun p=>(p.1,n * p.2)) k=n * cC zl k
 | []=>(Int.mul_zero n).symm
 | (a,z)::r=>by
  simp only[zf8,cC];split
  ·rfl
  ·exact mg n k r
structure iW (l m:List Cl)(img:Int→List Tm):Prop where
 cl:(aN l).2=0
 cm:(aN m).2=0
 fit:∀ x∈aa l,sN (aa m) x.dim (img x.id)
 chain:vg (aa l) (aa m) img
section
variable {l m:List Cl}{img:Int→List Tm}(h:iW l m img)
include h
theorem iW.canonic {x:Cl}(hx:x∈aa l){us:List Tm}(hu:nD (cf (img x.id)) us):us=img x.id:=hu.uniq (h.fit x hx).can fun _=>rfl
theorem iW.small {x:Cl}(hx:x∈aa l):∀ t∈img x.id,t.2.natAbs≤1:=fun t ht=>by
 rcases (h.fit x hx).2.1 t ht with e | e <;> omega
theorem iW.dimOf {x:Cl}(hx:x∈aa l):r8 l x.id=some x:=by
 have hl:=fJ h.cl;have h1:ae l=aa l:=aR hl.asc;unfold r8;rw[h1];exact hl.find hx
theorem iW.bound {x:Cl}(hx:x∈aa l){us:List Tm}(hu:nD (bdF l (cf [(x.id,1)])) us):us=x.sides.map fun y=>(y.cell,y.sign):=by
 have hl:=fJ h.cl;refine hu.uniq (tq hl hx) fun r=>?_;rw[← om,lx hl,Ax,Ec hl hx]
theorem iW.found {x:Cl}(hx:x∈aa l){us:List Tm}(hu:nD (bdF l (cf [(x.id,1)])) us):us.length≤64∧∀ t∈us,(t.2=1∨t.2 = -1)∧∃ y∈aa l,y.id=t.1:=by
 have hl:=fJ h.cl;rw[h.bound hx hu];refine⟨by rw[ze1]; exact hl.few64 hx,fun t ht=>?_⟩;obtain ⟨y,hy,rfl⟩:=ze6.1 ht;obtain ⟨d,h1,_⟩:=(hl.form x hx).found y hy;obtain ⟨h2,h3⟩:=cJ h1;exact⟨hl.signs hx y hy,d,h2,h3⟩
theorem iW.equal {x:Cl}(hx:x∈aa l){us cs bs:List Tm}(hu:nD (bdF l (cf [(x.id,1)])) us)(ha:nD (bdF m (cf (img x.id))) cs)(hb:nD (onF img us) bs):cs=bs :=
 ha.uniq hb fun r=>BS (fJ h.cl) (fJ h.cm) h.chain hx hu r
theorem iW.there {x:Cl}(hx:x∈aa l):∀ t∈img x.id,∃ c∈m,c.id=t.1∧c.dim=x.dim:=fun t ht=>by
 obtain ⟨c,h1,h2⟩:=(h.fit x hx).2.2.1 t ht;obtain ⟨h3,h4⟩:=cJ h1;unfold aa at h3;obtain ⟨d,hd,rfl⟩:=ze6.1 h3;exact⟨d,(co (key:=Cl.id) m).mem_iff.1 hd,h4,h2⟩
end
def allI (Ls:List (List Cl)):List Int:=(ae Ls.flatten).map Cl.id
def zJ (A B:List Cl)(id:Int):Bool:=decide (aG A id=aG B id)
def pickT (B L R:List Cl)(id:Int):Option (Option Cl) :=
 if zJ L R id||zJ R B id then some (aG L id) else if zJ L B id then some (aG R id) else none
def aI (B L R:List Cl):List Cl:=(allI [B,L,R]).filterMap fun id=>(pickT B L R id).join
structure JInv (tl:List Cl)(l:List ah)(J:List Int):Prop where
 len:J.length=l.length
 low:∀ (i:Nat) (v:Int),J[i]?=some v→0≤v∧v≤i
 link:∀ (i:Nat) (v:Int) (x y:ah),J[i]?=some v→l[i]?=some x→l[v.toNat]?=some y→Cn (nP tl l) x.cell y.cell
end Go.Proofs.YtcfkpajlakidbaaGreatDoor
namespace Go.Sy
open Go
section
variable {P:Program}{b:Frame}{a:Act}{k:List Item}{cs:List Frame}{w:World}{Q:Exit→Act→World→Prop}
end
section
variable {P:Program}{M:Md}{N:Nat}{E:World}{Q:Exit→Act→World→Prop}{f:Fr}{g:PH}{s:Own}
end
section
variable {P:Program}{M:Md}{N:Nat}{E:World}{Q:Exit→Act→World→Prop}{f:Fr}{g:PH}{s:Own}{dst:Option Tmp}{ty:TypeId}{pos:String}{af:Array Edge}{gd:Option (Nat×Bool)}
end
section
variable {P:Program}{M:Md}{N:Nat}{E:World}{Q:Exit→Act→World→Prop}{f:Fr}{g:PH}{s:Own}{ops:Array Oper}{b:Nat}{o:Obj}
theorem XL.freeze {l:List Oper}(h:∀ g',Le g g'→g' b=some o→XL P M N E ops Q l f g' s):XL P M N E ops Q l f g (pt b o::s):=fun a w ha hw=>by
 have h1:=hw.own (pt b o) (by simp);simp only[pt,Option.bind_some] at h1;obtain ⟨h2,h3⟩:=hw.freeze (b:=b) rfl h1;exact h _ h3 (eD _ _ _) a w ha h2
theorem XL.freezeMap {l:List (Int×Value)}{k:List Oper}(h:∀ g',Le g g'→Mp g' b l→XL P M N E ops Q k f g' s):XL P M N E ops Q k f g (mp b l::s):=fun a w ha hw=>by
 obtain ⟨g',h1,h2,h3⟩:=hw.freezeMap;exact h g' h1 h3 a w ha h2
end
section
variable {P:Program}{M:Md}{N:Nat}{E:World}{ops:Array Oper}{Q:Exit→Act→World→Prop}{g0:PH}{s0:Own}{tail:List Nat}{f:Fr}{g:PH}{s s':Own}{L:Array Bool}{n:Nat}
end
end Go.Sy
namespace Go.Proofs.YtcfkpajlakidbaaGreatDoor
open _root_.Go.Proofs.Tryz _root_.Go.Proofs.YtcfkpajlakidbaaGreatDoor.Tryz
open Go Go.Sy Go.Pl Go.Proofs
set_option maxRecDepth 100000
set_option maxHeartbeats 4000000
theorem Tryz.sty88:STy Tryz.prog 88 31 1 24 (.agg #[.slice none 0 0]):=⟨underlying88,⟨t31,by kernel_rfl,by kernel_rfl,by kernel_rfl,by kernel_rfl⟩,rfl,by decide⟩
def zK (E:World)(pv:Value)(q:Tm→Bool)(g:PH):Prop :=
 ∀ g' s a,Le g g'→cX Tryz.prog E pv [.agg (cN.enc a).toArray] g' s (fun x g'' s''=>x=vb (q a)∧g'=g''∧s=s'')
theorem yO (E:World)(g:PH)(s:Own)(v:Value)(kn:FuncId)(kc:Array Value)(l:List Tm)(q:Tm→Bool)(hv:SlA cN g v l)(hl:l.length<1099511627776)(hp:zK E (.func (.func kn) #[] kc) q g) :
  Ctr Tryz.prog E 137 #[v,.func (.func kn) #[] kc] g s (fun r g' s'=>(∃ n:Int,r=vi n∧decide (n≥0)=l.any q)∧g=g'∧s=s'):=by
 obtain ⟨p,c,rfl⟩:=hv.form;refine za9 (args:=[.slice p l.length c,.func (.func kn) #[] kc]) func137 I ntmps137 (bE I) ?_;refine rZ (aT I (sQ (sW I (lU (eN wu I) (lM I (tZ (bK ?_)))))));refine oP (ι:=Nat) (fun k=>[(0,.slice p l.length c),(1,.func (.func kn) #[] kc),(7,vi l.length),(8,vi k)]) (fun _=>g) (fun _=>s) (fun k=>k≤l.length∧(l.take k).any q=false) (fun k=>l.length - k) 0
  sB rfl rfl ⟨zf1 _,by simp⟩ ?_
 rintro k ⟨hk,hno⟩;refine rZ (yL I (tZ (sQ ?_)));refine iP I (fun hlt=>?_) (fun hlt=>?_)
 ·have hkl:k<l.length:=oM;have hb1:=hv.based oM;refine kP (tN (sQ (bK (sW I (aT I (sW I (lM I (lM I (lU (iA wu uQ I I hb1 oM sL) ?_)))))))));refine SL.q (eA isAgg87 uQ I hv.rd (gE hkl)) dC ?_;refine lW (SO.callV I I (hp g _ l[k] (zb7 g))) ?_;rintro _ _ _ ⟨rfl,rfl,rfl⟩;refine tZ ?_;refine iQ I (fun hq=>?_) (fun hq=>?_)
  ·refine sW I (aT I (rE (bR (tR (tR (bR (tR ?_)))))));have hany:l.any q=true:=zj1.2 ⟨l[k],gM hkl,hq⟩;exact za6 (.inl I) results137 I ⟨⟨k,I,by rw[hany]; simp⟩,I,I⟩
  ·refine kP (bN (tN (rG (yD I (lM I (nL ?_))))));exact ST.again (k+1) sB I I ⟨oM,by rw[tS hkl,List.any_append,hno]; simpa using hq⟩ oM
 ·refine xI (tX (tX (bX (tN (rZ (aT I (rE ?_)))))));have hkk:l.take k=l:=tL oM;rw[hkk] at hno;exact za6 (.inl I) results137 I ⟨⟨-1,I,by rw[hno]; rfl⟩,rfl,rfl⟩
theorem sF (E:World)(g:PH)(s:Own)(v:Value)(kn:FuncId)(kc:Array Value)(l:List Tm)(q:Tm→Bool)(hv:SlA cN g v l)(hl:l.length<1099511627776)(hp:zK E (.func (.func kn) #[] kc) q g) :
  Ctr Tryz.prog E 93 #[v,.func (.func kn) #[] kc] g s (fun r g' s'=>r=vb (l.any q)∧g=g'∧s=s'):=by
 refine za9 (args:=[v,.func (.func kn) #[] kc]) func93 I ntmps93 (bE I) ?_;refine rZ (aT I (sW I (lM I (lW (cL call137 I (yO E g _ v kn kc l q hv hl hp)) ?_))));rintro _ _ _ ⟨⟨n,rfl,hn⟩,rfl,rfl⟩;refine lU (gQ I I) (aT I (rE ?_));exact za6 (.inl I) results93 I ⟨by rw[hn],I,I⟩
theorem xk (E:World)(g:PH)(s:Own)(v u:Value)(l:List Tm)(hv:SlA cN g v l)(hu:SlA cN g u l)(hl:l.length<1099511627776) :
  Ctr Tryz.prog E 42 #[v,u] g s (fun r g' s'=>r=vb true∧g=g'∧s=s'):=by
 obtain ⟨p,c,rfl⟩:=za2 hv;obtain ⟨q,d,rfl⟩:=za2 hu;refine za9 (args:=[.slice p l.length c,.slice q l.length d]) func42 I ntmps42 (bE I) ?_;refine rZ (aT I (sQ (sW I (lU (eN wu I) (lM I (lU (eN wu I) (lU (SU.eq (v':=vb false) (nQ I I) (zd6 vb (zf2 (by simp)))) ?_)))))));refine tZ (cF I (kP (tN (sQ (sW I (lU (eN wu I) (lM I (tZ (bK ?_)))))))));refine oP (ι:=Nat) (fun k=>[(0,.slice p l.length c),(1,.slice q l.length d),(12,vi l.length),(13,vi k)]) (fun _=>g) (fun _=>s) (fun k=>k≤l.length) (fun k=>l.length - k) 0
  sB rfl rfl (zf1 _) ?_
 rintro k hk;refine rZ (yL I (tZ (sQ ?_)));refine iP I (fun hlt=>?_) (fun hlt=>?_)
 ·have hkl:k<l.length:=oM;have hb1:=za4 hv oM;have hb2:=za4 hu oM;refine kP (tN (sQ (bK (sW I (aT I (sQ ?_))))));refine dW [] [(0,2),(1,2),(2,2),(3,1),(4,2),(5,2),(6,2),(7,1),(8,2)] zd7 kR ?_;refine yM I (yM I (pU I (iA wu uQ I I hb1 oM sL) ?_));refine pQ I (eA isAgg87 uQ I (za5 hv) (gE hkl)) dC ?_;refine yM I (yM I (pU I (iA wu uQ I I hb2 oM sL) ?_));refine pQ I (eA isAgg87 uQ I (za5 hu) (gE hkl)) dC ?_;refine pU I (SU.eq (v':=vb false) (SU.neqTmT l[k] I I) I) (pN (tN (cF I (kP (bN (tN (rG (yD I (lM I (nL ?_))))))))));exact ST.again (k+1) sB I I oM oM
 ·refine xI (tX (tX (bX (tN (rZ (aT I (rE ?_)))))));exact za6 (.inl I) results42 I ⟨I,I,I⟩
open Go Go.Sy Go.Pl Go.Proofs Go.Shelf Go.Sort
def Tryz.keysW_ren:Ren :=
 {
  f:=fun x =>
   match x with
   | 7=>135
   | 10=>163
   | n=>n,
  t:=fun x =>
   match x with
   | 23=>146
   | 26=>3
   | 3=>84
   | 28=>171
   | 0=>0
   | 27=>170
   | 33=>102
   | 4=>4
   | n=>n,
  g:=fun x =>
   have n:=x;
   n }
theorem Tryz.keysW:SlLaysZI.n7 Tryz.prog Tryz.keysW_ren :=
  {
  mixed:=Eq.refl true,
  f7 :=
   Exists.intro "maps.Keys[cocycle/chains.sum,int,cocycle/api.Wide]"
    ⟨zf7 (id (Eq.refl true)),
     zb6 func135
      (zd6 some
       kR)⟩,
  f10 :=
   Exists.intro "maps.Keys[cocycle/chains.sum,int,cocycle/api.Wide]$1"
    ⟨zf7 (id (Eq.refl true)),
     zb6 func163
      (zd6 some
       kR)⟩,
  t0:=underlying0,a0:=isAgg0,z0:=sizeOf0,v0:=zeroValue0,t4:=uT4,
  a4:=iT4,z4:=zT4,v4:=zeroValue4,t23:=underlying146,a23:=isAgg146,
  z23:=sizeOf146,v23:=zeroValue146,t26:=uT3,a26:=iT3,z26:=zT3,
  v26:=zk6,t27:=underlying170,a27:=isAgg170,z27:=sizeOf170,
  v27:=zeroValue170,t28:=underlying171,a28:=isAgg171,z28:=sizeOf171,
  v28:=zeroValue171,t33:=underlying102,a33:=isAgg102,z33:=sizeOf102,
  v33:=zeroValue102 }
theorem yK (E:World)(g:PH)(s:Own)(m:Nat) :
  Ctr Tryz.prog E 135 #[.map (some m)] g s (fun r g' s'=>s=s'∧Le g g'∧∃ b,r = .func (.func 163) #[] #[pp b 0]∧g' b=some (.cells #[.map (some m)] 146 (0,0))):=by
 refine za9 (args:=[.map (some m)]) func135 I ntmps135 (bE I) ?_;refine rZ (bW (bO I) fun b1=>?_);refine aT I (rZ (lU (SU.mkFunc I) (aT I (rE (ST.freeze fun g1 h1 hb=>?_)))));exact za6 (.inl I) results135 I ⟨I,h1,_,I,hb⟩
theorem uz (E:World)(hE:E.drawn=0)(g:PH)(s:Own)(b m:Nat)(l:List (Int×Value))(hb:g b=some (.cells #[.map (some m)] 146 (0,0)))(hm:Mp g m l)(hl:l.length<1099511627776)(hw:∀ p∈l,dn p.1) :
  Ctr Tryz.prog E 119 #[.func (.func 163) #[] #[pp b 0]] g s (fun r g' s'=>s=s'∧Le g g'∧cj g' r (cG (l.map Prod.fst))):=by
 intro w hat;obtain ⟨es,clk,hes,hmi,hst⟩:=hm;have hesl:es.toList.length=l.length:=by have:=zd6 List.length hmi; simpa using this
 have hesz:es.size=l.length:=by simpa using hesl
 have hreads:∀ x∈es.toList,∃ y,WideElems.rd (H:=Unit) Tryz.prog 3 (fun _=>some (.lit (.bool true),[])) x=some y∧∃ p∈l,y.1 = .int .i64 p.1:=fun x hx=>by
  have h1:gH x∈es.toList.map gH:=ze6.2 ⟨x,hx,rfl⟩;rw[hmi] at h1;obtain ⟨p,hp,he⟩:=ze6.1 h1;have hk:x.key=vi p.1:=(zd6 Prod.fst he).symm;have hkey:keyOf Tryz.prog 3 x.key=some (.int .i64 p.1):=by
   rw[hk]; exact Maps.keyOf_int_mk uT3 (vh (hw p hp))
  exact⟨(.int .i64 p.1,.lit (.bool true)),by simp[WideElems.rd,hkey],p,hp,I⟩
 have hown:w.ownsMap Tryz.prog 3 (fun _=>some (.lit (.bool true),[])) m l.length (.map ((es.toList.map (WideElems.rg (H:=Unit) Tryz.prog 3 (fun _=>some (.lit (.bool true),[])))).foldr DataW.insert [])) :=
  ⟨es,clk,hat.known _ _ hes,⟨by rw[hesz]; unfold maxLen; omega,hst,fun x hx=>(hreads x hx).imp fun _ h=>h.1⟩,oM,rfl⟩
 have hkeys:(l.map Prod.fst).Perm (intKeys (.map ((es.toList.map (WideElems.rg (H:=Unit) Tryz.prog 3 (fun _=>some (.lit (.bool true),[])))).foldr DataW.insert []))):=by
  have h1:(es.toList.map (WideElems.rg (H:=Unit) Tryz.prog 3 (fun _=>some (.lit (.bool true),[])))).map (fun p=>Go.intOf p.1)=l.map Prod.fst:=by
   have h2:l.map Prod.fst=(es.toList.map gH).map (fun q=>(unV q).1):=by rw[hmi,zh9]; rfl
   rw[h2,zh9,zh9];refine zc5 fun x hx=>?_;have h3:gH x∈es.toList.map gH:=ze6.2 ⟨x,hx,rfl⟩;rw[hmi] at h3;obtain ⟨p,hp,he⟩:=ze6.1 h3;have hk:x.key=vi p.1:=(zd6 Prod.fst he).symm;have hkey:keyOf Tryz.prog 3 x.key=some (.int .i64 p.1):=by
    rw[hk]; exact Maps.keyOf_int_mk uT3 (vh (hw p hp))
   simp[WideElems.rg,WideElems.rd,hkey,hk ▸ hkey,Go.intOf,gH,unV,hk]
  rw[← h1];exact ((WideShapes.sorted_perm _).map _).symm
 have hsize:Maps.size (.map ((es.toList.map (WideElems.rg (H:=Unit) Tryz.prog 3 (fun _=>some (.lit (.bool true),[])))).foldr DataW.insert []))=l.length:=by
  have:=hkeys.length_eq;simpa [intKeys,Maps.size] using this.symm
 have hseq:=AnyZI.keys_gives (ρ:=Tryz.keysW_ren) { Tryz.keysW with } Fence.wide 2 trivial rfl oM b m l.length _ (R:=fun _=>some (.lit (.bool true),[])) w (hat.lt hb) (by simp[World.cell?,hat.known _ _ hb]) hown;have cS:=AnyZI.sorted_in Tryz.sortedA Fence.wide 5 trivial trivial trivial trivial rfl oM (Tryz.sortsA _) (enters_of func100 kR rfl) 163 #[.pointer (some ⟨b,0,none⟩)] trivial (enters_of func163 kR rfl) _ _ (by rw[hsize]; unfold maxLen; omega) (by rw[hsize]; omega) w hseq;refine ((callsIn_wide (n:=5)).1 cS).mono ?_;rintro e w' ⟨v,ss,rfl,hss,hrow,hnil,hbel⟩;have hsrt:ss.mergeSort (fun x y=>decide (x≤y))=cG (l.map Prod.fst):=mergeSort_of_perm_i (hss.trans hkeys.symm);rw[hsrt] at hrow;have hat2:At E g s w':=by
  refine⟨hbel.os.trans hat.os,⟨hbel.tape.trans hat.tape.1,by rw[hE]; exact zf1 _⟩,hbel.output.trans hat.output,fun k o hk=>?_,fun x hx=>?_,fun x hx k hk=>⟨(hat.fresh x hx k hk).1,Nat.lt_of_lt_of_le (hat.fresh x hx k hk).2 hbel.size⟩,hat.apart⟩
  ·rw[hbel.block k (hat.lt hk)]; exact hat.known k o hk
  ·have h1:=hat.own x hx;cases hbk:x.blk with
   | none=>simpa [hbk] using h1
   | some k =>
    simp only[hbk,Option.bind_some] at h1 ⊢;rw[hbel.block k (hat.fresh x hx k hbk).2];exact h1
 rcases hrow.2 with ⟨rfl,h0⟩ | ⟨gb,cap,cur,rfl,hbase,hgb,r1,r2,r3,r4⟩
 ·have hss0:ss=[]:=ze8 h0;have hl0:l.map Prod.fst=[]:=by
   have:=(hss.trans hkeys.symm).length_eq;rw[hss0] at this;exact ze8 (by simpa using this.symm)
  refine⟨_,g,s,I,hat2,I,zb7 g,?_⟩;rw[hl0];have:cG []=[]:=by simp[cG]
  rw[this];exact zb8 g 1
 ·have hfresh:g gb=none:=by
   cases h:g gb with
   | none=>rfl
   | some o=>have:=hat.lt h; omega
  refine⟨_,upd g gb (.cells cur 3 (0,0)),s,I,⟨hat2.os,hat2.tape,hat2.output,fun k o hk=>?_,hat2.own,fun x hx k hk=>⟨?_,(hat2.fresh x hx k hk).2⟩,hat2.apart⟩,I,zA hfresh,?_⟩
  ·unfold upd at hk;split at hk
   ·rename_i e1; subst e1; injection hk with hk; subst hk; exact hgb
   ·exact hat2.known k o hk
  ·have h1:=hat.fresh x hx k hk;have hne:k≠gb:=oM;simp only[upd,hne,if_false];exact h1.1
  ·have hlen:(cG (l.map Prod.fst)).length=ss.length:=by rw[cZ]; exact (hss.trans hkeys.symm).length_eq.symm
   refine⟨some ⟨gb,0,none⟩,cap,by rw[hlen],⟨by rw[encInt.length],oM⟩,fun _=>⟨gb,0,cur,_,(0,0),I,eD _ _ _,fun j x hj=>?_⟩⟩;rw[lp] at hj;have hj2:(cur.toList.take (ss.length * 1))[j]?=some x:=by rw[r4]; exact hj
   rw[zh5] at hj2;split at hj2
   ·simpa using hj2
   ·cases hj2
theorem Tryz.mty146:MTy Tryz.prog 146 3 84 (dy 0):=⟨underlying146,underlying3,zk3⟩
theorem Tryz.sty188:STy Tryz.prog 188 76 1 24 (.slice none 0 0):=⟨underlying188,⟨t76,by kernel_rfl,by kernel_rfl,by kernel_rfl,by kernel_rfl⟩,rfl,by decide⟩
theorem DX {g:PH}{s:Own}{b:Nat}{U:TypeId}{fr:Nat×Nat}{a n:Int}(i:Nat)(hs:s[i]?=some (pt b (.cells #[vi a,vb (my n),txt (ey n.natAbs)] U fr))):∀ j v,[vb (my n),txt (ey n.natAbs)][j]?=some v→eH g s ⟨b,1+j,none⟩ v:=fun j v hj=>by
 rcases j with _ | _ | j
 ·simp at hj; subst hj; exact cO i hs I
 ·simp at hj; subst hj; exact cO i hs I
 ·simp at hj
theorem sj (E:World)(g:PH)(s:Own)(n:Int)(h:n.natAbs<4294967296) :
  Ctr Tryz.prog E 136 #[dy n] g s (fun r g' s'=>(∃ m:Int,r=vi m∧decide (m≠0)=decide (n≠0))∧s=s'∧Le g g'):=by
 have hB:=kU h;have hb:beN (ey n.natAbs)=n.natAbs:=iS oM;refine za9 (args:=[.agg #[vb (my n),txt (ey n.natAbs)]]) func136 I ntmps136 (bE I) ?_;refine rZ (bW (bO I) fun b1=>?_);refine aT I (sQ (bK (rZ (lK (qV 0 mZ iI I I I) (lW (cL call140 I (lf E g _ _ _ hB)) ?_)))));rintro v5 g1 _ ⟨rfl,hle1,hs1⟩;rw[hb] at hs1;obtain ⟨p5,c5,rfl⟩:=za2 hs1;refine lU (eN aV I) (yE I (aT I ?_));have hl:((ef n.natAbs).length:Int)=0↔n=0:=by
  unfold ef;by_cases h0:n.natAbs=0
  ·rw[zf5 h0]; simp; omega
  ·rw[zf4 h0]; simp; omega
 refine iP I (fun hz=>?_) (fun hz=>?_)
 ·refine rZ (aT I (rE (bR (tR (dR (s':=s) uR ?_)))));exact za6 (.inl I) results136 I ⟨⟨0,I,by rw[hl.1 hz]⟩,I,hle1⟩
 ·refine rZ (lU (fA sS I zT4 I) (lK (qL (v:=vb (my n)) iT4 I (cO 0 I I)) (aT I ?_)));have hn0:n≠0:=fun e=>hz (hl.2 e);refine iQ I (fun hg=>?_) (fun hg=>?_)
  ·refine rZ (aT I (rE (bR (tR (dR (s':=s) uR ?_)))));exact za6 (.inl I) results136 I ⟨⟨-1,I,by simp[hn0]⟩,I,hle1⟩
  ·refine kP (bN (tN (rZ (aT I (rE (dR (s':=s) uR ?_))))));exact za6 (.inl I) results136 I ⟨⟨1,I,by simp[hn0]⟩,I,hle1⟩
theorem oH (E:World)(g:PH)(s:Own)(b i:Nat)(zl:List (Int×Int))(k x:Int)(hi:s[i]?=some (mp b (fz zl)))(hx:(cC zl k).natAbs+x.natAbs<4294967296) :
  Ctr Tryz.prog E 96 #[.map (some b),vi k,dy x] g s (fun _ g' s'=>Le g g'∧s'=s.set i (mp b (fz (dA zl k x)))):=by
 refine za9 (args:=[.map (some b),vi k,.agg #[vb (my x),txt (ey x.natAbs)]]) func96 I ntmps96 (bE I) ?_;refine rZ (bW (bO I) fun b5=>?_);refine tZ (rG (lM I (lM I (lM I (lM I (lK (SQ.eq (v':=dy (cC zl k)) (SQ.lookup mty146 I I (ce.own (i+1) hi)) (vm zl k)) (lK (qV 0 mZ iI I I I) (lW (cL call139 I (uv E g _ (cC zl k) x hx)) ?_))))))));rintro _ g1 _ ⟨rfl,rfl,hle1⟩;refine lO (SO.mapUpdate (i+1) mty146 I I I hi) ?_;rintro _ _ _ ⟨rfl,rfl⟩;rw[Gf];refine nL (dR (s':=s.set i (mp b (fz (dA zl k x)))) (.cons _ (.refl _)) ?_);exact ST.ret0 (.inr I) results96 ⟨hle1,I⟩
def sb (ts:List Tm):Prop:=∀ t∈ts,dn t.1
theorem m5:∀ (ts:List Tm) (zl:List (Int×Int)),∀ p∈jD zl ts,(∃ q∈zl,q.1=p.1)∨∃ t∈ts,t.1=p.1
 | [],_,p,hp=>.inl ⟨p,hp,rfl⟩
 | t::ts,zl,p,hp=>by
  rcases m5 ts (dA zl t.1 t.2) p hp with ⟨q,hq,he⟩ | ⟨u,hu,he⟩
  ·have h1:p.1∈(dA zl t.1 t.2).map Prod.fst:=ze6.2 ⟨q,hq,he⟩;rw[oz] at h1;split at h1
   ·obtain ⟨q,hq,he⟩:=ze6.1 h1;exact .inl ⟨q,hq,he⟩
   ·rcases ze7.1 h1 with h1 | h1
    ·obtain ⟨q,hq,he⟩:=ze6.1 h1;exact .inl ⟨q,hq,he⟩
    ·simp at h1;exact .inr ⟨t,by simp,h1.symm⟩
  ·exact .inr ⟨u,List.mem_cons_of_mem _ hu,he⟩
theorem te {ts:List Tm}(h:sb ts):∀ p∈jD [] ts,dn p.1:=fun p hp=>by
 rcases m5 ts [] p hp with ⟨q,hq,_⟩ | ⟨t,ht,he⟩
 ·cases hq
 ·rw[← he]; exact h t ht
theorem ff (ts:List Tm)(r:Int):cC (jD [] ts) r=cf ts r:=by
 rw[tE];show 0+_=_;omega
theorem p4 {zl:List (Int×Int)}{t:Tm}(h:t∈gp zl):(∃ p∈zl,p.1=t.1)∧t.2=cC zl t.1:=by
 unfold gp at h;obtain ⟨k,hk,rfl⟩:=ze6.1 h;obtain ⟨p,hp,he⟩:=ze6.1 ((il _).mem_iff.1 (zg8.1 hk).1);exact⟨⟨p,hp,he⟩,I⟩
structure j3 (ts:List Tm):Prop where
 part:∀ j r,(cf (ts.take j) r).natAbs≤1000000000
 coef:∀ t∈ts,t.2.natAbs≤1000000000
 len:ts.length<1000000
 fit:sb ts
theorem j3.all {ts:List Tm}(h:j3 ts)(r:Int):(cf ts r).natAbs≤1000000000:=by
 have:=h.part ts.length r;rwa [List.take_length] at this
theorem j3.small {ts:List Tm}(h:j3 ts):WBd 4294967295 (jD [] ts):=fun p hp=>by
 have h1:=kY (ii ts (zl:=[]) (by simp)) p hp;rw[ff] at h1;have h2:=h.all p.1;omega
theorem uZ {r:Int}:∀ {ts:List Tm},(∀ t∈ts,t.2.natAbs≤1)→(cf ts r).natAbs≤ts.length
 | [],_=>zf1 _
 | t::ts,h=>by
  have h1:=uZ (r:=r) (ts:=ts) fun u hu=>h u (List.mem_cons_of_mem _ hu);have h2:=h t (by simp);rw[c8,ze3];split <;> omega
theorem j3.ones {ts:List Tm}(h:∀ t∈ts,t.2.natAbs≤1)(hl:ts.length<1000000)(hf:sb ts):j3 ts :=
 ⟨fun j r=>by
  have h1:=uZ (r:=r) (ts:=ts.take j) fun t ht=>h t (List.mem_of_mem_take ht);rw[zd8] at h1;omega,fun t ht=>by have:=h t ht; omega,hl,hf⟩
theorem Ay:∀ {ts:List Tm},(ts.Pairwise fun a b=>a.1<b.1)→∀ (j:Nat) (r:Int),cf (ts.take j) r=0∨cf (ts.take j) r=cf ts r
 | [],_,j,r=>by rw[List.take_nil]; exact .inr I
 | t::ts,h,0,r=>.inl rfl
 | t::ts,h,j+1,r=>by
  rw[zj4] at h;rw[List.take_succ_cons,c8,c8];by_cases e:t.1=r
  ·have h1:cf ts r=0:=lH fun u hu=>by have:=h.1 u hu; omega
   have h2:cf (ts.take j) r=0:=lH fun u hu=>by have:=h.1 u (List.mem_of_mem_take hu); omega
   rw[h1,h2]; exact .inr I
  ·rw[zf4 e,Int.zero_add,Int.zero_add];exact Ay h.2 j r
theorem j3.can {F:Int→Int}{ts:List Tm}(h:nD F ts)(hF:∀ r,(F r).natAbs≤1000000000)(hl:ts.length<1000000)(hf:sb ts):j3 ts :=
 ⟨fun j r=>by
  rcases Ay h.1 j r with e | e
  ·rw[e]; decide
  ·rw[e,h.2.2]; exact hF r,fun t ht=>by
  have h1:cf ts t.1=t.2:=by
   have h3:=h.1;clear h hF hl hf;induction ts with
   | nil=>cases ht
   | cons u us ih =>
    rw[zj4] at h3;rw[c8]
    rcases ze5.1 ht with rfl | ht
    ·rw[zf5 rfl,lH fun v hv=>by have:=h3.1 v hv; omega,Int.add_zero]
    ·rw[zf4 (by have:=h3.1 t ht; omega),Int.zero_add];exact ih ht h3.2
  rw[← h1,h.2.2];exact hF _,hl,hf⟩
def sY (ts:List Tm):List Tm:=gp (jD [] ts)
theorem lc (ts:List Tm):nD (cf ts) (sY ts):=by
 have h:=l8 (zl:=jD [] ts) (ii ts (by simp));exact⟨h.1,h.2.1,fun r=>(h.2.2 r).trans (ff ts r)⟩
theorem rT (ts:List Tm):(sY ts).length≤ts.length:=zj8 (p8 _) (by simpa using kO ts [])
theorem xx {ts:List Tm}{t:Tm}(h:t∈sY ts):(∃ u∈ts,u.1=t.1)∧t.2=cf ts t.1:=by
 obtain ⟨⟨p,hp,he⟩,h2⟩:=p4 h;rw[ff] at h2
 rcases m5 ts [] p hp with ⟨q,hq,_⟩ | ⟨u,hu,hu2⟩
 ·cases hq
 ·exact⟨⟨u,hu,hu2.trans he⟩,h2⟩
theorem BU {ts us:List Tm}(h:∀ r,cf ts r=cf us r):sY ts=sY us:=(lc ts).uniq (lc us) h
def wv (n:Int)(ts:List Tm):List Tm:=gp ((jD [] ts).map fun p=>(p.1,n * p.2))
theorem CX (n:Int)(ts:List Tm):nD (fun r=>n * cf ts r) (wv n ts):=by
 have hk:(((jD [] ts).map fun p=>(p.1,n * p.2)).map Prod.fst).Nodup:=by
  rw[zh9];exact ii ts (by simp)
 have h:=l8 hk;exact⟨h.1,h.2.1,fun r=>(h.2.2 r).trans ((mg n r _).trans (zd6 (n * ·) (ff ts r)))⟩
theorem wO (n:Int)(ts:List Tm):(wv n ts).length≤ts.length:=zj8 (p8 _) (by rw[ze1]; simpa using kO ts [])
theorem CW {n:Int}{ts:List Tm}{t:Tm}(h:t∈wv n ts):(∃ u∈ts,u.1=t.1)∧t.2=n * cf ts t.1:=by
 obtain ⟨⟨p,hp,he⟩,h2⟩:=p4 h;rw[mg,ff] at h2;obtain ⟨q,hq,rfl⟩:=ze6.1 hp
 rcases m5 ts [] q hq with ⟨q',hq',_⟩ | ⟨u,hu,hu2⟩
 ·cases hq'
 ·exact⟨⟨u,hu,hu2.trans he⟩,h2⟩
theorem rJ (E:World)(g:PH)(s:Own)(op p:Option Addr)(oc n c:Nat)(ts:List Tm)(ho:SlA aY g (.slice op 1 oc) [⟨p,n,c⟩])(ht:SlA cN g (.slice p n c) ts)(hT:j3 ts) :
  Ctr Tryz.prog E 91 #[.slice op 1 oc] g s (fun r g' s'=>∃ b,r = .map (some b)∧Le g g'∧s'=mp b (fz (jD [] ts))::s):=by
 obtain rfl:n=ts.length:=(SlA.cap ht).1;have hl:=hT.len;refine za9 (args:=[.slice op 1 oc]) func91 I ntmps91 (bE I) ?_;refine rZ (aT I (rZ (lW (SO.mkMap) ?_)));rintro _ _ _ ⟨m,rfl,rfl,rfl⟩;refine aT I (sQ (sW I (lU (eN underlying188 I) (lM I (tZ (bK ?_))))));refine oP (ι:=Nat×PH×List (Int×Int)) (fun i=>[(3,.map (some m)),(9,.slice op 1 oc),(10,vi 1),(11,vi i.1)]) (fun i=>i.2.1) (fun i=>mp m (fz i.2.2)::s) (fun i=>i.1≤1∧Le g i.2.1∧(i.1=0→i.2.2=[])∧(i.1=1→i.2.2=jD [] ts)) (fun i=>1 - i.1) (0,g,[])
  sB rfl rfl ⟨zf1 _,zb7 _,fun _=>rfl,fun h=>absurd h (by simp)⟩ ?_
 rintro ⟨k,gk,zl0⟩ ⟨hk,hlek,h0,h1⟩;dsimp only at hk hlek h0 h1 ⊢;refine rZ (yL I (tZ (sQ ?_)));refine iP I (fun hlt=>?_) (fun hlt=>?_)
 ·obtain rfl:k=0:=oM;obtain rfl:=h0 rfl;have hob:=za4 ho (by simp);have hok:=za3 ho hlek;have htk:=za3 ht hlek;refine kP (tN (sQ (bK (rZ (lU (iA underlying188 sizeOf76 I I hob oM sL) (lK (eB (u:=.slice p ts.length c) isAgg76 I (za5 hok) (show ([⟨p,ts.length,c⟩]:List Sv)[((0:Nat):Int).toNat]?=some ⟨p,ts.length,c⟩ from I) I) (aT I (sW I (lU (eN wu I) (lM I (tZ (bK ?_))))))))))));refine oP (ι:=Nat×PH) (fun i=>[(3,.map (some m)),(9,.slice op 1 oc),(10,vi 1),(11,vi 0),(15,.slice p ts.length c),(16,vi ts.length),(17,vi i.1)]) (fun i=>i.2) (fun i=>mp m (fz (jD [] (ts.take i.1)))::s) (fun i=>i.1≤ts.length∧Le gk i.2) (fun i=>ts.length - i.1) (0,gk)
   sB rfl rfl ⟨zf1 _,zb7 _⟩ ?_
  rintro ⟨j,gj⟩ ⟨hj,hlej⟩;dsimp only at hj hlej ⊢;refine rZ (yL I (tZ (sQ ?_)));refine iP I (fun hlt2=>?_) (fun hlt2=>?_)
  ·have hjl:j<ts.length:=oM;have htj:=za3 htk hlej;have hb1:=za4 htj oM;have hgx:ts[((j:Nat):Int).toNat]?=some ts[j]:=gE hjl;have hsucc:=AS hjl [];have hx1:=hT.coef _ (gM hjl);have hbd:=hT.part j ts[j].1;rw[← ff] at hbd;generalize ts[j]=x at *;obtain ⟨x1,x2⟩:=x;dsimp only at hsucc hx1 hbd;refine kP (tN (sQ (bK (rZ (lU (iA wu uQ I I hb1 oM sL) (lK (eA isAgg87 uQ I (za5 htj) hgx) (bW (aL zeroValue87) fun b7=>?_)))))));refine oZ (sK 0 uQ I I I I I sB) ?_;refine tZ (rG (lM I (lU (fA underlying87 I zT3 I) (lK (qL (v:=vi x1) iT3 I (cO 0 I I)) (lU (fA underlying87 I iI I) (lK (SQ.loadAggAt (vs:=[vb (my x2),txt (ey x2.natAbs)]) mZ iI I I (DX 0 I)) (lW (cL call96 I (oH E gj _ m 1 (jD [] (ts.take j)) x1 x2 I oM)) ?_)))))));rintro _ g1 _ ⟨hle1,rfl⟩;refine nL (bN (tN (rG (yD I (lM I (nL (dR (s':=mp m (fz (dA (jD [] (ts.take j)) x1 x2))::s) (.cons _ (.refl _)) ?_)))))));rw[← hsucc];exact ST.again (j+1,g1) sB I I ⟨by dsimp only; omega,hlej.trans hle1⟩ (by dsimp only; omega)
  ·have hkk:ts.take j=ts:=tL oM;rw[hkk];refine xI (tX (tX (bX (bN (tN (rG (yD I (lM I (nL ?_)))))))));exact ST.again (1,gj,jD [] ts) sB I I ⟨by dsimp only; omega,hlek.trans hlej,(fun h=>absurd h (by simp)),fun _=>I⟩ (by dsimp only; omega)
 ·obtain rfl:k=1:=oM;obtain rfl:=h1 rfl;refine xI (tX (tX (bX (tN (sW I (aT I (rE ?_)))))));exact za6 (.inl I) results91 I ⟨m,I,hlek,I⟩
theorem Eb (zl:List (Int×Int)):(fz zl).map Prod.fst=zl.map Prod.fst:=by
 unfold fz;rw[zh9];rfl
def Cd (zl:List (Int×Int))(K:List Int):List Tm:=(K.filter fun k=>decide (cC zl k≠0)).map fun k=>(k,cC zl k)
theorem AN (zl:List (Int×Int)){K:List Int}{k:Nat}(hk:k<K.length):Cd zl (K.take (k+1))=Cd zl (K.take k)++if cC zl K[k]≠0 then [(K[k],cC zl K[k])] else []:=by
 unfold Cd;rw[tS hk,zh1,zf9];by_cases h:cC zl K[k]=0 <;> simp[h]
theorem CE (zl:List (Int×Int))(K:List Int):(Cd zl K).length≤K.length:=by
 unfold Cd;rw[ze1];exact zc2 _ _
theorem l7 (E:World)(hE:E.drawn=0)(g:PH)(s:Own)(b:Nat)(zl:List (Int×Int))(hm:Mp g b (fz zl))(hl:zl.length<1099511627776)(hw:∀ p∈zl,dn p.1)(hB:WBd 4294967295 zl) :
  Ctr Tryz.prog E 92 #[.map (some b)] g s (fun r g' s'=>s=s'∧Le g g'∧SlA cN g' r (gp zl)):=by
 have hKl:(cG (zl.map Prod.fst)).length=zl.length:=by rw[cZ,ze1]
 have hT:gp zl=Cd zl (cG (zl.map Prod.fst)):=rfl;rw[hT];refine za9 (args:=[.map (some b)]) func92 I ntmps92 (bE I) ?_;refine rZ (aT I (rZ (aT I (sQ (sW I (lW (cL call135 I (yK E g _ b)) ?_))))));rintro _ g1 _ ⟨rfl,hle1,bk,rfl,hbk⟩;refine lW (cL call119 I (uz E hE g1 _ bk b (fz zl) hbk (hm.mono hle1) (by unfold fz; rw[ze1]; exact hl) (fun p hp=>by unfold fz at hp; obtain ⟨q,hq,rfl⟩:=ze6.1 hp; exact hw q hq))) ?_;rintro v8 g2 _ ⟨rfl,hle2,hK⟩;rw[Eb] at hK;obtain ⟨q,d,rfl⟩:=za2 hK;refine lU (eN aj I) (lM I (tZ (bK ?_)));generalize cG (zl.map Prod.fst)=K at *;refine zb4 87 3 ?_;refine oP (ι:=Nat×PH×Value) (fun i=>[(0,.map (some b)),(3,i.2.2),(8,.slice q K.length d),(9,vi K.length),(10,vi i.1)]) (fun i=>i.2.1) (fun i=>rowA cN 87 i.2.2 (Cd zl (K.take i.1))::s) (fun i=>i.1≤K.length∧Le g2 i.2.1) (fun i=>K.length - i.1) (0,g2,.slice none 0 0)
  sB rfl rfl ⟨zf1 _,zb7 _⟩ ?_
 rintro ⟨k,gk,w⟩ ⟨hk,hlek⟩;dsimp only at hk hlek ⊢;refine rZ (yL I (tZ (sQ ?_)));refine iP I (fun hlt=>?_) (fun hlt=>?_)
 ·have hkl:k<K.length:=oM;have hKk:=za3 hK hlek;have hb1:=za4 hKk oM;have hgk:K[((k:Nat):Int).toNat]?=some K[k]:=gE hkl;have hsucc:=AN zl hkl;have htl:=CE zl (K.take k);rw[zd8] at htl;have hBk:=WBd.get hB K[k];have hmk:=hm.mono (hle1.trans (hle2.trans hlek));generalize K[k]=id0 at *;refine kP (tN (sQ (bK (rZ (lU (iA aj zT3 I I hb1 oM sL) (lK (eB (u:=vi id0) iT3 I (za5 hKk) hgk I) (aT I (sW I (lM I (lK (SQ.eq (v':=dy (cC zl id0)) (SQ.lookup mty146 I I (ce.known hmk)) (vm zl id0)) (lW (cL call136 I (sj E gk _ (cC zl id0) oM)) ?_)))))))))));rintro _ g3 _ ⟨⟨sg,rfl,hsg⟩,rfl,hle3⟩;have hm3:=hmk.mono hle3;refine lU (SU.eq (v':=vb (decide (cC zl id0≠0))) (nQ I I) (zd6 vb hsg)) (tZ ?_);refine iP I (fun hnz=>?_) (fun hnz=>?_)
  ·rw[zf5 hnz] at hsucc;refine rG (lM I (lM I (lM I (lM I (lK (SQ.eq (v':=dy (cC zl id0)) (SQ.lookup mty146 I I (ce.known hm3)) (vm zl id0)) (lU (za1 I (build87 _ _ _)) (lW (bS sty76 I I I (ab ⟨I,trivial⟩) dC) ?_)))))));rintro _ _ _ ⟨b25,rfl,rfl,rfl⟩;refine lW (aP (e:=cN) (l:=Cd zl (K.take k)) 0 (id0,cC zl id0) sty76 I I I I I oM oM) ?_;rintro ov' _ _ ⟨rfl,rfl⟩;refine lA I (nL (bN (tN (rG (yD I (lM I (nL ?_)))))));rw[← hsucc];exact ST.again (k+1,g3,ov') sB I I ⟨by dsimp only; omega,hlek.trans hle3⟩ (by dsimp only; omega)
  ·rw[zf4 hnz,zc3] at hsucc;refine kP (bN (tN (rG (yD I (lM I (nL ?_))))));rw[← hsucc];exact ST.again (k+1,g3,w) sB I I ⟨by dsimp only; omega,hlek.trans hle3⟩ (by dsimp only; omega)
 ·have hkk:K.take k=K:=tL oM;rw[hkk];refine xI (tX (tX (bX (tN (sW I (aT I (rE (fT fun g3 hle3 hrow=>?_))))))));exact za6 (.inl I) results92 I ⟨I,hle1.trans (hle2.trans (hlek.trans hle3)),hrow⟩
theorem gy (E:World)(hE:E.drawn=0)(g:PH)(s:Own)(v:Value)(ts:List Tm)(ht:SlA cN g v ts)(hT:j3 ts) :
  Ctr Tryz.prog E 43 #[v] g s (fun r g' s'=>s=s'∧Le g g'∧SlA cN g' r (sY ts)):=by
 obtain ⟨p,c,rfl⟩:=za2 ht;have hlen:=kO ts [];refine za9 (args:=[.slice p ts.length c]) func43 I ntmps43 (bE I) ?_;refine rZ (aT I (sW I (lW (bS sty188 I I I (ab ⟨I,trivial⟩) dC) ?_)));rintro _ _ _ ⟨b4,rfl,rfl,rfl⟩;refine zb3 fun g1 hle1 hb4=>?_;have hs4:SlA aY g1 (.slice (some ⟨b4,0,none⟩) 1 1) [⟨p,ts.length,c⟩]:=SlA.lit hb4 rfl rfl;refine lW (cL call91 I (rJ E g1 _ _ p 1 ts.length c ts hs4 (za3 ht hle1) hT)) ?_;rintro _ g2 _ ⟨b5,rfl,hle2,rfl⟩;refine SL.freezeMap fun g3 hle3 hm3=>?_;refine lW (cL call92 I (l7 E hE g3 _ b5 (jD [] ts) hm3 (by have:=hT.len; simp at hlen; omega) (te hT.fit) hT.small)) ?_;rintro v6 g4 _ ⟨rfl,hle4,hs6⟩;refine aT I (rE ?_);exact za6 (.inl I) results43 I ⟨I,hle1.trans (hle2.trans (hle3.trans hle4)),hs6⟩
theorem wd (E:World)(hE:E.drawn=0)(g:PH)(s:Own)(v u:Value)(ts us:List Tm)(ht:SlA cN g v ts)(hu:SlA cN g u us)(hT:j3 ts)(hU:j3 us)(he:∀ r,cf ts r=cf us r) :
  Ctr Tryz.prog E 46 #[v,u] g s (fun r g' s'=>r=vb true∧s=s'∧Le g g'):=by
 obtain ⟨p,c,rfl⟩:=za2 ht;obtain ⟨q,d,rfl⟩:=za2 hu;have hln:=rT ts;have hl:=hT.len;have hsm:=BU he;refine za9 (args:=[.slice p ts.length c,.slice q us.length d]) func46 I ntmps46 (bE I) ?_;refine rZ (aT I (sW I (lW (cL call43 I (gy E hE g _ _ ts ht hT)) ?_)));rintro v6 g1 _ ⟨rfl,hle1,hs1⟩;refine lM I (lW (cL call43 I (gy E hE g1 _ _ us (za3 hu hle1) hU)) ?_);rintro v8 g2 _ ⟨rfl,hle2,hs2⟩;rw[← hsm] at hs2;refine lW (cL call42 I (xk E g2 _ _ _ (sY ts) (za3 hs1 hle2) hs2 oM)) ?_;rintro _ _ _ ⟨rfl,rfl,rfl⟩;refine aT I (rE ?_);exact za6 (.inl I) results46 I ⟨I,I,hle1.trans hle2⟩
end Go.Proofs.YtcfkpajlakidbaaGreatDoor
