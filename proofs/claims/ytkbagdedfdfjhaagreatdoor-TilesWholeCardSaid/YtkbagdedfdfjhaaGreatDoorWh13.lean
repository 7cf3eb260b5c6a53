/- 13 -/
import Derived.Test.YtkbagdedfdfjhaaGreatDoorWh12
import Derived.Test.YtkbagdedfdfjhaaGreatDoorWh05
import Derived.WideKeyArr
import Derived.Test.YtkbagdedfdfjhaaGreatDoorWh10
import Derived.Test.YtkbagdedfdfjhaaGreatDoorWh09
import Derived.Test.YtkbagdedfdfjhaaGreatDoorWh11
set_option linter.unusedSimpArgs false
set_option linter.unusedVariables false
namespace Go.Proofs.YtkbagdedfdfjhaaGreatDoor
open _root_.Go.Proofs.Tryz _root_.Go.Proofs.YtkbagdedfdfjhaaGreatDoor.Tryz
open Go Go.Sy Go.Pl Go.Proofs
set_option maxRecDepth 100000
set_option maxHeartbeats 2000000
theorem SU.andNotB {P:Program}{N:Nat}{f:Fr}{dst:Option Tmp}{ty:TypeId}{pos:String}{af:Array Edge}{gd:Option (Nat×Bool)}{x y:Operand}{T U:TypeId}{k:IntKind}{m n:Int}(hx:ev f x=some (.int k m))(hy:ev f y=some (.int k n)) :
  SU P N ⟨dst,.binOp .andNot T x y U,ty,pos,af,gd⟩ f (.int k (k.wrap (BitVec.ofInt k.bits m &&& ~~~ BitVec.ofInt k.bits n).toNat)):=fun a w ha=>by
 simp only[execOp,ha.ev hx,ha.ev hy,eqGuard,binOp,ne_eq,not_true_eq_false,if_false,Op.intBits]; rfl
def pc1 (n:Nat):Nat:=(n / 2 &&& 6148914691236517205)+(n &&& 6148914691236517205)
def pc2 (n:Nat):Nat:=(pc1 n / 4 &&& 3689348814741910323)+(pc1 n &&& 3689348814741910323)
theorem uz (E:World)(g:PH)(s:Own)(n:Nat)(hn:n<64) :
  Ctr Tryz.prog E 130 #[.int .u64 n] g s (fun x g' s'=>x=vi (onesB n:Nat)∧g=g'∧s=s'):=by
 refine za9 (args:=[.int .u64 n]) func130 I ntmps130 (bE I) ?_;refine rZ (aT I (sW I (lU (SU.eq (v':=.int .u64 (n / 2:Nat)) (SU.shr I I dC) (zd7 (Value.int .u64) (by revert n; decide +kernel))) ?_)));refine lU (SU.eq (v':=.int .u64 (n / 2 &&& 6148914691236517205:Nat)) (SU.and I I) (zd7 (Value.int .u64) (by revert n; decide +kernel))) ?_;refine lM I (lU (SU.eq (v':=.int .u64 (n &&& 6148914691236517205:Nat)) (SU.and I I) (zd7 (Value.int .u64) (by revert n; decide +kernel))) ?_);refine lU (SU.eq (v':=.int .u64 (pc1 n:Nat)) (zd6 I I) (zd7 (Value.int .u64) (by revert n; decide +kernel))) ?_;refine aT I (sW I (lU (SU.eq (v':=.int .u64 (pc1 n / 4:Nat)) (SU.shr I I dC) (zd7 (Value.int .u64) (by revert n; decide +kernel))) ?_));refine lU (SU.eq (v':=.int .u64 (pc1 n / 4 &&& 3689348814741910323:Nat)) (SU.and I I) (zd7 (Value.int .u64) (by revert n; decide +kernel))) ?_;refine lM I (lU (SU.eq (v':=.int .u64 (pc1 n &&& 3689348814741910323:Nat)) (SU.and I I) (zd7 (Value.int .u64) (by revert n; decide +kernel))) ?_);refine lU (SU.eq (v':=.int .u64 (pc2 n:Nat)) (zd6 I I) (zd7 (Value.int .u64) (by revert n; decide +kernel))) ?_;refine aT I (sW I (lU (SU.eq (v':=.int .u64 (pc2 n / 16:Nat)) (SU.shr I I dC) (zd7 (Value.int .u64) (by revert n; decide +kernel))) ?_));refine lM I (lU (SU.eq (v':=.int .u64 (pc2 n / 16+pc2 n:Nat)) (zd6 I I) (zd7 (Value.int .u64) (by revert n; decide +kernel))) ?_);refine lU (SU.eq (v':=.int .u64 (onesB n:Nat)) (SU.and I I) (zd7 (Value.int .u64) (by revert n; decide +kernel))) ?_;refine aT I (sW I (lM I (lU (SU.eq (v':=.int .u64 0) (SU.shr I I dC) (zd7 (Value.int .u64) (by revert n; decide +kernel))) ?_)));refine lU (SU.eq (v':=.int .u64 (onesB n:Nat)) (zd6 I I) (zd7 (Value.int .u64) (by revert n; decide +kernel))) ?_;refine aT I (sW I (lM I (lU (SU.eq (v':=.int .u64 0) (SU.shr I I dC) (zd7 (Value.int .u64) (by revert n; decide +kernel))) ?_)));refine lU (SU.eq (v':=.int .u64 (onesB n:Nat)) (zd6 I I) (zd7 (Value.int .u64) (by revert n; decide +kernel))) ?_;refine aT I (sW I (lM I (lU (SU.eq (v':=.int .u64 0) (SU.shr I I dC) (zd7 (Value.int .u64) (by revert n; decide +kernel))) ?_)));refine lU (SU.eq (v':=.int .u64 (onesB n:Nat)) (zd6 I I) (zd7 (Value.int .u64) (by revert n; decide +kernel))) ?_;refine aT I (sW I (lU (SU.eq (v':=vi (onesB n:Nat)) (zd5 mW uT3 I) (zd7 vi (by revert n; decide +kernel))) ?_));refine lU (SU.eq (v':=vi (onesB n:Nat)) (SU.and I I) (zd7 vi (by revert n; decide +kernel))) ?_;refine aT I (rE ?_);exact za6 (.inl I) results130 I ⟨I,I,I⟩
theorem kZ (E:World)(g:PH)(s:Own)(n:Nat)(hn:n<64) :
  Ctr Tryz.prog E 82 #[.int .u64 n] g s (fun x g' s'=>x=vi (onesB n:Nat)∧g=g'∧s=s'):=by
 refine za9 (args:=[.int .u64 n]) func82 I ntmps82 (bE I) ?_;refine rZ (aT I (sQ (cF I (kP (tN (sW I (lW (cL call130 I (uz E g s n hn)) ?_)))))));rintro _ _ _ ⟨rfl,rfl,rfl⟩;refine aT I (rE ?_);exact za6 (.inl I) results82 I ⟨I,I,I⟩
theorem xh (E:World)(g:PH)(s:Own)(n:Int) :
  Ctr Tryz.prog E 83 #[vi n] g s (fun x g' s'=>x=vi (sgP n)∧g=g'∧s=s'):=by
 have hb:0≤n % 2∧n % 2<2:=⟨zk2 _ dC,zk1 _ dC⟩;refine za9 (args:=[vi n]) func83 I ntmps83 (bE I) ?_;refine rZ (aT I (sW I (lU (SU.eq (v':=vi (n % 2)) (SU.and I I) (zd7 vi (qe n))) (lU (SU.eq (v':=vi (2 * (n % 2))) (SU.mulW I I) (zd7 vi (zk5 _ oM))) (lU (sU I I oM) (aT I (rE ?_)))))));exact za6 (.inl I) results83 I ⟨I,I,I⟩
theorem A5 {n:Nat}(h:n≤6):2 ^ n≤64:=Nat.pow_le_pow_right dC h (n:=2)
theorem C6 {n i s:Nat}(hn:n≤6)(hi:i<1099511627776)(hs:s<64):i * 2 ^ n≤70368744177664∧bId n i s≤70368744177728:=by
 have h1:i * 2 ^ n≤1099511627776 * 64:=Nat.mul_le_mul oM (A5 hn);unfold bId;omega
theorem mr (E:World)(g:PH)(s:Own)(v:Value)(L:List Cl)(T:List (List Int))(i t:Nat)(hv:ym g v L T)(hT:T.length≤6)(hi:i<1099511627776)(ht:t<64) :
  Ctr Tryz.prog E 81 #[v,vi i,vi t] g s (fun x g' s'=>x=vi (bId T.length i t)∧g=g'∧s=s'):=by
 obtain ⟨b,m,cv,iv,rfl,hb,-⟩:=hv;have h1:=C6 hT hi ht;refine za9 (args:=[pp b 0,vi i,vi t]) func81 I ntmps81 (bE I) ?_;refine rZ (aT I (sW I (lM I (lU (nC I) (lU (fA og I zT3 I) (lK (qL (v:=vi T.length) iT3 I (cK hb I)) (lU (SU.eq (v':=vi (i * 2 ^ T.length:Nat)) (SU.shl I I oM) (zd7 vi (by rw[show min ((T.length:Nat):Int).toNat IntKind.i64.bits=T.length from by have:IntKind.i64.bits=64:=I; omega,zk5 _ (by have e:((i:Int) * 2 ^ T.length)=((i * 2 ^ T.length:Nat):Int):=(by rw[Int.natCast_mul,Int.natCast_pow]; rfl); rw[e]; omega),Int.natCast_mul,Int.natCast_pow]; rfl))) ?_)))))));refine lM I (lU (SU.eq (v':=vi (bId T.length i t)) (aD I I oM) (zd7 vi (by unfold bId; omega))) ?_);refine aT I (rE ?_);exact za6 (.inl I) results81 I ⟨I,I,I⟩
theorem x1:∀ s:Nat,s<64→∀ b:Nat,b<64→decide (IntKind.i64.wrap (BitVec.ofInt IntKind.i64.bits (s:Int) &&& ~~~ BitVec.ofInt IntKind.i64.bits (b:Int)).toNat=0)=decide (s &&& b=s):=by decide +kernel
theorem xa (b:Nat){k:Nat}:((List.range (k+1)).filter fun s=>decide (0<s)&&decide (s &&& b=s))=((List.range k).filter fun s=>decide (0<s)&&decide (s &&& b=s))++if 0<k∧k &&& b=k then [k] else []:=by
 rw[List.range_succ,zh2];congr 1;by_cases h:0<k∧k &&& b=k
 ·rw[zf6 h,List.filter_cons_of_pos (by simp[h.1,h.2])];rfl
 ·rw[zf5 h,List.filter_cons_of_neg (by simpa using h)];rfl
theorem xl (E:World){ι:Type}(G:ι→PH)(S:ι→Own)(J:List Nat→ι→Prop)(fn:FuncId)(fc:Array Value)(b:Nat)(hb:b<64)(i0:ι)(h0:J [] i0)
  (hstep:∀ pre s i,J pre i→pre.length≤b→0<s→s≤b→s &&& b=s→cz Tryz.prog E (.func (.func fn) #[] fc) [vi (s:Nat)] (G i) (S i) (fun _ g' s'=>∃ j,G j=g'∧S j=s'∧J (pre++[s]) j)) :
  Ctr Tryz.prog E 79 #[vi b,.func (.func fn) #[] fc] (G i0) (S i0) (fun _ g' s'=>∃ j,G j=g'∧S j=s'∧J (bD b) j):=by
 refine za9 (args:=[vi b,.func (.func fn) #[] fc]) func79 I ntmps79 (bE I) ?_;refine rZ (aT I (bK ?_));refine oP (ι:=Nat×ι) (fun z=>[(0,vi b),(1,.func (.func fn) #[] fc),(4,vi z.1)]) (fun z=>G z.2) (fun z=>S z.2) (fun z=>1≤z.1∧z.1≤b+1∧J ((List.range z.1).filter fun s=>decide (0<s)&&decide (s &&& b=s)) z.2) (fun z=>b+1 - z.1) (1,i0) sB I I ⟨lR _,by dsimp only; omega,by
  show J ((List.range 1).filter fun s=>decide (0<s)&&decide (s &&& b=s)) i0;rw[show (List.range 1)=[0] from rfl,List.filter_cons_of_neg (by simp)];exact h0⟩ ?_
 rintro ⟨k,i⟩ ⟨hk1,hkb,hJ⟩;dsimp only at hk1 hkb hJ ⊢;refine sQ (sW I (lM I (lU (SU.leq I I) (tZ ?_))));refine iP I (fun hle=>?_) (fun hle=>?_)
 ·have hkb2:k≤b:=oM;have hsub:=x1 k oM b hb;have htk:=xa b (k:=k);refine kP (tN (sQ (bK (sW I (lM I (lU (SU.andNotB I I) (lU (SU.eq (v':=vb (decide (k &&& b=k))) (eQ I I) (zd7 vb hsub)) (tZ ?_))))))));refine iP I (fun hs=>?_) (fun hs=>?_)
  ·rw[zf6 ⟨oM,hs⟩] at htk;refine rG (lM I (lM I (lW (SO.callV I I (hstep _ k i hJ (zk3 (zc2 _ _) (by rw[zh9]; omega)) oM hkb2 hs)) ?_)));rintro _ _ _ ⟨j,rfl,rfl,hj⟩;refine nL (bN (tN (rG (lM I (yD I (lA I (nL ?_)))))));exact gA (k+1,j) sB I I ⟨by dsimp only; omega,by dsimp only; omega,by dsimp only; rw[htk]; exact hj⟩ (by dsimp only; omega)
  ·rw[zf5 (fun h=>hs h.2),zc3] at htk;refine kP (bN (tN (rG (lM I (yD I (lA I (nL ?_)))))));exact gA (k+1,i) sB I I ⟨by dsimp only; omega,by dsimp only; omega,by dsimp only; rw[htk]; exact hJ⟩ (by dsimp only; omega)
 ·refine xI (tX (tX (bX ?_)));have hkk:k=b+1:=oM;subst hkk;exact ST.ret0 (.inr I) results79 ⟨i,I,I,hJ⟩
def leftB (s j:Nat):Nat:=s - (((eL s).take j).map fun k=>2 ^ k).sum
theorem B5:∀ s:Nat,s<64→∀ j:Nat,j<7→(leftB s j=0↔¬ j<onesB s)∧(j<onesB s→IntKind.i64.wrap (BitVec.ofInt IntKind.i64.bits (leftB s j:Int) &&& BitVec.ofInt IntKind.i64.bits (IntKind.i64.wrap (0 - (leftB s j:Int)))).toNat=((2 ^ (eL s).getD j 0:Nat):Int)∧leftB s (j+1)+2 ^ (eL s).getD j 0=leftB s j∧2 ^ (eL s).getD j 0≤s):=by decide +kernel
theorem Be:∀ s:Nat,s<64→0<s→decide (IntKind.i64.wrap (BitVec.ofInt IntKind.i64.bits (s:Int) &&& BitVec.ofInt IntKind.i64.bits ((s:Int) - 1)).toNat≠0)=decide (1<onesB s):=by decide +kernel
theorem qu:∀ s:Nat,s<64→onesB s≤6:=by decide +kernel
theorem yz:∀ t:Nat,t<64→IntKind.u64.wrap (t:Int)=(t:Int):=by decide
def ry (L:List Cl)(n s:Nat)(x:ai):ai:=⟨bId n (ixB L x.cell) s,x.sign⟩
def yd (n i s:Nat)(d:Int)(q:Nat×Nat):ai:=⟨bId n i (s - 2 ^ q.1),sgP (q.2+d)⟩
theorem pS (L:List Cl)(n i:Nat)(y:Cl)(s:Nat):kM L n i y s=y.sides.map (ry L n s)++if onesB s≤1 then [] else (eL s).zipIdx.map (yd n i s y.dim):=rfl
theorem xW (E:World)(g:PH)(s:Own)(bx bi by' bo:Nat)(pv ov:Value)(L:List Cl)(T:List (List Int))(i t:Nat)(y:Cl)(r:Rc)(rs:List Rc)(hcov:ym g pv L T)(hL:Rt L)(hT:T.length≤6)(hi:L[i]?=some y)(hy:aw g y r)
  (hbx:g bx=some (.cells #[pv] 66 (0,0))) (hbi:g bi=some (.cells #[vi i] 3 (0,0))) (hby:g by'=some (.cells (encCell.enc r).toArray 78 (0,0))) (ht:t<64) (ht0:0<t) (hrs:rs.length<1099511627776) :
  cz Tryz.prog E (.func (.func 80) #[] #[pp bx 0,pp bi 0,pp by' 0,pp bo 0]) [vi (t:Nat)] g (pt bo (.cells #[ov] 30 (0,0))::rowA encCell 78 ov rs::s)
   (fun _ g' s'=>Le g g'∧∃ ov' r',s'=pt bo (.cells #[ov'] 30 (0,0))::rowA encCell 78 ov' (rs++[r'])::s∧aw g' (a7 L T.length i y t) r'):=by
 refine cz.mk (cap:=[pp bx 0,pp bi 0,pp by' 0,pp bo 0]) call80 ?_;obtain ⟨rid,rdim,rp,rn,rc⟩:=r;obtain ⟨h1,h2,hsl⟩:=hy;dsimp only at h1 h2 hsl;have hrn:rn=y.sides.length:=Sl.slen hsl;subst h1 h2 hrn;have hym:y∈L:=zf7 hi;have hf:=hL.form y hym;have hdim:=hf.dim;have hil:i<1099511627776:=by
  have h3:=(zf1.1 hi).1;have h4:=hL.few;omega
 have hcov0:=hcov;obtain ⟨b,m,cv,iv,rfl,hb,hcv,hm,hiv⟩:=hcov;have ho6:=qu t ht;have hsdl:y.sides.length≤64:=by
  have:=hf.cnt;simp only[au,Bool.or_eq_false_iff,Bool.and_eq_false_iff,decide_eq_false_iff_not] at this;omega
 refine za9 (args:=[vi t,pp bx 0,pp bi 0,pp by' 0,pp bo 0]) func80 I ntmps80 (bE I) ?_;refine SC.cut (ι:=Nat) (fun b6=>[(0,vi t),(1,pp bx 0),(2,pp bi 0),(3,pp by' 0),(4,pp bo 0),(6,pp b6 0)]) (fun _=>g) (fun b6=>pt b6 (.cells #[vi (bId T.length i t),vi (y.dim+(onesB t:Nat) - 1),.slice none 0 0] 78 (0,0))::pt bo (.cells #[ov] 30 (0,0))::rowA encCell 78 ov rs::s) (fun _=>True) ?_ ?_
 ·refine SC.drawX [13] zd8 kR ?_;refine SX.q (i:=0) rfl kR (qL (v:=pp b 0) isAgg66 rfl (cK hbx rfl)) dC (SX.q (i:=1) rfl kR (qL (v:=vi i) iT3 rfl (cK hbi rfl)) dC (SX.u (i:=2) rfl kR (mV rfl) dC (SX.u (i:=4) rfl kR (fA ar rfl zT3 rfl) dC (SX.q (i:=5) rfl kR (qL (v:=vi y.dim) iT3 rfl (cK hby rfl)) dC ?_))));refine SX.u (i:=6) I kR (mV I) dC (SX.u (i:=7) I kR (SU.eq (v':=.int .u64 t) (zd5 uT3 gU I) (zd7 (Value.int .u64) (yz t ht))) dC ?_)
  repeat' (first
   | (refine SB.o (i:=3) I (cL call81 I (mr E g _ (pp b 0) L T i t hcov0 hT hil ht)) dC (.inr iR) ?_; rintro _ _ _ ⟨rfl,rfl,rfl⟩)
   | (refine SB.o (i:=3) I (cL call81 I (mr E g _ (pp b 0) L T i t hcov0 hT hil ht)) dC (.inr iR) ?_; rintro _ _ _ ⟨rfl,rfl,rfl⟩)
   | (refine SB.o (i:=8) I (cL call82 I (kZ E g _ t ht)) dC (.inr iR) ?_; rintro _ _ _ ⟨rfl,rfl,rfl⟩; refine SX.u (i:=9) I kD (aD I I oM) dC ?_; refine SX.u (i:=10) I kD (sU I I oM) dC ?_; refine SX.u (i:=11) I kD (za1 I (buildC78 _ _)) dC ?_)
   | (refine SB.o (i:=8) I (cL call82 I (kZ E g _ t ht)) dC (.inr iR) ?_; rintro _ _ _ ⟨rfl,rfl,rfl⟩; refine SX.u (i:=9) I kD (aD I I oM) dC ?_; refine SX.u (i:=10) I kD (sU I I oM) dC ?_; refine SX.u (i:=11) I kD (za1 I (buildC78 _ _)) dC ?_)
   | (refine SB.o (i:=12) I (aL zk9) dC (.inr iR) ?_; rintro _ _ _ ⟨b6,rfl,rfl,rfl⟩)
   | (refine SB.on (i:=13) I (sK 0 aJ I I I I I sB) (.inl dC) ?_; rintro _ _ _ ⟨rfl,rfl⟩)
   | refine SX.br2 3 12 kD ?_ ?_
   | refine SX.br2 8 12 kD ?_ ?_
   | refine zd3 12 kD ?_
   | refine zd3 13 kD ?_
   | refine zd3 8 kD ?_
   | refine zd3 3 kD ?_
   | (refine SX.nil kD ?_; exact za7 b6 sB I I trivial))
 rintro b6 -;try dsimp only
 refine zb4 94 2 (sQ (rZ (lU (fA ar rfl cm rfl) (lK (qL (v:=.slice rp y.sides.length rc) dF rfl (cK hby rfl)) ?_))));refine lU (eN cG I) (lM I (tZ (bK ?_)));refine oP (ι:=Nat×Value) (fun z=>[(0,vi t),(1,pp bx 0),(2,pp bi 0),(3,pp by' 0),(4,pp bo 0),(6,pp b6 0),(25,.slice rp y.sides.length rc),(26,vi y.sides.length),(27,vi z.1)]) (fun _=>g) (fun z=>rowA encSide 94 z.2 ((y.sides.take z.1).map (ry L T.length t))::pt b6 (.cells #[vi (bId T.length i t),vi (y.dim+(onesB t:Nat) - 1),z.2] 78 (0,0))::pt bo (.cells #[ov] 30 (0,0))::rowA encCell 78 ov rs::s) (fun z=>z.1≤y.sides.length) (fun z=>y.sides.length - z.1) (0,.slice none 0 0) sB I I (zf2 _) ?_;rintro ⟨k,sv⟩ hk;dsimp only at hk ⊢;refine rZ (yL I (tZ (sQ ?_)));refine iP I (fun hlt=>?_) (fun hlt=>?_)
 ·have hkl:k<y.sides.length:=oM;have hb1:=za4 hsl oM;have hgk:y.sides[((k:Nat):Int).toNat]?=some y.sides[k]:=gE hkl;have htk:(y.sides.take (k+1)).map (ry L T.length t)=(y.sides.take k).map (ry L T.length t)++[ry L T.length t y.sides[k]]:=by rw[tS hkl,zg1]; rfl
  obtain ⟨d,hd,hdd⟩:=hf.found _ (gM hkl);have hsg:=hf.sg _ (gM hkl);generalize y.sides[k]=x at *
  rcases tF hL x.cell with ⟨-,h4⟩ | ⟨cx,h4,h5,h6,h7⟩
  ·rw[hd] at h4; cases h4
  have hxl:ixB L x.cell<1099511627776:=by
   rw[h6] at h5;have h8:=(zf1.1 h5).1;have h9:=hL.few;omega
  rw[h6] at h7;refine kP (tN (sQ (bK (rZ (lU (iA cG bV I I hb1 oM sL) (lK (eA l5 bV I (za5 hsl) hgk) (bW (aL zl1) fun b8=>?_)))))));refine oZ (sK 0 bV I I I I I sB) (tZ ?_);refine dW [16,18] [(0,2),(1,1),(2,1),(3,1),(4,2),(5,2),(6,1),(7,2),(8,1),(9,1),(10,2),(12,2),(13,1),(11,0),(14,2),(15,0),(16,0),(17,2),(18,0)] zd8 kR ?_;refine pU I (fA ar I cm I) (pK I (qL (v:=sv) dF I (cO 2 I I)) (pK I (qL (v:=pp b 0) isAgg66 I (cK hbx I)) (pK I (qL (v:=pp b 0) isAgg66 I (cK hbx I)) (pU I (nC I) (pU I (fA og I sizeOf79 I) (pK I (qL (v:=.map (some m)) isAgg79 I (cK hb I)) (pU I (fA dp I zT3 I) (pK I (qL (v:=vi x.cell) iT3 I (cO 0 I I)) (pK I (SQ.eq (v':=vi (ixB L x.cell:Nat)) (SQ.lookup mty79 I I (cB.known hm)) (by rw[h7]; rfl)) ?_)))))))));refine yM I (pU I (fA dp I zT3 I) (pK I (qL (v:=vi x.sign) iT3 I (cO 0 I I)) (SP.o I (cL call81 I (mr E g _ (pp b 0) L T (ixB L x.cell) t hcov0 hT hxl ht)) dC (.inr iR) ?_)));rintro _ _ _ ⟨rfl,rfl,rfl⟩;refine pU I (za1 I (buildS94 _ _)) (SP.o I (bS sty76 I I I (ab ⟨I,trivial⟩) dC) dC (.inr iR) ?_);rintro _ _ _ ⟨b46,rfl,rfl,rfl⟩;refine SP.o I (aP (e:=encSide) (l:=(y.sides.take k).map (ry L T.length t)) 1 (ry L T.length t x) sty76 I I I I I (by rw[ze2,zd9]; omega) (by rw[ze2,zd9]; omega)) dC (.inl dC) ?_;rintro v47 _ _ ⟨rfl,rfl⟩;rw[← htk];refine zc9 fun hx=>?_;obtain ⟨w0,hw0⟩:=hx;obtain ⟨p47,c47,rfl⟩:=ag hw0 (i:=1) rfl;refine pU I (fA ar I cm I) (SP.on I (SO.store1 2 cm I I I I (by show 2<3; decide) I) (.inl dC) ?_);rintro _ _ _ ⟨rfl,rfl⟩;refine pN (bN (tN (rG (yD I (lM I (nL (dR (.cons _ (.refl _)) ?_)))))));exact gA (k+1,_) sB I I (by dsimp only; omega) (by dsimp only; omega)
 ·have hkk:k=y.sides.length:=oM;subst hkk;rw[List.take_length];refine xI (tX (tX (bX (tN ?_))));have hty:∃ base:List ai,base=y.sides.map (ry L T.length t)∧base.length=y.sides.length:=⟨_,rfl,ze2 _⟩;refine SC.cut (ι:=Value) (fun _=>[(4,pp bo 0),(6,pp b6 0)]) (fun _=>g) (fun sv=>rowA encSide 94 sv (kM L T.length i y t)::pt b6 (.cells #[vi (bId T.length i t),vi (y.dim+(onesB t:Nat) - 1),sv] 78 (0,0))::pt bo (.cells #[ov] 30 (0,0))::rowA encCell 78 ov rs::s) (fun _=>True) ?_ ?_
  ·rw[pS];refine sW I (lM I (lU (sU I I oM) (lU (SU.and I I) (lU (SU.eq (v':=vb (decide (1<onesB t))) (nQ I I) (zd7 vb (Be t ht ht0))) (tZ ?_)))));refine iP I (fun htwo=>?_) (fun htwo=>?_)
   ·rw[zf5 oM];refine sW I (lA I (aT I (bK ?_)));refine oP (ι:=Nat×Value) (fun z=>[(0,vi t),(1,pp bx 0),(2,pp bi 0),(3,pp by' 0),(4,pp bo 0),(6,pp b6 0),(9,vi z.1),(10,vi (leftB t z.1:Nat))]) (fun _=>g) (fun z=>rowA encSide 94 z.2 (y.sides.map (ry L T.length t)++((eL t).zipIdx.take z.1).map (yd T.length i t y.dim))::pt b6 (.cells #[vi (bId T.length i t),vi (y.dim+(onesB t:Nat) - 1),z.2] 78 (0,0))::pt bo (.cells #[ov] 30 (0,0))::rowA encCell 78 ov rs::s) (fun z=>z.1≤onesB t) (fun z=>onesB t - z.1) (0,sv) sB I (by dsimp only; rw[List.take_zero,List.map_nil,zc3]) (zf2 _) ?_;rintro ⟨j,zv⟩ hj;dsimp only at hj ⊢;obtain ⟨f1,f2⟩:=B5 t ht j oM;refine sQ (sW I (lU (nQ I I) (tZ ?_)));refine iP I (fun hne=>?_) (fun hne=>?_)
    ·have hjo:j<onesB t:=by
      by_cases k:j<onesB t
      ·exact k
      ·exact absurd (zd7 Int.ofNat (f1.2 k)) hne
     obtain ⟨f3,f4,f5⟩:=f2 hjo;have hbl:j<(eL t).length:=hjo;have hbg:(eL t)[j]=(eL t).getD j 0:=by rw[zg6,gE hbl]; rfl
     have htk:y.sides.map (ry L T.length t)++((eL t).zipIdx.take (j+1)).map (yd T.length i t y.dim)=(y.sides.map (ry L T.length t)++((eL t).zipIdx.take j).map (yd T.length i t y.dim))++[yd T.length i t y.dim ((eL t)[j],j)]:=by
      have hz:j<(eL t).zipIdx.length:=by rw[List.length_zipIdx]; exact hbl
      rw[tS hz,zg1,zg4,List.getElem_zipIdx,Nat.zero_add];rfl
     have hln:(y.sides.map (ry L T.length t)++((eL t).zipIdx.take j).map (yd T.length i t y.dim)).length≤80:=by
      rw[ze1,ze2,ze2,zd9];omega
     rw[hbg] at htk;clear hbg;generalize (eL t).getD j 0=kb at *;have hpk:0<2 ^ kb:=Nat.two_pow_pos kb;have hle0:leftB t j≤t:=Nat.sub_le _ _;refine kP (tN (sQ (bK (sW I (lM I (lU (SU.neg I) (lU (SU.eq (v':=vi (2 ^ kb:Nat)) (SU.and I I) (zd7 vi f3)) (aT I (sW I (lM I (lU (SU.eq (v':=vi (leftB t (j+1):Nat)) (sU I I oM) (zd7 vi oM)) (aT I ?_))))))))))));refine dW [15,17] [(0,2),(1,1),(2,1),(3,1),(4,2),(5,2),(6,2),(8,2),(9,2),(10,1),(11,2),(7,0),(12,0),(13,2),(14,0),(15,0),(16,2),(17,0)] zd8 kR ?_;refine pU rfl (fA ar rfl cm rfl) (pK rfl (qL (v:=zv) dF rfl (cO 1 rfl rfl)) (pK rfl (qL (v:=pp b 0) isAgg66 rfl (cK hbx rfl)) (pK rfl (qL (v:=vi i) iT3 rfl (cK hbi rfl)) (yM rfl (yM rfl (pU rfl (SU.eq (v':=vi (t - 2 ^ kb:Nat)) (sU rfl rfl oM) (zd7 vi oM)) (yM rfl (pU rfl (fA ar rfl zT3 rfl) (pK rfl (qL (v:=vi y.dim) iT3 rfl (cK hby rfl)) ?_)))))))));refine pU I (aD I I oM) (SP.o I (cL call81 I (mr E g _ (pp b 0) L T i (t - 2 ^ kb) hcov0 hT hil oM)) dC (.inr iR) ?_);rintro _ _ _ ⟨rfl,rfl,rfl⟩;refine SP.o I (cL call83 I (xh E g _ _)) dC (.inr iR) ?_;rintro _ _ _ ⟨rfl,rfl,rfl⟩;refine pU I (za1 I (buildS94 _ _)) (SP.o I (bS sty76 I I I (ab ⟨I,trivial⟩) dC) dC (.inr iR) ?_);rintro _ _ _ ⟨b81,rfl,rfl,rfl⟩;refine SP.o I (aP (e:=encSide) (l:=y.sides.map (ry L T.length t)++((eL t).zipIdx.take j).map (yd T.length i t y.dim)) 0 (yd T.length i t y.dim (kb,j)) sty76 I I I I I oM oM) dC (.inl dC) ?_;rintro v82 _ _ ⟨rfl,rfl⟩;rw[← htk];refine zc9 fun hx=>?_;obtain ⟨w0,hw0⟩:=hx;obtain ⟨p82,c82,rfl⟩:=ag hw0 (i:=0) rfl;refine pU I (fA ar I cm I) (SP.on I (SO.store1 1 cm I I I I (by show 2<3; decide) I) (.inl dC) ?_);rintro _ _ _ ⟨rfl,rfl⟩;refine pN (bN (tN (rG (lM I (yD I (lA I (nL ?_)))))));exact gA (j+1,_) sB I I (by dsimp only; omega) (by dsimp only; omega)
    ·have hjo:j=onesB t:=by
      have h0:leftB t j=0:=oM;have:=f1.1 h0;omega
     subst hjo;refine xI (tX (tX (bX ?_)));have hall:(eL t).zipIdx.take (onesB t)=(eL t).zipIdx:=tL (by rw[List.length_zipIdx]; exact lR _);rw[hall];exact za7 zv sB I I trivial
   ·rw[zf6 oM,zc3];refine kP ?_;exact za7 sv sB I I trivial
  rintro zv -;try dsimp only
  refine SC.facts fun hx=>?_;obtain ⟨w1,hw1⟩:=hx;obtain ⟨zp,zc,rfl⟩:=ag hw1 (i:=0) rfl;refine rG (lU (fA eK I dJ I) (lK (qL (v:=ov) fQ I (cO 2 I I)) (lK (qV 1 gt aJ I I I) (lW (bS sty28 I I I (ab ⟨I,trivial⟩) dC) ?_))));rintro _ _ _ ⟨b87,rfl,rfl,rfl⟩;refine lW (aP (e:=encCell) (l:=rs) 3 ⟨bId T.length i t,y.dim+(onesB t:Nat) - 1,⟨zp,(kM L T.length i y t).length,zc⟩⟩ sty28 I I I I I oM oM) ?_;rintro v88 _ _ ⟨rfl,rfl⟩;refine zd1 fun hx=>?_;obtain ⟨w2,hw2⟩:=hx;obtain ⟨p88,c88,rfl⟩:=ag hw2 (i:=3) rfl;refine lU (fA eK I dJ I) (oZ (SO.store1 2 dJ I I I I (by show 0<1; decide) I) ?_);refine nL (fT fun g5 hle5 hs5=>?_);refine dR (.cons _ (.refl _)) ?_;exact ST.ret0 (.inr I) results80 ⟨hle5,_,_,I,I,I,hs5⟩
def mZ (L:List Cl)(T:List (List Int))(k:Nat):List Cl:=(L.zipIdx.take k).flatMap fun q=>(bD (tlB L 0 T q.1.id)).map (a7 L T.length q.2 q.1)
theorem sC (L:List Cl)(T:List (List Int)):mZ L T L.length=oE L T:=by
 unfold mZ oE;rw[tL (by rw[List.length_zipIdx]; exact lR _)]
theorem xV {L:List Cl}{T:List (List Int)}{k:Nat}(h:k<L.length):mZ L T (k+1)=mZ L T k++(bD (tlB L 0 T L[k].id)).map (a7 L T.length k L[k]):=by
 have hz:k<L.zipIdx.length:=by rw[List.length_zipIdx]; exact h
 unfold mZ;rw[tS hz,List.flatMap_append,List.getElem_zipIdx,Nat.zero_add,zh1,List.flatMap_nil,zc3]
theorem EF (L:List Cl)(id:Int){T:List (List Int)}(hT:T.length≤6):tlB L 0 T id<64:=Nat.lt_of_lt_of_le (mN L id T) (A5 hT)
theorem sA (L:List Cl){T:List (List Int)}(hT:T.length≤6)(k:Nat):(mZ L T k).length≤L.length * 64:=by
 have h1:=qD (fun q:Cl×Nat=>(bD (tlB L 0 T q.1.id)).map (a7 L T.length q.2 q.1)) 64 (l:=L.zipIdx.take k) fun q _=>by
  rw[ze2];have:=rL (tlB L 0 T q.1.id);have:=EF L q.1.id hT;omega
 have h2:(L.zipIdx.take k).length≤L.length:=by rw[zd9,List.length_zipIdx]; omega
 exact zk3 h1 (Nat.mul_le_mul_right 64 h2)
theorem nr {L:List Cl}(hL:Rt L){T:List (List Int)}(hT:T.length≤6):dd (oE L T):=by
 refine⟨?_,fun c hc=>?_⟩
 ·rw[← sC];have h1:=sA L hT L.length;have h2:=hL.few;omega
 ·obtain ⟨q,hq,hz⟩:=List.mem_flatMap.1 hc;obtain ⟨s,hs,rfl⟩:=ze7.1 hz;have hy:q.1∈L:=zf7 (List.mem_zipIdx_iff_getElem?.1 hq);have h1:=(hL.form _ hy).cnt;have h2:=(hL.form _ hy).dim;simp only[au,Bool.or_eq_false_iff,Bool.and_eq_false_iff,decide_eq_false_iff_not] at h1;have h3:=EF L q.1.id hT;have h4:=sub_le (cM.1 hs).2;have h5:=qu s oM;show (kM L T.length q.2 q.1 s).length<_;rw[pS,ze1,ze2];have h6:(if onesB s≤1 then ([]:List ai) else (eL s).zipIdx.map (yd T.length q.2 s q.1.dim)).length≤6:=by
   split
   ·simp
   ·rw[ze2,List.length_zipIdx];exact h5
  omega
theorem cz.mono {P:Program}{E:World}{v:Value}{args:List Value}{g:PH}{s:Own}{R R':Value→PH→Own→Prop}(h:cz P E v args g s R)(hr:∀ v g' s',R v g' s'→R' v g' s'):cz P E v args g s R':=by
 obtain ⟨n,cap,h1,h2,h3⟩:=h;exact⟨n,cap,h1,h2,h3.mono hr⟩
theorem ob (E:World)(g:PH)(s:Own)(pv:Value)(L:List Cl)(T:List (List Int))(hcov:ym g pv L T)(hL:Rt L)(hT:T.length≤6) :
  Ctr Tryz.prog E 36 #[pv] g s (fun x g' s'=>s=s'∧Le g g'∧∃ u,x = .agg #[u]∧aq g' u (cj L T)):=by
 have hcov0:=hcov;obtain ⟨b,m,cv,iv,rfl,hb,hcv,hm,hiv⟩:=hcov;obtain ⟨us,hus,hallu⟩:=hcv;have hul:=hallu.length;obtain ⟨up,uc,rfl⟩:=za2 hus;obtain ⟨ip,ic,rfl⟩:=za2 hiv;have hfew:=hL.few;refine za9 (args:=[pp b 0]) func36 I ntmps36 (bE I) ?_;refine rZ (bW (bO I) fun b1=>?_);refine bW (aL zk6) fun b2=>?_;refine tZ (rZ (bW (aL zk6) fun b3=>?_));refine tZ (sQ (sQ (cP ((zj4 _ _ _).cons _ |>.trans (zj4 _ _ _)) (SC.freeze fun g1 hle1 hb1=>?_))));refine zb4 78 3 (cP (zj4 _ _ _) (rG (lK (qL (v:=pp b 0) isAgg66 I (cK hb1 I)) (lU (nC I) (lU (fA og I dJ I) (lK (qL (v:=.slice up us.length uc) fQ I (cK (hle1 _ _ hb) I)) (lU (eN aU I) (lM I (tZ (bK ?_))))))))));refine oP (ι:=PH×Nat×Value×List Rc) (fun z=>[(1,pp b1 0),(2,pp b2 0),(3,pp b3 0),(9,.slice up us.length uc),(10,vi us.length),(11,vi z.2.1)]) (fun z=>z.1) (fun z=>pt b3 (.cells #[z.2.2.1] 30 (0,0))::rowA encCell 78 z.2.2.1 z.2.2.2::pt b2 (.cells #[.slice none 0 0] 30 (0,0))::s) (fun z=>Le g1 z.1∧z.2.1≤us.length∧aI (aw z.1) (mZ L T z.2.1) z.2.2.2) (fun z=>us.length - z.2.1) (g1,0,.slice none 0 0,[]) sB I I ⟨zb7 _,zf2 _,trivial⟩ ?_;rintro ⟨g2,k,ov,rs⟩ ⟨hle2,hk,hacc⟩;dsimp only at hle2 hk hacc ⊢;refine rZ (yL I (tZ (sQ ?_)));refine iP I (fun hlt=>?_) (fun hlt=>?_)
 ·have hku:k<us.length:=oM;have hkl:k<L.length:=oM;have hb1':=za4 hus oM;have hgk:us[((k:Nat):Int).toNat]?=some us[k]:=gE hku;have hR:=hallu.get (gE hkl) (gE hku);have hyg:L[k]?=some L[k]:=gE hkl;have hsucc:=xV (T:=T) hkl;have hge:(L.map fun c=>((tlB L 0 T c.id:Nat):Int))[((k:Nat):Int).toNat]?=some ((tlB L 0 T L[k].id:Nat):Int):=by
   rw[zh5,show ((k:Nat):Int).toNat=k from rfl,hyg];rfl
  have hbi:=za4 hiv (by rw[ze2]; omega);have hin:=EF L L[k].id hT;have hklen:=sA L hT k;have hrl:=hacc.length;generalize L[k]=y at *;generalize us[k]=r at *;have hcall:∀ (b4 b5:Nat) (g4:PH),Le g2 g4→g4 b4=some (.cells #[vi k] 3 (0,0))→g4 b5=some (.cells (encCell.enc r).toArray 78 (0,0))→∀ pre t (z:PH×Value×List Rc),(Le g4 z.1∧aI (aw z.1) (mZ L T k++pre.map (a7 L T.length k y)) z.2.2)→pre.length≤tlB L 0 T y.id→0<t→t≤tlB L 0 T y.id→t &&& tlB L 0 T y.id=t→cz Tryz.prog E (.func (.func 80) #[] #[pp b1 0,pp b4 0,pp b5 0,pp b3 0]) [vi (t:Nat)] z.1 (pt b3 (.cells #[z.2.1] 30 (0,0))::rowA encCell 78 z.2.1 z.2.2::pt b2 (.cells #[.slice none 0 0] 30 (0,0))::s) (fun _ g' s'=>∃ j:PH×Value×List Rc,j.1=g'∧(pt b3 (.cells #[j.2.1] 30 (0,0))::rowA encCell 78 j.2.1 j.2.2::pt b2 (.cells #[.slice none 0 0] 30 (0,0))::s)=s'∧Le g4 j.1∧aI (aw j.1) (mZ L T k++(pre++[t]).map (a7 L T.length k y)) j.2.2):=by
   rintro b4 b5 g4 hle24 hb4 hb5 pre t ⟨g6,ov6,rs6⟩ ⟨hle6,hacc6⟩ hpl ht0 htb -;dsimp only at hle6 hacc6 ⊢;have hl6:=hacc6.length;rw[ze1,ze2] at hl6;refine cz.mono (xW E g6 _ b1 b4 b5 b3 (pp b 0) ov6 L T k t y r rs6 (hcov0.mono (hle1.trans (hle2.trans (hle24.trans hle6)))) hL hT hyg (hR.mono (hle1.trans (hle2.trans (hle24.trans hle6)))) ((hle2.trans (hle24.trans hle6)) _ _ hb1) (hle6 _ _ hb4) (hle6 _ _ hb5) oM ht0 oM) ?_;rintro _ g7 s7 ⟨hle7,ov7,r7,rfl,hc7⟩;refine⟨(g7,ov7,rs6++[r7]),I,I,hle6.trans hle7,?_⟩;rw[zg1,← zg4];exact (hacc6.mono fun _ _=>aw.mono hle7).append ⟨hc7,trivial⟩
  refine kP (tN (sQ (bK (sW I (lU (iA aU aJ I I hb1' oM sL) (lK (eA gt aJ I (za5 (za3 hus (hle1.trans hle2))) hgk) (bW (aL zk7) fun b4=>?_)))))));refine bW (aL zk9) fun b5=>?_;refine oZ (SO.store1 1 zT3 I I I I (by show 0<1; decide) I) ?_;refine oZ (sK 0 aJ I I I I I sB) (tZ (SC.freeze fun g3 hle3 hb5=>?_));refine SC.freeze fun g4 hle4 hb4=>?_;have hle24:=hle3.trans hle4;have hle04:=hle1.trans (hle2.trans hle24);refine dW [8] [(0,1),(1,2),(2,2),(3,1),(4,1),(5,2),(6,1),(7,2),(8,0)] zd8 kR ?_;refine pK I (qL (v:=pp b 0) isAgg66 I (cK ((hle2.trans hle24) _ _ hb1) I)) (pU I (nC I) (pU I (fA og I bZ I) (pK I (qL (v:=.slice ip (L.map fun c=>((tlB L 0 T c.id:Nat):Int)).length ic) dh I (cK (hle04 _ _ hb) I)) ?_)));refine pK I (qL (v:=vi k) iT3 I (cK hb4 I)) (pU I (iA aj zT3 I I hbi oM (by simp only[slen,ze2]; omega)) ?_);refine pK I (eB iT3 I (za5 (za3 hiv hle04)) hge I) (pU I (SU.mkFunc I) (SP.o I (cL call79 I (xl E (ι:=PH×Value×List Rc) (fun z=>z.1) (fun z=>pt b3 (.cells #[z.2.1] 30 (0,0))::rowA encCell 78 z.2.1 z.2.2::pt b2 (.cells #[.slice none 0 0] 30 (0,0))::s) (fun done z=>Le g4 z.1∧aI (aw z.1) (mZ L T k++done.map (a7 L T.length k y)) z.2.2) _ _ (tlB L 0 T y.id) hin (g4,ov,rs) ⟨zb7 _,by rw[List.map_nil,zc3]; exact hacc.mono fun _ _=>aw.mono hle24⟩ (hcall b4 b5 g4 hle24 hb4 (hle4 _ _ hb5)))) dC (.inl dC) ?_));rintro _ _ _ ⟨⟨g5,ov5,rs5⟩,rfl,rfl,hle5,hacc5⟩;refine pN (bN (tN (rG (yD I (lM I (nL ?_))))));rw[← hsucc] at hacc5;exact gA (g5,k+1,ov5,rs5) sB I I ⟨hle2.trans (hle24.trans hle5),by dsimp only; omega,hacc5⟩ (by dsimp only; omega)
 ·have hkk:k=L.length:=oM;subst hkk;rw[sC] at hacc;refine cP (zj4 _ _ _) (fS fun g5 hle5 hs5=>?_);have hcells:aq g5 ov (oE L T):=⟨rs,hs5,hacc.mono fun _ _=>aw.mono hle5⟩;refine xI (tX (tX (bX (tN (rZ (lK (qV 0 be ax I I I) (lW (cL call15 I (jt E g5 _ _ (oE L T) hcells (nr hL hT))) ?_)))))));rintro _ g6 _ ⟨rfl,hle6,u,rfl,hu⟩;obtain ⟨qp,qc,rfl⟩:=hu.form;refine oZ (sK 1 ax I I I I I ⟨I,trivial⟩) (tZ (rE ?_));exact ST.retCD 1 s (.inl I) results36 I be ax I I uR ⟨I,hle1.trans (hle2.trans (hle5.trans hle6)),_,I,hu⟩
open Go Go.Sy Go.Pl Go.Proofs Go.WideMaps
set_option maxHeartbeats 1000000
def kV (a b c:Int):Value:=.agg #[vi a,vi b,vi c]
theorem Er:ArrKey Tryz.prog 177 3 3:=⟨underlying177,by kernel_rfl,by kernel_rfl,by kernel_rfl⟩
def sml (a:Int):Prop:=a.natAbs≤1000000
theorem EI {a b c:Int}(ha:sml a)(hb:sml b)(hc:sml c):∃ l,keyOf Tryz.prog 177 (kV a b c)=some l:=by
 have w1:∀ x:Int,sml x→(Lit.int .i64 x).wf=true:=fun x hx=>by
  unfold sml at hx;simp[Lit.wf,IntKind.min,IntKind.max,IntKind.bits,IntKind.signed];omega
 have h1:Tryz.prog.keyType 177=true:=by kernel_rfl
 have ⟨m,hm⟩:∃ m,Tryz.prog.types.size=m+1:=⟨Tryz.prog.types.size - 1,by kernel_rfl⟩;have c1:Tryz.prog.cellsOf 3=1:=by kernel_rfl
 have c3:Tryz.prog.cellsOf 177=3:=by kernel_rfl
 have h3:(kV a b c).formed Tryz.prog 177=true:=by
  unfold kV Value.formed;rw[underlying177,c3];rfl
 have h4:∀ x:Int,sml x→Tryz.prog.keyLits (m+1) 3 [vi x]=some [.int .i64 x]:=fun x hx=>by
  unfold Program.keyLits;rw[uT3];simp[w1 x hx]
 have h5:Tryz.prog.keyLits (m+1+1) 177 (kV a b c).cells.toList=some [.int .i64 a,.int .i64 b,.int .i64 c]:=by
  unfold Program.keyLits;rw[underlying177];simp only[c1,c3];rw[zf6 (show (kV a b c).cells.toList.length=3 from rfl)];have r3:List.range 3=[0,1,2]:=rfl;have e0:(((kV a b c).cells.toList).drop (0 * 1)).take 1=[vi a]:=rfl;have e1:(((kV a b c).cells.toList).drop (1 * 1)).take 1=[vi b]:=rfl;have e2:(((kV a b c).cells.toList).drop (2 * 1)).take 1=[vi c]:=rfl;rw[r3];simp only[List.mapM_cons,List.mapM_nil,e0,e1,e2,h4 a ha,h4 b hb,h4 c hc];rfl
 unfold keyOf;rw[underlying177];simp only[h1,h3,Bool.and_self,if_true];rw[hm,h5];exact⟨_,I⟩
def knE (m:Nat)(F:Int→Int→Int→Int):Ent:=⟨some m,fun oo=>∃ es clk,oo=some (.map es clk)∧∀ e∈es.toList,∃ a b c:Int,sml a∧sml b∧sml c∧e.key=kV a b c∧e.val=vi (F a b c)⟩
theorem EY {a b c a' b' c':Int}(h:kV a b c=kV a' b' c'):a=a'∧b=b'∧c=c':=by
 unfold kV at h;simpa using h
section
variable {N:Nat}{E:World}{f:Fr}{g:PH}{s:Own}{dst:Option Tmp}{ty:TypeId}{pos:String}{af:Array Edge}{gd:Option (Nat×Bool)}{x y u:Operand}{m:Nat}{F:Int→Int→Int→Int}{a b c:Int}
theorem SO.mkKn:SO Tryz.prog N E ⟨dst,.makeMap 73 none,ty,pos,af,gd⟩ f g s fun u g' s'=>∃ b,u = .map (some b)∧g=g'∧s'=knE b F::s :=
 SO.of_run fun a w _ hw=>⟨.map (some w.heap.size),_,g,_,by simp[execOp,Instr.makeMap],hw.alloc (e:=knE w.heap.size F) rfl ⟨#[],0,rfl,by simp⟩,_,rfl,rfl,rfl⟩
theorem SO.lookK (i:Nat)(hi:s[i]?=some (knE m F))(hx:ev f x=some (.map (some m)))(hy:ev f y=some (kV a b c))(ha:sml a)(hb:sml b)(hc:sml c) :
  SO Tryz.prog N E ⟨dst,.lookup 73 x y true,ty,pos,af,gd⟩ f g s fun v g' s'=>(∃ n t,v = .tuple #[vi n,vb t]∧(t=true→n=F a b c))∧g=g'∧s=s' :=
 SO.of_run fun ac w hac hw=>by
  have h0:=hw.own _ (zf7 hi);simp only[knE,Option.bind_some] at h0;obtain ⟨es,clk,h1,h2⟩:=h0;obtain ⟨l,hl⟩:=EI ha hb hc;have h3:=Er.law.check w es.isEmpty hl;have h4:=Er.law.find w hl es.toList fun e he=>by
   obtain ⟨a',b',c',ha',hb',hc',hk,_⟩:=h2 e he;rw[hk];exact EI ha' hb' hc'
  rcases h4 with ⟨h4,_⟩ | ⟨j,e,h4,h5,h6⟩
  ·refine⟨.tuple #[vi 0,vb false],w,g,s,?_,hw,⟨0,false,I,fun h=>by cases h⟩,I,I⟩;simp[execOp,hac.ev hx,hac.ev hy,Instr.lookup,run_underlying underlying73,MapKept.run_getObj_map h1,h3,h4,zk7]
  ·obtain ⟨a',b',c',ha',hb',hc',hk,hv⟩:=h2 e (zf7 h5);rw[h6] at hk;obtain ⟨rfl,rfl,rfl⟩:=EY hk;refine⟨.tuple #[vi (F a b c),vb true],w,g,s,?_,hw,⟨_,true,I,fun _=>I⟩,I,I⟩;simp[execOp,hac.ev hx,hac.ev hy,Instr.lookup,run_underlying underlying73,MapKept.run_getObj_map h1,h3,h4,hv]
theorem SO.mapK (i:Nat)(hi:s[i]?=some (knE m F))(hx:ev f x=some (.map (some m)))(hy:ev f y=some (kV a b c))(hu:ev f u=some (vi (F a b c)))(ha:sml a)(hb:sml b)(hc:sml c) :
  SO Tryz.prog N E ⟨dst,.mapUpdate 73 x y u,ty,pos,af,gd⟩ f g s fun _ g' s'=>g=g'∧s=s' :=
 SO.of_skip fun ac w hac hw=>by
  have h0:=hw.own _ (zf7 hi);simp only[knE,Option.bind_some] at h0;obtain ⟨es,clk,h1,h2⟩:=h0;obtain ⟨l,hl⟩:=EI ha hb hc;have h3:=Er.law.check w false hl;have h4:=Er.law.find w hl es.toList fun e he=>by
   obtain ⟨a',b',c',ha',hb',hc',hk,_⟩:=h2 e he;rw[hk];exact EI ha' hb' hc'
  have hfr:=hw.fresh _ (zf7 hi) m rfl;have fin:∀ (es':Array MapEntry) (clk':Nat),(∀ e∈es'.toList,∃ a b c:Int,sml a∧sml b∧sml c∧e.key=kV a b c∧e.val=vi (F a b c))→At E g s { w with heap:=w.heap.setIfInBounds m (.map es' clk') }:=fun es' clk' h=>by
   obtain ⟨e1,e2⟩:=MapKept.heap_set (o':=.map es' clk') h1;have h7:=hw.turn (w':={ w with heap:=w.heap.setIfInBounds m (.map es' clk') }) (e':=knE m F) hi rfl ⟨rfl,lR _⟩ rfl (by simp) (fun q _ hne=>e2 q (fun e=>hne (by simp[knE,e]))) ⟨es',clk',by simpa [knE] using e1,h⟩ (fun b' hb'=>by
    simp only[knE,zg3] at hb';subst hb';exact⟨by simpa using hfr.2,.inl I⟩)
   rwa [md hi] at h7
  rcases h4 with ⟨h4,_⟩ | ⟨j,e,h4,h5,h6⟩
  ·refine⟨_,g,s,?_,fin (es.push { key:=kV a b c,val:=vi (F a b c),born:=clk }) (clk+1) fun e he=>?_,I,I⟩
   ·simp[execOp,hac.ev hx,hac.ev hy,hac.ev hu,Instr.mapUpdate,run_underlying underlying73,MapKept.run_getObj_map h1,h3,h4,MapKept.run_setObj_map _ h1]
   ·rw[Array.toList_push,ze8,zh3] at he
    rcases he with he | rfl
    ·exact h2 e he
    ·exact⟨a,b,c,ha,hb,hc,I,I⟩
  ·have hje:es[j]?=some e:=by rw[← Array.getElem?_toList]; exact h5
   have h8:=Er.law.stays w hl;refine⟨_,g,s,?_,fin (es.modify j fun e=>{ e with key:=kV a b c,val:=vi (F a b c) }) clk fun e' he'=>?_,I,I⟩
   ·simp[execOp,hac.ev hx,hac.ev hy,hac.ev hu,Instr.mapUpdate,run_underlying underlying73,MapKept.run_getObj_map h1,h3,h4,hje,h6,h8,MapKept.run_setObj_map _ h1]
   ·rw[Array.toList_modify] at he';obtain ⟨q,hq⟩:=List.mem_iff_getElem?.1 he';rw[List.getElem?_modify] at hq;by_cases e0:j=q
    ·subst e0;rw[h5] at hq;simp at hq;subst hq;exact⟨a,b,c,ha,hb,hc,I,I⟩
    ·simp only[e0,if_false] at hq;have:es.toList[q]?=some e':=by simpa using hq
     exact h2 e' (zf7 this)
end
abbrev Mk:=List (Int×Value×List Rc)
def eZ (ms:Mk):Own:=ms.map fun t=>rowA encCell 78 t.2.1 t.2.2
def oh (ms:Mk):List (Int×Value):=ms.map fun t=>(t.1,t.2.1)
def oN (ms:Mk):List (Int×List Rc):=ms.map fun t=>(t.1,t.2.2)
def AY:List (Int×List Rc)→Int→Rc→List (Int×List Rc)
 | [],k,x=>[(k,[x])]
 | (a,l)::r,k,x=>if k=a then (a,l++[x])::r else (a,l)::AY r k x
def mG:List (Int×List Rc)→Int→List Rc
 | [],_=>[]
 | (a,l)::r,k=>if k=a then l else mG r k
theorem wk (x:Rc)(k d:Int):∀ l:List (Int×List Rc),mG (AY l k x) d=if d=k then mG l k++[x] else mG l d
 | []=>by
  unfold AY mG;split <;> rfl
 | (a,l)::r=>by
  unfold AY;by_cases h:k=a
  ·subst h;rw[zf6 rfl];unfold mG;by_cases e:d=k
   ·subst e; simp
   ·rw[zf5 e,zf5 e,zf5 e]
  ·rw[zf5 h];unfold mG;by_cases e:d=a
   ·subst e;rw[zf6 rfl,zf5 (fun q=>h q.symm),zf6 rfl]
   ·rw[zf5 e,zf5 h,zf5 e,wk x k d r]
theorem Tryz.mty72:MTy Tryz.prog 72 3 28 (.slice none 0 0):=⟨underlying72,underlying3,zeroValue28⟩
theorem Fi (ms:Mk)(k:Int):∃ (ms':Mk) (j:Nat) (v:Value) (l:List Rc),mG (oN ms) k=l∧ms'[j]?=some (k,v,l)∧(eU (oh ms) k).getD (.slice none 0 0)=v∧(∀ v' x,iE (oh ms) k v'=oh (ms'.set j (k,v',l++[x]))) ∧
  (∀ v' x,oN (ms'.set j (k,v',l++[x]))=AY (oN ms) k x)∧(∀ B,(∀ t∈ms,t.2.2.length≤B)→∀ t∈ms',t.2.2.length≤B)∧∀ E g (hd s:Own) w,At E g (hd++(eZ ms++s)) w→At E g (hd++(eZ ms'++s)) w:=by
 induction ms with
 | nil =>
  refine⟨[(k,.slice none 0 0,[])],0,.slice none 0 0,[],I,I,I,fun v' x=>I,fun v' x=>by simp[oN,AY],fun B _ t ht=>by simp at ht; subst ht; simp,fun E g hd s w h=>?_⟩;have h1:=h.nilRow 78 3;refine h1.perm ?_;simp only[eZ,List.map_nil,List.nil_append,zf9,List.singleton_append];exact List.perm_middle.symm
 | cons p r ih =>
  obtain ⟨a,u,l0⟩:=p;by_cases hk:k=a
  ·subst hk;refine⟨(k,u,l0)::r,0,u,l0,by simp[oN,mG],I,by simp[oh,bC],fun v' x=>by simp[oh,iE],fun v' x=>by simp[oN,AY],fun B h=>h,fun E g hd s w h=>h⟩
  ·obtain ⟨ms',j,v,l,h0,h1,h2,h3,h4,h6,h5⟩:=ih;refine⟨(a,u,l0)::ms',j+1,v,l,by rw[← h0]; simp[oN,mG,hk],by simpa using h1,?_,fun v' x=>?_,fun v' x=>?_,fun B h t ht=>?_,fun E g hd s w h=>?_⟩
   ·rw[← h2];simp[oh,bC,hk]
   ·have:=h3 v' x;simp only[oh,zf9,iE,List.set_cons_succ] at this ⊢;rw[zf5 hk,this]
   ·have:=h4 v' x;simp only[oN,zf9,AY,List.set_cons_succ] at this ⊢;rw[zf5 hk,this]
   ·rcases ze6.1 ht with rfl | ht
    ·exact h _ (by simp)
    ·exact h6 B (fun t ht=>h t (by simp[ht])) t ht
   ·have:=h5 E g (hd++[rowA encCell 78 u l0]) s w (by simpa [eZ] using h);simpa [eZ] using this
theorem zU {ms:Mk}{j:Nat}{k:Int}{v:Value}{l:List Rc}(h:ms[j]?=some (k,v,l))(s:Own):(eZ ms++s)[j]?=some (rowA encCell 78 v l):=by
 have hj:=(zf1.1 h).1;rw[zg7 (by simpa [eZ] using hj)];simp[eZ,h]
theorem zT {ms:Mk}{j:Nat}{k:Int}{v v':Value}{l l':List Rc}(h:ms[j]?=some (k,v,l))(s:Own):(eZ ms++s).set j (rowA encCell 78 v' l')=eZ (ms.set j (k,v',l'))++s:=by
 have hj:=(zf1.1 h).1;rw[List.set_append_left _ _ (by simpa [eZ] using hj)];simp[eZ,List.map_set]
theorem freezeKs {E:World}{w:World}:∀ (ms:Mk) (g:PH) (s:Own),At E g (eZ ms++s) w→∃ g',Le g g'∧At E g' s w∧∀ t∈ms,SlA encCell g' t.2.1 t.2.2
 | [],g,s,h=>⟨g,zb7 g,h,by simp⟩
 | (a,v,l)::r,g,s,h=>by
  have h':At E g (row 78 3 v l.length (l.flatMap encCell.enc)::(eZ r++s)) w:=h;obtain ⟨g1,hl1,h1,h2⟩:=h'.freezeRow;obtain ⟨g2,hl2,h3,h4⟩:=freezeKs r g1 s h1;refine⟨g2,hl1.trans hl2,h3,fun t ht=>?_⟩
  rcases ze6.1 ht with rfl | ht
  ·exact Sl.mono h2 hl2
  ·exact h4 t ht
theorem SC.freezeKs {P:Program}{N:Nat}{E:World}{c:Code}{Q:Exit→Act→World→Prop}{f:Fr}{g:PH}{s:Own}{ms:Mk}(h:∀ g',Le g g'→(∀ t∈ms,SlA encCell g' t.2.1 t.2.2)→SC P N E c Q f g' s):SC P N E c Q f g (eZ ms++s):=fun a w ha hw=>by
 obtain ⟨g',h1,h2,h3⟩:=Go.Proofs.YtkbagdedfdfjhaaGreatDoor.freezeKs ms g s hw;exact h g' h1 h3 a w ha h2
theorem wc:∀ (ms:Mk) (d:Int),∃ v,(eU (oh ms) d).getD (.slice none 0 0)=v∧((∃ t∈ms,t.1=d∧t.2.1=v∧t.2.2=mG (oN ms) d)∨(v = .slice none 0 0∧mG (oN ms) d=[]))
 | [],d=>⟨_,rfl,.inr ⟨rfl,rfl⟩⟩
 | (a,u,l)::r,d=>by
  obtain ⟨v,h1,h2⟩:=wc r d;by_cases e:d=a
  ·subst e;refine⟨u,by simp[oh,bC],.inl ⟨(d,u,l),by simp,I,I,?_⟩⟩;simp[oN,mG]
  ·refine⟨v,?_,?_⟩
   ·rw[← h1];simp[oh,bC,e]
   ·have e2:mG (oN ((a,u,l)::r)) d=mG (oN r) d:=by simp[oN,mG,e]
    rw[e2]
    rcases h2 with ⟨t,h3,h4⟩ | h2
    ·exact .inl ⟨t,by simp[h3],h4⟩
    ·exact .inr h2
theorem Az {rs:List Rc}{k:Nat}(h:k<rs.length)(d:Int):(rs.take (k+1)).filter (fun r=>decide (r.dim=d))=if d=rs[k].dim then (rs.take k).filter (fun r=>decide (r.dim=d))++[rs[k]] else (rs.take k).filter fun r=>decide (r.dim=d):=by
 rw[tS h,zh2];by_cases e:d=rs[k].dim
 ·rw[zf6 e,List.filter_cons_of_pos (by simpa using e.symm)];rfl
 ·rw[zf5 e,List.filter_cons_of_neg (by simpa using fun q=>e q.symm)];simp
theorem mE {g:PH}:∀ {l:List Cl} {rs:List Rc},aI (aw g) l rs→∀ d:Int,aI (aw g) (l.filter fun c=>decide (c.dim=d)) (rs.filter fun r=>decide (r.dim=d))
 | [],[],_,_=>trivial
 | c::l,r::rs,h,d=>by
  obtain ⟨h1,h2⟩:=h;have ih:=mE h2 d;rw[zi3,zi3,h1.2.1];split
  ·exact⟨h1,ih⟩
  ·exact ih
def ByR (g:PH)(m:Nat)(B:List Cl):Prop:=∃ prs,Mp g m prs∧∀ d,∃ v rs,(eU prs d).getD (.slice none 0 0)=v∧SlA encCell g v rs∧aI (aw g) (B.filter fun c=>decide (c.dim=d)) rs
theorem ByR.mono {g g':PH}{m:Nat}{B:List Cl}(h:ByR g m B)(hl:Le g g'):ByR g' m B:=by
 obtain ⟨prs,h1,h2⟩:=h;refine⟨prs,h1.mono hl,fun d=>?_⟩;obtain ⟨v,rs,h3,h4,h5⟩:=h2 d;exact⟨v,rs,h3,za3 h4 hl,h5.mono fun _ _=>aw.mono hl⟩
theorem E7 {g:PH}{m:Nat}{B:List Cl}{rs:List Rc}{ms:Mk}(hm:Mp g m (oh ms))(hk:∀ t∈ms,SlA encCell g t.2.1 t.2.2)(hall:aI (aw g) B rs)(hc:∀ d,mG (oN ms) d=rs.filter fun r=>decide (r.dim=d)):ByR g m B:=by
 refine⟨oh ms,hm,fun d=>?_⟩;obtain ⟨v,h1,h2⟩:=wc ms d;refine⟨v,_,h1,?_,mE hall d⟩;rw[← hc d]
 rcases h2 with ⟨t,h3,h4,h5,h6⟩ | ⟨h3,h4⟩
 ·rw[← h5,← h6];exact hk t h3
 ·rw[h3,h4];exact zb8 g _
theorem xF:∀ n:Nat,n≤6→∀ m:Nat,m<4611686018427387904→IntKind.i64.wrap (BitVec.ofInt IntKind.i64.bits (m:Int) &&& BitVec.ofInt IntKind.i64.bits ((2 ^ n:Nat) - 1:Int)).toNat=((m % 2 ^ n:Nat):Int):=fun n hn m h=>by
 have h1:(BitVec.ofInt IntKind.i64.bits (m:Int) &&& BitVec.ofInt IntKind.i64.bits ((2 ^ n:Nat) - 1:Int)).toNat=m % 2 ^ n:=by
  have hb:IntKind.i64.bits=64:=rfl;rw[hb,BitVec.toNat_and];have e1:(BitVec.ofInt 64 (m:Int)).toNat=m:=by
   rw[BitVec.toNat_ofInt];omega
  have hp:=A5 hn;have hp0:0<2 ^ n:=Nat.two_pow_pos n;have e2:(BitVec.ofInt 64 ((2 ^ n:Nat) - 1:Int)).toNat=2 ^ n - 1:=by
   rw[BitVec.toNat_ofInt];omega
  rw[e1,e2,Nat.and_two_pow_sub_one_eq_mod]
 have hm:m % 2 ^ n≤m:=Nat.mod_le _ _;rw[h1];exact zk5 _ oM
theorem nZ (E:World)(g:PH)(s:Own)(v:Value)(L:List Cl)(T:List (List Int))(id:Int)(hv:ym g v L T)(hT:T.length≤6)(h0:0≤id)(h1:id<4611686018427387904) :
  Ctr Tryz.prog E 132 #[v,vi id] g s (fun x g' s'=>x=vi (gJ T.length id)∧g=g'∧s=s'):=by
 obtain ⟨b,m,cv,iv,rfl,hb,-⟩:=hv;have hp:=A5 hT;have hp0:0<2 ^ T.length:=Nat.two_pow_pos _;have hml:id.toNat % 2 ^ T.length<64:=Nat.lt_of_lt_of_le (Nat.mod_lt _ hp0) hp;have hmask:=xF T.length hT id.toNat oM;rw[Int.toNat_of_nonneg h0] at hmask;have ho:=qu _ hml;refine za9 (args:=[pp b 0,vi id]) func132 I ntmps132 (bE I) ?_;refine rZ (aT I (sW I (lM I (lU (nC I) (lU (fA og I zT3 I) (lK (qL (v:=vi T.length) iT3 I (cK hb I)) (lU (SU.eq (v':=vi (2 ^ T.length:Nat)) (SU.shl I I oM) (zd7 vi (yT _ oM))) (lU (sU I I oM) (lU (SU.eq (v':=vi (id.toNat % 2 ^ T.length:Nat)) (SU.and I I) (zd7 vi hmask)) (lU (SU.eq (v':=.int .u64 (id.toNat % 2 ^ T.length:Nat)) (zd5 uT3 gU I) (zd7 (Value.int .u64) (yz _ hml))) (lW (cL call82 I (kZ E g _ _ hml)) ?_)))))))))));rintro _ _ _ ⟨rfl,rfl,rfl⟩;refine lU (SU.eq (v':=vi (gJ T.length id)) (sU I I oM) I) (aT I (rE ?_));exact za6 (.inl I) results132 I ⟨I,I,I⟩
set_option maxHeartbeats 4000000
def vm (g:PH)(v:Value)(L:List Cl)(T:List (List Int))(p:Int)(B:List Cl)(mk:Nat):Prop:=∃ bs mb pv,v=pp bs 0∧g bs=some (.cells #[pv,vi p,.map (some mb),.map (some mk)] 75 (0,0))∧ym g pv L T∧ByR g mb B
theorem vm.mono {g g':PH}{v:Value}{L:List Cl}{T:List (List Int)}{p:Int}{B:List Cl}{mk:Nat}(h:vm g v L T p B mk)(hl:Le g g'):vm g' v L T p B mk:=by
 obtain ⟨bs,mb,pv,h1,h2,h3,h4⟩:=h;exact⟨bs,mb,pv,h1,hl _ _ h2,h3.mono hl,h4.mono hl⟩
structure Bok (n:Nat)(B:List Cl):Prop where
 rt:Rt B
 lt:∀ c∈B,c.id<4611686018427387904
 cnt:∀ d:Int,(B.filter fun c=>decide (c.dim=d)).length≤200
theorem Tryz.build177 (a b c:Int)(w:World):(Instr.build 177 #[(0,vi a),(1,vi b),(2,vi c)]).run Tryz.prog w = .ok (kV a b c) w:=by
 have h1:∀ n,(vi n).cells = #[vi n]:=fun _=>rfl;simp[Instr.build,Instr.fill,h1];rfl
theorem wz (n:Nat)(B:List Cl)(a d:Int):lF n B a d=(B.filter fun c=>decide (c.dim=d)).filter fun c=>decide (gJ n c.id≤a):=by
 unfold lF;rw[List.filter_filter];refine List.filter_congr fun c _=>?_;rw[Bool.and_comm]
theorem Bx (n:Nat)(B:List Cl)(a d:Int):oC n B a d=(B.filter fun c=>decide (c.dim=d)).filter fun c=>decide (gJ n c.id>a):=by
 unfold oC;rw[List.filter_filter];refine List.filter_congr fun c _=>?_;rw[Bool.and_comm]
theorem sb {α:Type}{l:List α}{k:Nat}(h:k<l.length)(q:α→Bool):(l.take (k+1)).filter q=if q l[k]=true then (l.take k).filter q++[l[k]] else (l.take k).filter q:=by
 rw[tS h,zh2,zi3];split
 ·rfl
 ·simp
def mH (q:List ai)(id:Int):Int:=(q.map fun x=>if x.cell=id then x.sign else 0).sum
theorem nk (q:List ai)(x:ai)(id:Int):mH (q++[x]) id=mH q id+if x.cell=id then x.sign else 0:=by
 unfold mH;rw[zg1,List.sum_append];simp
theorem Ed {q:List ai}{id:Int}(h:∀ x∈q,x.cell≠id):mH q id=0:=Eo fun x hx=>zf5 (h x hx)
theorem zm (id:Int):∀ {q:List ai},(∀ x∈q,x.sign=1∨x.sign = -1)→(mH q id).natAbs≤q.length
 | [],_=>by simp[mH]
 | x::q,h=>by
  have ih:=zm id (q:=q) fun y hy=>h y (by simp[hy]);have h1:=h x (by simp);have e:mH (x::q) id=(if x.cell=id then x.sign else 0)+mH q id:=by simp[mH]
  rw[e,ze4];split <;> omega
theorem mw {tl:List Cl}{c:Cl}(h:Fm tl c):c.sides.length≤64:=by
 have h1:=h.cnt;have h2:=h.dim;simp only[au,Bool.or_eq_false_iff,Bool.and_eq_false_iff,decide_eq_false_iff_not] at h1;omega
theorem xH {L:List Cl}(hn:(L.map Cl.id).Nodup)(F G:Cl→Int){i:Nat}{c:Cl}(hi:L[i]?=some c)(y:Int)(hy:G c=y)(hG:∀ d∈L,d.id≠c.id→G d=F d):(L.map F).set i y=L.map G:=by
 refine List.ext_getElem? fun j=>?_;rw[List.getElem?_set,zh5,zh5,ze2];have hil:=(zf1.1 hi).1;by_cases e:i=j
 ·subst e;rw[zf6 rfl,zf6 hil,hi,← hy];rfl
 ·rw[zf5 e];cases hj:L[j]? with
  | none=>rfl
  | some d =>
   show some (F d)=some (G d);rw[hG d (zf7 hj) fun e2=>?_];obtain ⟨a1,a2⟩:=zf1.1 hi;obtain ⟨b1,b2⟩:=zf1.1 hj;have key:∀ {a b:Nat} (ha:a<L.length) (hb:b<L.length),a<b→L[a].id≠L[b].id:=fun {a b} ha hb h=>by
    have:=zc6.1 hn a b (by simpa using ha) (by simpa using hb) h;simpa using this
   rcases Nat.lt_trichotomy i j with h | h | h
   ·exact key a1 b1 h (by rw[a2,b2,e2])
   ·exact e h
   ·exact key b1 a1 h (by rw[a2,b2,e2])
theorem xm {p:Int}(hp:Fp p)(cols Rw:List Cl)(A:List Int)(C:Nat)(hC:C=if cols=[] then 0 else Rw.length)(h:∀ i<cols.length,∀ j<C,atF A C i j=elM (cols.map fun x=>Rw.map fun r=>fF x r) i j % p):rk p (atF A C) cols.length C=rkP p cols Rw:=by
 by_cases h0:cols=[]
 ·subst h0;have h1:=jw hp.fld (atF A C) 0 C;have h2:=jw hp.fld (mx ([]:List Cl) Rw fF) 0 Rw.length;show rk p (atF A C) 0 C=rk p (mx ([]:List Cl) Rw fF) 0 Rw.length;omega
 ·rw[zf5 h0] at hC;subst hC;show _=rk p (mx cols Rw fF) cols.length Rw.length;refine mf hp.fld fun i hi j hj=>?_;rw[h i hi j hj,oI (gE hi) (gE hj)];refine (mS _ _).trans (Eqm.of ?_);rw[zn (by rw[ze2]; exact hi) (by rw[List.getElem_map,ze2]; exact hj)];simp
theorem j8 (E:World)(g:PH)(s:Own)(v:Value)(L:List Cl)(T:List (List Int))(p:Int)(hp:Fp p)(B:List Cl)(mk ik:Nat)(a low dim:Int)(hv:vm g v L T p B mk)(hB:Bok T.length B)(hT:T.length≤6)(hk:s[ik]?=some (knE mk fun a low dim=>cH (rkP p) T.length B a low dim))(ha:a.natAbs≤1000)(hlow:low.natAbs≤1000)(hdim:dim.natAbs≤1000) :
  Ctr Tryz.prog E 86 #[v,vi a,vi low,vi dim] g s (fun x g' s'=>x=vi (qM (rkP p) T.length B a low dim)∧s=s'∧Le g g'):=by
 obtain ⟨bs,mb,pv,rfl,hbs,hcov,hby⟩:=hv;have hcov0:=hcov;obtain ⟨bc,m,cv,iv,rfl,hbc,-⟩:=hcov;have hA1 : -1≤min (max a (-1)) ((T.length:Int) - 1)∧min (max a (-1)) ((T.length:Int) - 1)≤1000:=oM;have hW1 : -1≤max low (-1)∧max low (-1)≤1000:=oM;obtain ⟨prs,hmp,hlook⟩:=hby
 obtain ⟨vr,rr,hvr,hrr,hallr⟩:=hlook (dim - 1);obtain ⟨vc,rc,hvc,hrc,hallc⟩:=hlook dim;have hcr:=hB.cnt (dim - 1);have hcc:=hB.cnt dim;obtain ⟨rp,rcap,rfl⟩:=za2 hrr;obtain ⟨cp,ccap,rfl⟩:=za2 hrc;have hsz:qM (rkP p) T.length B a low dim=cH (rkP p) T.length B (min (max a (-1)) ((T.length:Int) - 1)) (max low (-1)) dim:=rfl;rw[hsz];have hRl:=hallr.length;have hCl:=hallc.length;have hRn:((B.filter fun c=>decide (c.dim=dim - 1)).map Cl.id).Nodup:=by
  rw[List.Nodup,zj7];exact (hB.rt.asc.filter _).imp fun h=>by omega
 have hRm:∀ c∈B.filter (fun c=>decide (c.dim=dim - 1)),0≤c.id∧c.id<4611686018427387904:=fun c hc=>by
  have h1:=(zg9.1 hc).1;have h2:=hB.rt.pos c h1;exact⟨oM,hB.lt c h1⟩
 have hCm:∀ c∈B.filter (fun c=>decide (c.dim=dim)),c∈B∧0≤c.id∧c.id<4611686018427387904:=fun c hc=>by
  have h1:=(zg9.1 hc).1;have h2:=hB.rt.pos c h1;exact⟨h1,oM,hB.lt c h1⟩
 have hrowsB:=Bx T.length B (max low (-1)) (dim - 1);have hcolsB:=wz T.length B (min (max a (-1)) ((T.length:Int) - 1)) dim;refine za9 (args:=[pp bs 0,vi a,vi low,vi dim]) func86 I ntmps86 (bE I) ?_;refine rZ (aT I (sW I (lU (SU.maxF I I) (lM I (lU (nC I) (lU (fA vn I sizeOf66 I) (lK (qL (v:=pp bc 0) isAgg66 I (cK hbs I)) (lU (nC I) (lU (fA og I zT3 I) (lK (qL (v:=vi T.length) iT3 I (cK hbc I)) (lU (sU I I oM) (lU (SU.minF I I) (lM I (lU (SU.maxF I I) (lA I (aT I (sW I (lM I (lM I (lU (za1 I (build177 _ _ _)) ?_))))))))))))))))))));refine bW (aL zeroValue177) fun b9=>?_;refine oZ (sK 0 sizeOf177 I I I I I sB) (tZ (sQ (sQ ?_)));refine dW [] [(0,2),(1,2),(2,2),(3,1),(4,1),(5,0),(6,2),(7,2),(8,2),(9,2),(10,2)] zd8 kR ?_;refine yM I (pU I (nC I) (pU I (fA vn I sizeOf73 I) (pK I (qL (v:=.map (some mk)) isAgg73 I (cK hbs I)) (pK I (SQ.eq (v':=kV (min (max a (-1)) ((T.length:Int) - 1)) (max low (-1)) dim) (qV 0 isAgg177 sizeOf177 I I I) I) (SP.o I (SO.lookK (ik+1) hk I I (by unfold sml; omega) (by unfold sml; omega) (by unfold sml; omega)) dC (.inr iR) ?_)))));rintro _ _ _ ⟨⟨n0,b0,rfl,hn0⟩,rfl,rfl⟩;refine yM I (pU I (xT I I) (pU I (xT I I) (pU I (aS I) (pU I (aS I) (pN (tN (sW I (tZ ?_))))))));refine iQ I (fun hb0=>?_) (fun hb0=>?_)
 ·refine sW I (aT I (rE (tR ?_)));rw[hn0 hb0];refine dR (s':=s) uR ?_;exact za6 (.inl I) results86 I ⟨I,I,zb7 _⟩
 ·generalize min (max a (-1)) ((T.length:Int) - 1)=A at *;generalize max low (-1)=W at *;generalize B.filter (fun c=>decide (c.dim=dim - 1))=RR at *;generalize B.filter (fun c=>decide (c.dim=dim))=CC at *;refine kP (tN (rZ (lW (SO.mkMap) ?_)));rintro _ _ _ ⟨b53,rfl,rfl,rfl⟩;refine aT I (sQ (sW I (lU (nC I) (lU (fA vn I sizeOf72 I) (lK (qL (v:=.map (some mb)) isAgg72 I (cK hbs I)) (lM I (lU (sU I I oM) (lK (SQ.eq (v':=.slice rp rr.length rcap) (SQ.lookup mty72 I I (cB.known hmp)) hvr) (lU (eN aU I) (lM I (tZ (bK ?_))))))))))));refine oP (ι:=Nat) (fun k=>[(0,pp bs 0),(1,vi A),(2,vi W),(3,vi dim),(9,pp b9 0),(12,.map (some b53)),(60,.slice rp rr.length rcap),(61,vi rr.length),(62,vi k)]) (fun _=>g) (fun k=>mp b53 (atP ((RR.take k).filter fun c=>decide (gJ T.length c.id>W)))::pt b9 (.cells #[vi A,vi W,vi dim] 177 (0,0))::s) (fun k=>k≤rr.length) (fun k=>rr.length - k) 0 sB I I (zf2 _) ?_;rintro k hkk;refine rZ (yL I (tZ (sQ ?_)));refine iP I (fun hlt=>?_) (fun hlt=>?_)
  ·have hkr:k<rr.length:=oM;have hkl:k<RR.length:=oM;have hb1:=za4 hrr oM;have hgr:rr[((k:Nat):Int).toNat]?=some rr[k]:=gE hkr;have hR:=hallr.get (gE hkl) (gE hkr);have hsn:=sb hkl fun c=>decide (gJ T.length c.id>W);have hmem:=hRm _ (gM hkl);have hnew:∀ d∈(RR.take k).filter (fun c=>decide (gJ T.length c.id>W)),d.id≠RR[k].id:=fun d hd=>by
    obtain ⟨j,hj,rfl⟩:=List.mem_iff_getElem.1 (zg9.1 hd).1;rw[zd9] at hj;rw[List.getElem_take];have:=zc6.1 hRn j k (by rw[ze2]; omega) (by rw[ze2]; omega) oM;simpa using this
   have hput:=zA hnew;have hal:(atP ((RR.take k).filter fun c=>decide (gJ T.length c.id>W))).length=((RR.take k).filter fun c=>decide (gJ T.length c.id>W)).length:=by
    unfold atP;rw[ze2,List.length_zipIdx]
   generalize RR[k]=x at *;rw[← hR.1] at hmem hput;have hid:=hR.1;generalize rr[k]=r at *;refine kP (tN (sQ (bK (rZ (lU (iA aU aJ I I hb1 oM sL) (lK (eA gt aJ I (za5 hrr) hgr) (bW (aL zk9) fun b14=>?_)))))));refine oZ (sK 0 aJ I I I I I sB) (tZ (sQ ?_));refine dW [] [(0,2),(1,2),(2,2),(3,1),(4,2),(5,1),(7,2),(6,0),(8,2)] zd8 kR ?_;refine yM I (pU I (nC I) (pU I (fA vn I sizeOf66 I) (pK I (qL (v:=pp bc 0) isAgg66 I (cK hbs I)) (pU I (fA ar I zT3 I) (pK I (qL (v:=vi r.id) iT3 I (cO 0 I I)) (yM I (SP.o I (cL call132 I (nZ E g _ _ L T r.id hcov0 hT hmem.1 hmem.2)) dC (.inr iR) ?_)))))));rintro _ _ _ ⟨rfl,rfl,rfl⟩;refine pU I (gR I I) (pN (tN ?_));refine iP I (fun hdeg=>?_) (fun hdeg=>?_)
   ·rw[zf6 (by rw[← hid]; exact zf4 hdeg)] at hsn;rw[← hsn] at hput;refine rG (lM I (lU (fA ar I zT3 I) (lK (qL (v:=vi r.id) iT3 I (cO 0 I I)) (lM I (lK (SQ.eq (v':=vi ((RR.take k).filter fun c=>decide (gJ T.length c.id>W)).length) (SQ.lenMap underlying79 I (cB.own 1 I)) (by rw[hal])) ?_)))));refine lO (SO.mapUpdate 1 mty79 I I I I) ?_;rintro _ _ _ ⟨rfl,rfl⟩;rw[hput];refine nL (bN (tN (rG (yD I (lM I (nL (dR (.cons _ (.refl _)) ?_)))))));exact gA (k+1) sB I I oM oM
   ·rw[zf5 (by rw[← hid]; simpa using hdeg)] at hsn;refine kP (bN (tN (rG (yD I (lM I (nL (dR (.cons _ (.refl _)) ?_)))))));exact gA (k+1) sB I (by rw[hsn]) oM oM
  ·have hke:k=RR.length:=oM;subst hke;rw[List.take_length,← hrowsB];have hRw:((oC T.length B W (dim - 1)).map Cl.id).Nodup:=by
    rw[hrowsB];exact (List.filter_sublist.map _).nodup hRn
   have hRwl:(oC T.length B W (dim - 1)).length≤200:=by
    rw[hrowsB];exact zk3 (zc2 _ _) hcr
   generalize hRwd:oC T.length B W (dim - 1)=Rw at *;have hal:(atP Rw).length=Rw.length:=by unfold atP; rw[ze2,List.length_zipIdx]
   refine xI (tX (tX (bX (tN (rZ (aT I (rZ (aT I (sQ (sW I (lU (nC I) (lU (fA vn I sizeOf72 I) (lK (qL (v:=.map (some mb)) isAgg72 I (cK hbs I)) (lM I (lK (SQ.eq (v':=.slice cp rc.length ccap) (SQ.lookup mty72 I I (cB.known hmp)) hvc) (lU (eN aU I) (lM I (tZ (bK (zb4 25 1 ?_))))))))))))))))))));refine oP (ι:=PH×Nat×Value×List Sv) (fun z=>[(0,pp bs 0),(1,vi A),(9,pp b9 0),(12,.map (some b53)),(15,z.2.2.1),(16,vi z.2.2.2.length),(86,.slice cp rc.length ccap),(87,vi rc.length),(88,vi z.2.1)]) (fun z=>z.1) (fun z=>rowA encSv 25 z.2.2.1 z.2.2.2::mp b53 (atP Rw)::pt b9 (.cells #[vi A,vi W,vi dim] 177 (0,0))::s) (fun z=>Le g z.1∧z.2.1≤rc.length∧aI (bU z.1) (((CC.take z.2.1).filter fun c=>decide (gJ T.length c.id≤A)).map fun x=>Rw.map fun r=>fF x r) z.2.2.2) (fun z=>rc.length - z.2.1) (g,0,.slice none 0 0,[]) sB I I ⟨zb7 _,zf2 _,trivial⟩ ?_;rintro ⟨g2,k,colsv,svs⟩ ⟨hle2,hkk,hacc⟩;dsimp only at hle2 hkk hacc ⊢;have hsl:=hacc.length;rw[ze2] at hsl;have hfl:((CC.take k).filter fun c=>decide (gJ T.length c.id≤A)).length≤200:=zk3 (zc2 _ _) (by rw[zd9]; omega);refine rZ (yL I (tZ (sQ ?_)));refine iP I (fun hlt2=>?_) (fun hlt2=>?_)
   ·have hkr:k<rc.length:=oM;have hkl:k<CC.length:=oM;have hb1:=za4 hrc oM;have hgr:rc[((k:Nat):Int).toNat]?=some rc[k]:=gE hkr;have hR:=hallc.get (gE hkl) (gE hkr);have hsn:=sb hkl fun c=>decide (gJ T.length c.id≤A);obtain ⟨hxB,hx0,hx1⟩:=hCm _ (gM hkl);have hfm:=hB.rt.form _ hxB;have hx64:=mw hfm;generalize CC[k]=x at *;generalize rc[k]=r at *;obtain ⟨ri,rd,sp,sn,sc⟩:=r;obtain ⟨hid,hdd,hss⟩:=hR;dsimp only at hid hdd hss;have hsn2:sn=x.sides.length:=Sl.slen hss;subst hid hdd hsn2;refine kP (tN (sQ (bK (rZ (lU (iA aU aJ I I hb1 oM sL) (lK (eA gt aJ I (za5 (za3 hrc hle2)) hgr) (bW (aL zk9) fun b18=>?_)))))));refine oZ (sK 0 aJ I I I I I sB) (tZ (sQ (sQ ?_)));refine dW [] [(0,2),(1,2),(2,2),(3,1),(4,2),(5,1),(7,2),(6,0),(8,2)] zd8 kR ?_;refine yM I (pU I (nC I) (pU I (fA vn I sizeOf66 I) (pK I (qL (v:=pp bc 0) isAgg66 I (cK (hle2 _ _ hbs) I)) (pU I (fA ar I zT3 I) (pK I (qL (v:=vi x.id) iT3 I (cO 0 I I)) (yM I (SP.o I (cL call132 I (nZ E g2 _ _ L T x.id (hcov0.mono hle2) hT hx0 hx1)) dC (.inr iR) ?_)))))));rintro _ _ _ ⟨rfl,rfl,rfl⟩;refine pU I (gR I I) (pN (tN ?_));refine iP I (fun hdeg=>?_) (fun hdeg=>?_)
    ·rw[zf5 (by simp; omega)] at hsn;refine xI (tX (bX (tN (rG (yD I (lM I (nL (dR (.cons _ (.refl _)) ?_))))))));exact gA (g2,k+1,colsv,svs) sB I I ⟨hle2,by dsimp only; omega,by dsimp only; rw[hsn]; exact hacc⟩ (by dsimp only; omega)
    ·rw[zf6 (by simp; omega)] at hsn;refine kP (tN (sW I (yD I (aT I (sW I (lK (SQ.eq (v':=vi Rw.length) (SQ.lenMap underlying79 I (cB.own 2 I)) (by rw[hal])) ?_))))));refine lW (mK encInt 0 sty25 I I I oM oM) ?_;rintro _ _ _ ⟨bl,rfl,rfl,rfl⟩;refine aT I (sQ (rZ (lU (fA ar I cm I) (lK (qL (v:=.slice sp x.sides.length sc) dF I (cO 1 I I)) (lU (eN cG I) (lM I (tZ (bK ?_))))))));refine oP (ι:=Nat) (fun j=>[(0,pp bs 0),(1,vi A),(9,pp b9 0),(12,.map (some b53)),(15,colsv),(16,vi (svs.length+1:Nat)),(19,.slice (some ⟨bl,0,none⟩) Rw.length Rw.length),(86,.slice cp rc.length ccap),(87,vi rc.length),(88,vi k),(107,.slice sp x.sides.length sc),(108,vi x.sides.length),(109,vi j)]) (fun _=>g2) (fun j=>rowA encInt 3 (.slice (some ⟨bl,0,none⟩) Rw.length Rw.length) (Rw.map fun r=>mH (x.sides.take j) r.id)::pt b18 (.cells #[vi x.id,vi x.dim,.slice sp x.sides.length sc] 78 (0,0))::rowA encSv 25 colsv svs::mp b53 (atP Rw)::pt b9 (.cells #[vi A,vi W,vi dim] 177 (0,0))::s) (fun j=>j≤x.sides.length) (fun j=>x.sides.length - j) 0 sB I (by rw[show (Rw.map fun r=>mH (x.sides.take 0) r.id)=List.replicate Rw.length 0 from List.map_const']; rfl) (zf2 _) ?_;rintro j hj;refine rZ (yL I (tZ (sQ ?_)));refine iP I (fun hlt3=>?_) (fun hlt3=>?_)
     ·have hjl:j<x.sides.length:=oM;have hb2:=za4 hss oM;have hgj:x.sides[((j:Nat):Int).toNat]?=some x.sides[j]:=gE hjl;have htj:x.sides.take (j+1)=x.sides.take j++[x.sides[j]]:=tS hjl;have hprev:∀ y∈x.sides.take j,y.cell≠x.sides[j].cell:=fun y hy=>by
       obtain ⟨i,hi,rfl⟩:=List.mem_iff_getElem.1 hy;rw[zd9] at hi;rw[List.getElem_take];have:=zc6.1 hfm.asc i j oM hjl oM;omega
      generalize x.sides[j]=q at *
      rcases lm q.cell Rw 0 with ⟨h1,h2⟩ | ⟨cx,i,h1,h2,h3⟩
      ·refine kP (tN (sQ (bK (rZ (lU (iA cG bV I I hb2 oM sL) (lK (eA l5 bV I (za5 (za3 hss hle2)) hgj) (bW (aL zl1) fun b21=>?_)))))));refine oZ (sK 0 bV I I I I I sB) (tZ (sW I (lU (fA dp I zT3 I) (lK (qL (v:=vi q.cell) iT3 I (cO 0 I I)) (lK (SQ.eq (v':=.tuple #[vi 0,vb false]) (SQ.lookupOk mty79 I I (cB.own 4 I)) (by rw[show eU (atP Rw) q.cell=none from h1]; rfl)) ?_)))));refine lM I (yX I (yX I (lA I (aT I (sW I (tZ (cF I (kP (bN (tN (rG (yD I (lM I (nL ?_))))))))))))));have hst:(Rw.map fun r=>mH (x.sides.take (j+1)) r.id)=Rw.map fun r=>mH (x.sides.take j) r.id:=zc5 fun d hd=>by
        rw[htj,nk,zf5,Int.add_zero];intro e;unfold aM at h2;have:=List.find?_eq_none.1 h2 d hd;simp[e] at this
       refine dR (.cons _ (.refl _)) ?_;exact gA (j+1) sB I (by rw[hst]) oM oM
      ·have hci:=(c4 h1).2;have hil:=(zf1.1 h2).1;have hset:=xH hRw (fun r=>mH (x.sides.take j) r.id) (fun r=>mH (x.sides.take (j+1)) r.id) h2 q.sign (by
        show mH (x.sides.take (j+1)) cx.id=_;rw[htj,nk,zf6 hci.symm,Ed fun y hy e=>hprev y hy (by rw[e,hci]),Int.zero_add]) (fun d _ hd=>by
        show mH (x.sides.take (j+1)) d.id=_;rw[htj,nk,zf5 (fun e=>hd (by rw[← e,hci])),Int.add_zero])
       refine kP (tN (sQ (bK (rZ (lU (iA cG bV I I hb2 oM sL) (lK (eA l5 bV I (za5 (za3 hss hle2)) hgj) (bW (aL zl1) fun b21=>?_)))))));refine oZ (sK 0 bV I I I I I sB) (tZ (sW I (lU (fA dp I zT3 I) (lK (qL (v:=vi q.cell) iT3 I (cO 0 I I)) (lK (SQ.eq (v':=.tuple #[vi (i:Nat),vb true]) (SQ.lookupOk mty79 I I (cB.own 4 I)) (by rw[show eU (atP Rw) q.cell=some (vi (0+i:Nat)) from h3,Nat.zero_add]; rfl)) ?_)))));refine lM I (yX I (yX I (lA I (aT I (sW I (tZ (cT I (rG (lM I (lM I (lU (fA dp I zT3 I) (lK (qL (v:=vi q.sign) iT3 I (cO 0 I I)) (lU (SU.eq (v':=.pointer (some ⟨bl,0+i * 1,none⟩)) (iA aj zT3 I I I oM sL) I) (oZ (sT (e:=encInt) (a:=q.sign) (j:=i) 1 zT3 I I I (by rw[ze2]; exact hil) I) ?_))))))))))))));rw[hset];refine nL (bN (tN (rG (yD I (lM I (nL (dR (.cons _ (.refl _)) ?_)))))));exact gA (j+1) sB I I oM oM
     ·have hje:j=x.sides.length:=oM;subst hje;rw[List.take_length];refine fS fun g3 hle3 hs3=>?_;have hs3':bP g3 (.slice (some ⟨bl,0,none⟩) Rw.length Rw.length) (Rw.map fun r=>fF x r):=hs3;refine xI (tX (tX (bX (tN (rG (lM I (lM I (lW (bS sty22 I I I (ab ⟨I,trivial⟩) dC) ?_))))))));rintro _ _ _ ⟨b129,rfl,rfl,rfl⟩;refine lW (aP (e:=encSv) (l:=svs) 1 ⟨some ⟨bl,0,none⟩,Rw.length,Rw.length⟩ sty22 I I I I I oM oM) ?_;rintro v130 _ _ ⟨rfl,rfl⟩;refine lA I (nL (bN (tN (rG (yD I (lM I (nL (dR (.cons _ (.refl _)) ?_))))))));exact gA (g3,k+1,v130,svs++[⟨some ⟨bl,0,none⟩,Rw.length,Rw.length⟩]) ⟨I,I,I,I,I,by rw[ze1]; rfl,rfl,rfl,rfl,trivial⟩ rfl rfl ⟨hle2.trans hle3,by dsimp only; omega,by dsimp only; rw[hsn,zg1]; exact (hacc.mono fun _ _=>bU.mono hle3).append ⟨hs3',trivial⟩⟩ (by dsimp only; omega)
   ·have hke:k=CC.length:=oM;subst hke;rw[List.take_length,← hcolsB] at hacc hsl hfl;generalize hcw:lF T.length B A dim=cols at *;refine fS fun g3 hle3 hs3=>?_;have hLs:aG g3 colsv (cols.map fun x=>Rw.map fun r=>fF x r):=⟨svs,hs3,hacc.mono fun _ _=>bU.mono hle3⟩;have hle03:=hle2.trans hle3;have hfin:cH (rkP p) T.length B A W dim=(cols.length:Int) - (rkP p cols Rw:Int):=by
     unfold cH;rw[hcw,hRwd]
    have hbd:∀ r∈cols.map (fun x=>Rw.map fun r=>fF x r),∀ y∈r,y.natAbs≤1000000:=fun r hr y hy=>by
     obtain ⟨x,hx,rfl⟩:=ze7.1 hr;obtain ⟨c,-,rfl⟩:=ze7.1 hy;have hxc:x∈CC:=by
      rw[hcolsB] at hx;exact (zg9.1 hx).1
     have hf:=hB.rt.form x (hCm x hxc).1;have h1:=zm c.id hf.sg;have h2:=mw hf;show (mH x.sides c.id).natAbs≤_;omega
    have hrkb:=jw hp.fld (mx cols Rw fF) cols.length Rw.length;have hrkb2:rkP p cols Rw≤cols.length:=hrkb;refine xI (tX (tX (bX (tN (sW I (lM I (lU (nC I) (lU (fA vn I zT3 I) (lK (qL (v:=vi p) iT3 I (cK (hle03 _ _ hbs) I)) (lM I (lW (cL call133 I (Ce E g3 _ colsv p hp (cols.map fun x=>Rw.map fun r=>fF x r) (if cols=[] then 0 else Rw.length) hLs (by rw[ze2]; omega) (by split <;> omega) (fun r hr=>by obtain ⟨x,hx,rfl⟩:=ze7.1 hr; rw[ze2,zf5 (List.ne_nil_of_mem hx)]) (fun h=>zf6 (List.map_eq_nil_iff.1 h)) hbd)) ?_)))))))))));rintro v138 g4 _ ⟨rfl,hle4,MA,hMA,hMl,hMp,hMe⟩;refine lW (cL call31 I (pH E g4 _ v138 p hp _ _ (by rw[ze2]; omega) (by split <;> omega) MA hMl hMA hMp)) ?_;rintro _ g5 _ ⟨rfl,hle5,rfl⟩;rw[ze2] at hMe ⊢;rw[xm hp cols Rw MA _ rfl hMe];refine lU (SU.eq (v':=vi (cH (rkP p) T.length B A W dim)) (sU I I oM) (zd7 vi (by rw[hfin,hsl]))) ?_;refine aT I (sQ ?_);refine dW [6] [(0,2),(1,2),(2,2),(3,1),(4,1),(5,2),(6,0)] zd8 kR ?_;refine yM I (pU I (nC I) (pU I (fA vn I sizeOf73 I) (pK I (qL (v:=.map (some mk)) isAgg73 I (cK ((hle03.trans (hle4.trans hle5)) _ _ hbs) I)) (pK I (SQ.eq (v':=kV A W dim) (qV 1 isAgg177 sizeOf177 I I I) I) (yM I (SP.on I (SO.mapK (ik+2) hk I I I (by unfold sml; omega) (by unfold sml; omega) (by unfold sml; omega)) (.inl dC) ?_))))));rintro _ _ _ ⟨rfl,rfl⟩;refine pN (tN (sW I (aT I (rE (dR (s':=s) uR ?_)))));exact za6 (.inl I) results86 I ⟨I,I,hle03.trans (hle4.trans hle5)⟩
theorem vJ {p:Int}(hp:Fp p){n:Nat}{B:List Cl}(hB:Bok n B)(a low d:Int):(qM (rkP p) n B a low d).natAbs≤200:=by
 have key:∀ A W,(cH (rkP p) n B A W d).natAbs≤200:=fun A W=>by
  have h1:(lF n B A d).length≤200:=by
   rw[wz];exact zk3 (zc2 _ _) (hB.cnt d)
  have h2:rkP p (lF n B A d) (oC n B W (d - 1))≤(lF n B A d).length:=jw hp.fld _ _ _;unfold cH;omega
 exact key _ _
theorem uA (E:World)(g:PH)(s:Own)(v:Value)(L:List Cl)(T:List (List Int))(p:Int)(hp:Fp p)(B:List Cl)(mk ik:Nat)(r a b:Int)(hv:vm g v L T p B mk)(hB:Bok T.length B)(hT:T.length≤6)(hk:s[ik]?=some (knE mk fun a low dim=>cH (rkP p) T.length B a low dim))(hr:r.natAbs≤100)(ha:a.natAbs≤100)(hb:b.natAbs≤100) :
  Ctr Tryz.prog E 38 #[v,vi r,vi a,vi b] g s (fun x g' s'=>x=vi (tr (rkP p) T.length B r a b)∧s=s'∧Le g g'):=by
 have hbd:=vJ hp hB;have b1:=hbd a (a - r) (a+b);have b2:=hbd (a - 1) (a - r) (a+b);have b3:=hbd (a+r - 1) a (a+b+1);have b4:=hbd (a+r - 1) (a - 1) (a+b+1);refine za9 (args:=[v,vi r,vi a,vi b]) func38 I ntmps38 (bE I) ?_;refine rZ (aT I (sW I (lM I (yD I (aT I (sW I (lM I (lM I (lM I (lU (sU I I oM) (lM I (lW (cL call86 I (j8 E g s v L T p hp B mk ik a (a - r) (a+b) hv hB hT hk oM oM oM)) ?_))))))))))));rintro _ g1 _ ⟨rfl,rfl,hle1⟩;refine lM I (lM I (lU (sU I I oM) (lM I (lM I (lU (sU I I oM) (lM I (lW (cL call86 I (j8 E g1 s v L T p hp B mk ik (a - 1) (a - r) (a+b) (hv.mono hle1) hB hT hk oM oM oM)) ?_)))))));rintro _ g2 _ ⟨rfl,rfl,hle2⟩;refine lU (sU I I oM) (lM I (lM I (lM I (yD I (lU (sU I I oM) (lM I (lM I (yD I (lW (cL call86 I (j8 E g2 s v L T p hp B mk ik (a+r - 1) a (a+b+1) (hv.mono (hle1.trans hle2)) hB hT hk oM oM oM)) ?_)))))))));rintro _ g3 _ ⟨rfl,rfl,hle3⟩;refine lU (sU I I oM) (lM I (lM I (lM I (yD I (lU (sU I I oM) (lM I (lU (sU I I oM) (lM I (yD I (lW (cL call86 I (j8 E g3 s v L T p hp B mk ik (a+r - 1) (a - 1) (a+b+1) (hv.mono (hle1.trans (hle2.trans hle3))) hB hT hk oM oM oM)) ?_))))))))));rintro _ g4 _ ⟨rfl,rfl,hle4⟩;refine yD I (aT I (rE ?_));exact za6 (.inl I) results38 I ⟨I,I,hle1.trans (hle2.trans (hle3.trans hle4))⟩
theorem xR (E:World)(g:PH)(s:Own)(v u:Value)(P Q:List (List Int))(hv:aG g v P)(hu:aG g u Q)(hP:P.length<1099511627776)(hPl:∀ x∈P,x.length<1099511627776)(hQ:Q.length<1099511627776) :
  Ctr Tryz.prog E 40 #[v,u,.func (.func 41) #[] #[]] g s (fun r g' s'=>r=vb (decide (P=Q))∧g=g'∧s=s'):=by
 obtain ⟨rs,hrs,hallr⟩:=hv;obtain ⟨qs,hqs,hallq⟩:=hu;have hlr:=hallr.length;have hlq:=hallq.length;obtain ⟨rp,rc,rfl⟩:=za2 hrs;obtain ⟨qp,qc,rfl⟩:=za2 hqs;refine za9 (args:=[.slice rp rs.length rc,.slice qp qs.length qc,.func (.func 41) #[] #[]]) func40 I ntmps40 (bE I) ?_;refine rZ (aT I (sQ (sW I (lU (eN bA I) (lM I (lU (eN bA I) (lU (nQ I I) (tZ ?_))))))));refine iP I (fun hne=>?_) (fun hne=>?_)
 ·refine rZ (aT I (rE (tR ?_)));have h0:decide (P=Q)=false:=zf3 fun e=>hne (by rw[← hlr,← hlq,e]);exact za6 (.inl I) results40 I ⟨by rw[h0],I,I⟩
 ·have hlen:rs.length=qs.length:=oM;refine kP (tN (sQ (sW I (lU (eN bA I) (lM I (tZ (bK ?_)))))));refine oP (ι:=Nat) (fun k=>[(0,.slice rp rs.length rc),(1,.slice qp qs.length qc),(2,.func (.func 41) #[] #[]),(15,.slice rp rs.length rc),(16,vi rs.length),(17,vi k)]) (fun _=>g) (fun _=>s) (fun k=>k≤rs.length∧P.take k=Q.take k) (fun k=>rs.length - k) 0 sB I I ⟨zf2 _,I⟩ ?_;rintro k ⟨hk,heq⟩;refine rZ (yL I (tZ (sQ ?_)));refine iP I (fun hlt=>?_) (fun hlt=>?_)
  ·have hkr:k<rs.length:=oM;have hkq:k<qs.length:=oM;have hkP:k<P.length:=oM;have hkQ:k<Q.length:=oM;have hb1:=za4 hrs oM;have hb2:=za4 hqs oM;have hgr:rs[((k:Nat):Int).toNat]?=some rs[k]:=gE hkr;have hgq:qs[((k:Nat):Int).toNat]?=some qs[k]:=gE hkq;have hR:=hallr.get (gE hkP) (gE hkr);have hQ':=hallq.get (gE hkQ) (gE hkq);have h1:P.take (k+1)=P.take k++[P[k]]:=tS hkP;have h2:Q.take (k+1)=Q.take k++[Q[k]]:=tS hkQ;have hpl:=hPl _ (gM hkP);have hdiff:P[k]≠Q[k]→decide (P=Q)=false:=fun h=>zf3 fun e=>h (by subst e; rfl);generalize P[k]=x at *;generalize Q[k]=y at *;generalize rs[k]=r at *;generalize qs[k]=q at *;obtain ⟨ap,an,ac⟩:=r;obtain ⟨bp,bn,bc⟩:=q;refine kP (tN (sQ (bK (sW I (lU (iA bA bZ I I hb1 oM sL) (lK (eB (u:=.slice ap an ac) dh I (za5 hrs) hgr I) (lA I (aT I (sW I (lM I (lU (iA bA bZ I I hb2 oM sL) (lK (eB (u:=.slice bp bn bc) dh I (za5 hqs) hgq I) (aT I (sW I (lM I (lM I (lW (SO.callV I I (cz.mk (cap:=[]) call41 (se E g s (.slice ap an ac) (.slice bp bn bc) x y hR hQ' hpl))) ?_)))))))))))))))));rintro _ _ _ ⟨rfl,rfl,rfl⟩;refine lU (SU.notP I) (tZ ?_);refine iQ I (fun hxy=>?_) (fun hxy=>?_)
   ·have hxy':x≠y:=by simpa using hxy
    refine rZ (aT I (rE (bR (tR (tR (bR (tR ?_)))))));exact za6 (.inl I) results40 I ⟨by rw[hdiff hxy'],I,I⟩
   ·have hxy':x=y:=by simpa using hxy
    refine kP (bN (tN (rG (yD I (lM I (nL ?_))))));exact gA (k+1) sB I I ⟨oM,by rw[h1,h2,heq,hxy']⟩ oM
  ·have hkk:k=rs.length:=oM;subst hkk;rw[tL oM,tL oM] at heq;refine xI (tX (tX (bX (tN (rZ (aT I (rE ?_)))))));have h0:decide (P=Q)=true:=zf4 heq;exact za6 (.inl I) results40 I ⟨by rw[h0],I,I⟩
theorem s6 (E:World)(g:PH)(s:Own)(v u:Value)(P Q:List (List Int))(hv:aG g v P)(hu:aG g u Q)(hP:P.length<1099511627776)(hPl:∀ x∈P,x.length<1099511627776)(hQ:Q.length<1099511627776) :
  Ctr Tryz.prog E 39 #[v,u] g s (fun r g' s'=>r=vb (decide (P=Q))∧g=g'∧s=s'):=by
 refine za9 (args:=[v,u]) func39 I ntmps39 (bE I) ?_;refine rZ (aT I (sW I (lM I (lW (cL call40 I (xR E g s v u P Q hv hu hP hPl hQ)) ?_))));rintro _ _ _ ⟨rfl,rfl,rfl⟩;refine aT I (rE ?_);exact za6 (.inl I) results39 I ⟨I,I,I⟩
def Pgs (g:PH)(v:Value)(P:List (List (List Int))):Prop:=∃ rs,SlA encSv g v rs∧aI (fun (Q:List (List Int)) (r:Sv)=>aG g (.slice r.p r.n r.c) Q) P rs
theorem Pgs.mono {g g':PH}{v:Value}{P:List (List (List Int))}(h:Pgs g v P)(hl:Le g g'):Pgs g' v P:=by
 obtain ⟨rs,h1,h2⟩:=h;exact⟨rs,za3 h1 hl,h2.mono fun _ _ h=>h.mono hl⟩
theorem Pgs.nil (g:PH):Pgs g (.slice none 0 0) []:=⟨[],zb8 g _,trivial⟩
theorem zG {α:Type}[DecidableEq α]{P:List α}{n:Nat}(h1:1<n)(hn:n≤P.length):iS (P.take n)=if P[n - 1]'oM=P[n - 2]'oM then iS (P.take (n - 1)) else P.take n:=by
 have e1:P.take n=P.take (n - 2)++[P[n - 2]'oM]++[P[n - 1]'oM]:=by
  have a1:=tS (l:=P) (i:=n - 1) oM;have a2:=tS (l:=P) (i:=n - 2) oM;rw[show n - 2+1=n - 1 by omega] at a2;rw[show n - 1+1=n by omega] at a1;rw[a1,a2]
 have e2:P.take (n - 1)=P.take (n - 2)++[P[n - 2]'oM]:=by
  have a2:=tS (l:=P) (i:=n - 2) oM;rwa [show n - 2+1=n - 1 by omega] at a2
 rw[e1,e2];generalize P.take (n - 2)=q;generalize P[n - 2]'oM=a;generalize P[n - 1]'oM=b;unfold iS;rw[List.reverse_append,List.reverse_append];show (oA (b::a::q.reverse)).reverse=if b=a then (oA (a::q.reverse)).reverse else q++[a]++[b]
 conv=>lhs; unfold oA
 split
 ·rfl
 ·simp
theorem Bf {α:Type}[DecidableEq α]{P:List α}{n:Nat}(h:¬ 1<n):iS (P.take n)=P.take n:=by
 have hl:(P.take n).length≤1:=by rw[zd9]; omega
 generalize P.take n=q at hl
 match q,hl with
 | [],_=>rfl
 | [a],_=>rfl
theorem zy {L:List Cl}(hL:Rt L){T:List (List Int)}(hT:T.length≤6):∀ c∈cj L T,c.id<4611686018427387904:=fun z hz=>by
 obtain ⟨d,hd,rfl⟩:=ze7.1 hz;have hd:=(cN _ _).1 hd;rw[tD] at hd;obtain ⟨c,hc,s,hs,rfl⟩:=(m9 hL).1 hd;have h1:=sub_le (cM.1 hs).2;have h2:=EF L c.id hT;have h3:=(zf1.1 (hL.ix_get hc)).1;have h4:=hL.few;have h5:=C6 (i:=ixB L c.id) (s:=s) hT oM oM;show bId T.length (ixB L c.id) s<_;omega
theorem zo {l:List Cl}(h:(aW l).2=0) : -1≤oL l∧oL l≤8:=by
 have hr:=lC h;have ht:ae l=aa l:=a8 hr.asc;have key:∀ (q:List Cl) (m:Int),(∀ c∈q,c.dim≤8) → -1≤m→m≤8 → -1≤lX q m∧lX q m≤8:=by
  intro q;induction q with
  | nil=>exact fun m _ h1 h2=>⟨h1,h2⟩
  | cons c q ih =>
   intro m hq h1 h2;have hc:=hq c (by simp);exact ih (max m c.dim) (fun d hd=>hq d (by simp[hd])) oM oM
 unfold oL;rw[ht];exact key _ _ (fun c hc=>(hr.form c hc).dim.2) dC dC
theorem y8 {B:List Cl}{c:Cl}(hc:c∈B)(h:200<(B.filter fun x=>decide (x.dim=c.dim)).length):qN B=true:=zj3.2 ⟨c,hc,zf4 h⟩
theorem y9 {B:List Cl}(h:∀ d:Int,(B.filter fun x=>decide (x.dim=d)).length≤200):qN B=false:=by
 rw[Bool.eq_false_iff];intro k;obtain ⟨c,hc,h2⟩:=zj3.1 k;have:=h c.dim;simp at h2;omega
theorem Tryz.build75 (b mb mk:Nat)(p:Int)(w:World):(Instr.build 75 #[(0,pp b 0),(1,vi p),(2,.map (some mb)),(3,.map (some mk))]).run Tryz.prog w = .ok (.agg #[pp b 0,vi p,.map (some mb),.map (some mk)]) w:=by
 have h1:∀ n,(vi n).cells = #[vi n]:=fun _=>rfl;have h2:(pp b 0).cells = #[pp b 0]:=rfl;have h3:∀ m:Nat,(Value.map (some m)).cells = #[.map (some m)]:=fun _=>rfl;simp[Instr.build,Instr.fill,h1,h2,h3];rfl
theorem rP {rf:List Cl→List Cl→Nat}{n:Nat}{B:List Cl}{D:Nat}{r:Int}:(uy rf n B D r).length=n:=by
 unfold uy;rw[ze2,zh9]
theorem kW {α:Type}(f:Nat→α)(k:Nat):(List.range (k+1)).map f=(List.range k).map f++[f k]:=by
 rw[List.range_succ,zg1];rfl
theorem Dz {ms:Mk}{j:Nat}{k:Int}{v:Value}{l:List Rc}(h:ms[j]?=some (k,v,l)){hd:Own}(s:Own){x:Ent}(hh:hd.length=6):((hd++(eZ ms++s)).set (j+6) x)[j+6]?=some x:=by
 have hj:=(zf1.1 h).1;rw[List.getElem?_set_self];simp only[ze1,eZ,ze2];omega
theorem px {rf:List Cl→List Cl→Nat}{n:Nat}{B:List Cl}{D:Nat}:(jH rf n B D).length=n:=by
 unfold jH;rw[ze2,zh9]
theorem s8 {rf:List Cl→List Cl→Nat}{n:Nat}{B:List Cl}{D:Nat}:∀ Q∈jH rf n B D,Q.length=n∧∀ x∈Q,x.length=D:=fun Q h=>by
 obtain ⟨r,-,rfl⟩:=ze7.1 h;refine⟨rP,fun x hx=>?_⟩;obtain ⟨a,-,rfl⟩:=ze7.1 hx;rw[ze2,zh9]
theorem Tryz.sty40:STy Tryz.prog 40 22 1 24 (.slice none 0 0):=⟨underlying40,⟨t22,by kernel_rfl,by kernel_rfl,by kernel_rfl,by kernel_rfl⟩,rfl,by decide⟩
theorem kY (E:World)(hE:E.drawn=0)(g:PH)(s:Own)(v tv:Value)(l:List Cl)(T:List (List Int))(p:Int)(hv:aq g v l)(hf:dd l)(hw:∀ c∈l,iU c.id)(ht:aG g tv T)(hT:T.length<1099511627776)(hTl:∀ t∈T,t.length<1099511627776)(hp2:2≤p)(hp9:p<9) :
  Ctr Tryz.prog E 13 #[.agg #[v],tv,vi p] g s (fun x g' s'=>s=s'∧Le g g'∧∃ u,x = .tuple #[u,vi (de l T p)]∧Pgs g' u (cD l T p)):=by
 obtain ⟨vp,vc,rfl⟩:=hv.form;have hnone:de l T p≠0→cD l T p=[]:=fun h=>by unfold cD; rw[zf6 h]
 refine za9 (args:=[.agg #[.slice vp l.length vc],tv,vi p]) func13 I ntmps13 (bE I) ?_;refine rZ (bW (bO I) fun b3=>?_);refine lA I (aT I (sQ (sW I (lW (cL call26 I (kX E g _ p hp2 hp9)) ?_))));rintro _ _ _ ⟨rfl,rfl,rfl⟩;refine lU (SU.not I) (tZ ?_);refine iQ I (fun hpr=>?_) (fun hpr=>?_)
 ·have hpr:fu p=false:=by simpa using hpr
  refine rZ (lA I (aT I (rE (tR ?_))));have he:de l T p=46:=by unfold de; rw[zf6 hpr]
  refine dR (s':=s) uR ?_;exact ST.ret2 (.inl I) results13 I I ⟨I,zb7 g,_,by rw[he],by rw[hnone (by rw[he]; decide)]; exact Pgs.nil g⟩
 ·have hpr:fu p=true:=by simpa using hpr
  have hp:=fj.1 hpr;refine kP (tN (rZ (lK (qV 0 be ax I I I) (lM I (lW (cL call35 I (m6 E hE g _ _ tv l T hv hf hw ht hT hTl)) ?_)))));rintro _ g1 _ ⟨rfl,hle1,pv,rfl,hcov⟩;refine lM I (yX I (yX I (lA I (aT I (sQ (sW I (lU (nQ I I) (tZ ?_))))))));refine iP I (fun hop=>?_) (fun hop=>?_)
  ·refine sW I (lA I (aT I (rE (tR ?_))));have he:de l T p=ep l T:=by unfold de; rw[zf5 (by rw[hpr]; simp),zf6 hop]
   refine dR (s':=s) uR ?_;exact ST.ret2 (.inl I) results13 I I ⟨I,hle1,_,by rw[he]; rfl,by rw[hnone (by rw[he]; exact hop)]; exact Pgs.nil _⟩
  ·have hop0:ep l T=0:=zg5 hop;have hcov:=hcov hop0;obtain ⟨hok,hT6⟩:=jP hop0;have hRt:=lC hok;have hLt:ae l=aa l:=a8 hRt.asc;have hRt:Rt (ae l):=by rw[hLt]; exact hRt
   have hBf:=ck (nr hRt hT6);have hBlt:=zy hRt hT6;have hdim:=zo hok;refine kP (tN (sW I (lW (cL call36 I (ob E g1 _ pv (ae l) T hcov hRt hT6)) ?_)));rintro _ g2 _ ⟨rfl,hle2,u,rfl,hu⟩;obtain ⟨up,uc,rfl⟩:=hu.form;refine bW (aL zk6) fun b10=>?_;refine oZ (sK 0 ax I I I I I ⟨I,trivial⟩) (tZ (sQ (rZ (lK (qV 0 be ax I I I) (lW (cL call37 I (jr E g2 _ _ (cj (ae l) T) hu hBf)) ?_)))));rintro _ _ _ ⟨rfl,rfl,rfl⟩;refine lM I (yX I (yX I (lA I (aT I (sW I (lU (nQ I I) (tZ ?_)))))));refine iP I (fun hbl=>?_) (fun hbl=>?_)
   ·refine rZ (lA I (aT I (rE (tR ?_))));have he:de l T p=2:=by unfold de; rw[zf5 (by rw[hpr]; simp),zf5 hop,zf6 (.inl hbl)]
    refine dR (s':=s) uR ?_;exact ST.ret2 (.inl I) results13 I I ⟨I,hle1.trans hle2,_,by rw[he],by rw[hnone (by rw[he]; decide)]; exact Pgs.nil _⟩
   ·have hBR:Rt (cj (ae l) T):=by
     have:=lC (zg5 hbl);unfold cj at this ⊢;rwa [fy] at this
    generalize hBd:cj (ae l) T=B at *;obtain ⟨us,hus,hallu⟩:=hu;have hul:=hallu.length;obtain ⟨bc,mc,cv,iv,rfl,hbc,-⟩:=id hcov;refine kP (tN (sW I (lM I (lW (SO.mkMap) ?_))));rintro _ _ _ ⟨b46,rfl,rfl,rfl⟩;refine lW (SO.mkKn (F:=fun a low dim=>cH (rkP p) T.length B a low dim)) ?_;rintro _ _ _ ⟨b47,rfl,rfl,rfl⟩;refine lU (za1 I (build75 _ _ _ _)) (bW (bO I) fun b49=>?_);refine aT I (sQ (rZ (lU (fA eK I dJ I) (lK (qL (v:=.slice up B.length uc) fQ I (cO 3 I I)) (lU (eN aU I) (lM I (tZ (bK ?_))))))));refine oP (ι:=Nat×Mk) (fun z=>[(3,pp b3 0),(8,pp bc 0),(10,pp b10 0),(13,pp b49 0),(51,.slice up B.length uc),(52,vi B.length),(53,vi z.1)]) (fun _=>g2) (fun z=>pt b49 (.cells #[pp bc 0,vi p,.map (some b46),.map (some b47)] 75 (0,0))::knE b47 (fun a low dim=>cH (rkP p) T.length B a low dim)::mp b46 (oh z.2)::pt b10 (.cells #[.slice up B.length uc] 30 (0,0))::pt b3 (.cells #[.slice vp l.length vc] 30 (0,0))::(eZ z.2++s)) (fun z=>z.1≤us.length∧(∀ d,mG (oN z.2) d=(us.take z.1).filter fun r=>decide (r.dim=d))∧∀ d:Int,((us.take z.1).filter fun r=>decide (r.dim=d)).length≤200) (fun z=>us.length - z.1) (0,[]) sB I I ⟨zf2 _,fun _=>I,fun _=>by simp⟩ ?_;rintro ⟨k,ms⟩ ⟨hk,hcon,hcnt⟩;dsimp only at hk hcon hcnt ⊢;refine rZ (yL I (tZ (sQ ?_)));refine iP I (fun hlt=>?_) (fun hlt=>?_)
    ·have hkr:k<us.length:=oM;have hkB:k<B.length:=oM;have hb1:=za4 hus oM;have hgr:us[((k:Nat):Int).toNat]?=some us[k]:=gE hkr;have hsn:=Az hkr;have hR:=hallu.get (gE hkB) (gE hkr);have hmB:B[k]∈B:=gM hkB;have hfB:=(mE hallu B[k].dim).length;have hsub:∀ d:Int,((us.take (k+1)).filter fun r=>decide (r.dim=d)).length≤(us.filter fun r=>decide (r.dim=d)).length:=fun d=>((List.take_sublist _ _).filter _).length_le;have hlB:=hBR.few;generalize us[k]=x at *;generalize B[k]=y at *;obtain ⟨xi,xd,xp,xn,xc⟩:=x;obtain ⟨-,hyd,-⟩:=hR;dsimp only at hyd hsn;obtain ⟨ms1,j0,v0,l0,hp0,hp1,hp2,hp3,hp4,-,hp5⟩:=Fi ms xd;have hl0:l0.length≤200:=by rw[← hp0,hcon]; exact hcnt _
     have hl1:((us.take (k+1)).filter fun r=>decide (r.dim=xd))=l0++[⟨xi,xd,⟨xp,xn,xc⟩⟩]:=by rw[hsn,zf6 rfl,← hp0,hcon]
     refine kP (tN (sQ (bK (rZ (lU (iA aU aJ I I hb1 oM sL) (lK (eA gt aJ I (za5 hus) hgr) (bW (aL zk9) fun b15=>?_)))))));refine oZ (sK 0 aJ I I I I I sB) (tZ (sQ ?_));refine SC.to (fun w hw=>hp5 E g2 [pt b15 (.cells #[vi xi,vi xd,.slice xp xn xc] 78 (0,0)),pt b49 (.cells #[pp bc 0,vi p,.map (some b46),.map (some b47)] 75 (0,0)),knE b47 (fun a low dim=>cH (rkP p) T.length B a low dim),mp b46 (oh ms),pt b10 (.cells #[.slice up B.length uc] 30 (0,0)),pt b3 (.cells #[.slice vp l.length vc] 30 (0,0))] s w hw) ?_;refine SC.drawT 6 [16] [(0,2),(1,2),(2,2),(3,1),(4,2),(5,1),(6,2),(7,2),(8,2),(9,1),(10,2),(11,1),(12,1),(13,1),(14,0),(15,0),(16,0)] zd8 kR ?_;refine yM rfl (pU rfl (nC rfl) (pU rfl (fA vn rfl sizeOf72 rfl) (pK rfl (qL (v:=.map (some b46)) isAgg72 rfl (cO 1 rfl rfl)) (pU rfl (fA ar rfl zT3 rfl) (pK rfl (qL (v:=vi xd) iT3 rfl (cO 0 rfl rfl)) (yM rfl (pU rfl (nC rfl) (pU rfl (fA vn rfl sizeOf72 rfl) (pK rfl (qL (v:=.map (some b46)) isAgg72 rfl (cO 1 rfl rfl)) (pU rfl (fA ar rfl zT3 rfl) (pK rfl (qL (v:=vi xd) iT3 rfl (cO 0 rfl rfl)) (pK rfl (SQ.eq (v':=v0) (SQ.lookup mty72 rfl rfl (cB.own 3 rfl)) hp2) (pK rfl (qV 0 gt aJ rfl rfl rfl) (SP.o rfl (bS sty28 rfl rfl rfl (ab ⟨rfl,trivial⟩) dC) dC (.inr (by rintro _ _ _ ⟨b71,rfl,rfl,rfl⟩; exact⟨by exact zb7 _,(by exact .cons _ (List.take_sublist _ _))⟩)) ?_))))))))))))));rintro _ _ _ ⟨b71,rfl,rfl,rfl⟩;refine SP.o rfl (aP (e:=encCell) (l:=l0) (j0+6) ⟨xi,xd,⟨xp,xn,xc⟩⟩ sty28 rfl rfl rfl (zU hp1 s) rfl oM oM) dC (.inr (by rintro v72 _ _ ⟨rfl,rfl⟩; exact⟨by exact zb7 _,(by exact fI _ _ _ _)⟩)) ?_;rintro v72 _ _ ⟨rfl,rfl⟩;refine zc9 fun ⟨w0,hw0⟩=>?_;obtain ⟨q72,d72,rfl⟩:=ag (e:=encCell) (l:=l0++[⟨xi,xd,⟨xp,xn,xc⟩⟩]) (i:=j0+6) hw0 (Dz hp1 s rfl);clear hw0 w0;refine SP.on I (SO.mapUpdate 3 mty72 I I I I) (.inl dC) ?_;rintro _ _ _ ⟨rfl,rfl⟩;refine pN (tN (sQ (SC.drop (s':=pt b15 (.cells #[vi xi,vi xd,.slice xp xn xc] 78 (0,0))::pt b49 (.cells #[pp bc 0,vi p,.map (some b46),.map (some b47)] 75 (0,0))::knE b47 (fun a low dim=>cH (rkP p) T.length B a low dim)::mp b46 (oh (ms1.set j0 (xd,Value.slice q72 (l0++[(⟨xi,xd,⟨xp,xn,xc⟩⟩:Rc)]).length d72,l0++[(⟨xi,xd,⟨xp,xn,xc⟩⟩:Rc)])))::pt b10 (.cells #[.slice up B.length uc] 30 (0,0))::pt b3 (.cells #[.slice vp l.length vc] 30 (0,0))::(eZ (ms1.set j0 (xd,Value.slice q72 (l0++[(⟨xi,xd,⟨xp,xn,xc⟩⟩:Rc)]).length d72,l0++[(⟨xi,xd,⟨xp,xn,xc⟩⟩:Rc)]))++s)) (by rw[← hp3,← zT hp1 s]; exact .refl _) ?_)));refine dW [] [(0,2),(1,2),(2,2),(3,1),(4,2),(5,1),(6,1),(7,2),(8,2)] zd8 kR ?_;refine yM I (pU I (nC I) (pU I (fA vn I sizeOf72 I) (pK I (qL (v:=.map (some b46)) isAgg72 I (cO 1 I I)) (pU I (fA ar I zT3 I) (pK I (qL (v:=vi xd) iT3 I (cO 0 I I)) (pK I (SQ.eq (v':=Value.slice q72 (l0++[(⟨xi,xd,⟨xp,xn,xc⟩⟩:Rc)]).length d72) (SQ.lookup mty72 I I (cB.own 3 I)) (by rw[← hp3,rR,zf6 I]; rfl)) ?_))))));refine pU I (eN aU I) (pU I (gR I I) (pN (tN ?_)));refine iP I (fun hbig=>?_) (fun hbig=>?_)
     ·have hmany:qN B=true:=y8 hmB (by
       rw[hfB,← hyd];have:=hsub xd;rw[hl1] at this;omega)
      have he:de l T p=2:=by unfold de; rw[zf5 (by rw[hpr]; simp),zf5 hop,hBd,zf6 (.inr hmany)]
      refine rZ (lA I (aT I (rE (bR (tR (tR (bR (tR (dR (s':=s) (.cons _ (.cons _ (.cons _ (.cons _ (.cons _ (.cons _ (List.sublist_append_right _ _))))))) ?_)))))))));exact ST.ret2 (.inl I) results13 I I ⟨I,hle1.trans hle2,_,by rw[he],by rw[hnone (by rw[he]; decide)]; exact Pgs.nil _⟩
     ·refine kP (bN (tN (rG (yD I (lM I (nL (dR (.cons _ (.refl _)) ?_)))))));exact gA (k+1,(ms1.set j0 (xd,Value.slice q72 (l0++[(⟨xi,xd,⟨xp,xn,xc⟩⟩:Rc)]).length d72,l0++[(⟨xi,xd,⟨xp,xn,xc⟩⟩:Rc)]))) sB I I ⟨by dsimp only; omega,fun d=>by
       dsimp only;rw[hp4,wk,hcon,hcon,hsn];by_cases e:d=xd
       ·subst e; rfl
       ·rw[zf5 e,zf5 e],fun d=>by
       dsimp only;by_cases e:d=xd
       ·rw[e,hl1]; omega
       ·rw[hsn,zf5 e]; exact hcnt d⟩ (by dsimp only; omega)
    ·have hke:k=us.length:=oM;subst hke;rw[List.take_length] at hcon hcnt;refine xI (tX (tX (bX (tN (sQ (SC.freeze fun g3 hl3 hb49=>?_))))));refine cP (s':=mp b46 (oh ms)::pt b10 (.cells #[.slice up B.length uc] 30 (0,0))::pt b3 (.cells #[.slice vp l.length vc] 30 (0,0))::(eZ ms++knE b47 (fun a low dim=>cH (rkP p) T.length B a low dim)::s)) (List.perm_middle (a:=knE b47 (fun a low dim=>cH (rkP p) T.length B a low dim)) (l₁:=mp b46 (oh ms)::pt b10 (.cells #[.slice up B.length uc] 30 (0,0))::pt b3 (.cells #[.slice vp l.length vc] 30 (0,0))::eZ ms) (l₂:=s)).symm ?_;refine SC.freezeMap fun g4 hl4 hmp=>?_;refine SC.freeze fun g5 hl5 hb10=>?_;refine SC.freeze fun g6 hl6 hb3=>?_;refine SC.freezeKs fun g7 hl7 hks=>?_;refine rG (aT I (sQ (sW I (lU (nC I) (lU (fA og I zT3 I) (lK (qL (v:=vi T.length) iT3 I (cK ((hle2.trans (hl3.trans (hl4.trans (hl5.trans (hl6.trans hl7))))) _ _ hbc) I)) (lM I (tZ (bK ?_)))))))));have hcnt':∀ d:Int,(B.filter fun c=>decide (c.dim=d)).length≤200:=fun d=>by
      rw[(mE hallu d).length];exact hcnt d
     have hno:qN B=false:=y9 hcnt';have hl57:=hl5.trans (hl6.trans hl7);have hl37:=hl4.trans hl57;have hl27:=hl3.trans hl37;have hspec:vm g7 (pp b49 0) (ae l) T p B b47:=⟨b49,b46,pp bc 0,rfl,hl37 _ _ hb49,hcov.mono (hle2.trans hl27),E7 (hmp.mono hl57) hks (hallu.mono fun _ _=>aw.mono hl27) hcon⟩;have hbc7:=(hle2.trans hl27) _ _ hbc;have hb37:=hl7 _ _ hb3;have hv7:=hv.mono (hle1.trans (hle2.trans hl27));have hBok:Bok T.length B:=⟨hBR,hBlt,hcnt'⟩;have hD:oL l+1=((dimN l:Nat):Int):=by unfold dimN oL at *; omega
     have hD9:dimN l≤9:=oM;have he:de l T p=0:=by unfold de; rw[zf5 (by rw[hpr]; simp),zf5 hop,hBd,zf5]; rw[hno]; rintro (h | h); exact hbl h; cases h
     have hC:cD l T p=iS (jH (rkP p) T.length B (dimN l)):=by unfold cD; rw[zf5 (by rw[he]; simp),hBd]
     generalize dimN l=D at *;refine zb4 22 1 ?_;refine oP (ι:=PH×Nat×Value×List Sv) (fun z=>[(3,pp b3 0),(8,pp bc 0),(13,pp b49 0),(16,z.2.2.1),(86,vi T.length),(87,vi z.2.1)]) (fun z=>z.1) (fun z=>rowA encSv 22 z.2.2.1 z.2.2.2::knE b47 (fun a low dim=>cH (rkP p) T.length B a low dim)::s) (fun z=>Le g7 z.1∧z.2.1≤T.length∧aI (fun (Q:List (List Int)) (r:Sv)=>aG z.1 (.slice r.p r.n r.c) Q) ((List.range z.2.1).map fun r:Nat=>uy (rkP p) T.length B D ((r:Int)+1)) z.2.2.2) (fun z=>T.length - z.2.1) (g7,0,.slice none 0 0,[]) sB I I ⟨zb7 _,zf2 _,trivial⟩ ?_;rintro ⟨g8,k2,ov,os⟩ ⟨hle8,hk2,hacc⟩;dsimp only at hle8 hk2 hacc ⊢;have hol:=hacc.length;rw[ze2,zh9] at hol;refine rZ (yL I (tZ (sQ ?_)));refine iP I (fun hlt=>?_) (fun hlt=>?_)
     ·refine kP (tN (sQ (bK (sW I (aT I (rZ (aT I (sQ (sW I (lU (nC I) (lU (fA og I zT3 I) (lK (qL (v:=vi T.length) iT3 I (cK (hle8 _ _ hbc7) I)) (lM I (tZ (bK (zb4 25 1 ?_))))))))))))))));refine oP (ι:=PH×Nat×Value×List Sv) (fun z=>[(3,pp b3 0),(8,pp bc 0),(13,pp b49 0),(16,ov),(17,vi k2),(18,z.2.2.1),(86,vi T.length),(87,vi k2),(93,vi T.length),(94,vi z.2.1)]) (fun z=>z.1) (fun z=>rowA encSv 25 z.2.2.1 z.2.2.2::rowA encSv 22 ov os::knE b47 (fun a low dim=>cH (rkP p) T.length B a low dim)::s) (fun z=>Le g8 z.1∧z.2.1≤T.length∧aI (bU z.1) ((List.range z.2.1).map fun a:Nat=>(List.range D).map fun b:Nat=>tr (rkP p) T.length B ((k2:Int)+1) a b) z.2.2.2) (fun z=>T.length - z.2.1) (g8,0,.slice none 0 0,[]) sB I I ⟨zb7 _,zf2 _,trivial⟩ ?_;rintro ⟨g9,k3,pv,ps⟩ ⟨hle9,hk3,hac2⟩;dsimp only at hle9 hk3 hac2 ⊢;have hpl:=hac2.length;rw[ze2,zh9] at hpl;have hle79:=hle8.trans hle9;refine rZ (yL I (tZ (sQ ?_)));refine iP I (fun hlt3=>?_) (fun hlt3=>?_)
      ·refine kP (tN (sQ (bK (sW I (aT I (rZ (aT I (sQ (rZ (lK (SQ.loadOne be ax I (cK (hle79 _ _ hb37) I)) (lW (cL call14 I (i5 E g9 _ (.slice vp l.length vc) l (hv7.mono hle79) hf)) ?_)))))))))));rintro _ g10 _ ⟨rfl,rfl,hle10⟩;refine lU (SU.eq (v':=vi D) (aD I I oM) (zd7 vi hD)) (lM I (tZ (bK (zb4 3 1 ?_))));refine oP (ι:=PH×Nat×Value) (fun z=>[(3,pp b3 0),(8,pp bc 0),(13,pp b49 0),(16,ov),(17,vi k2),(18,pv),(19,vi k3),(20,z.2.2),(86,vi T.length),(87,vi k2),(93,vi T.length),(94,vi k3),(99,vi D),(100,vi z.2.1)]) (fun z=>z.1) (fun z=>rowA encInt 3 z.2.2 ((List.range z.2.1).map fun b:Nat=>tr (rkP p) T.length B ((k2:Int)+1) k3 b)::rowA encSv 25 pv ps::rowA encSv 22 ov os::knE b47 (fun a low dim=>cH (rkP p) T.length B a low dim)::s) (fun z=>Le g10 z.1∧z.2.1≤D) (fun z=>D - z.2.1) (g10,0,.slice none 0 0) sB I I ⟨zb7 _,zf2 _⟩ ?_;rintro ⟨g11,k4,iv⟩ ⟨hle11,hk4⟩;dsimp only at hle11 hk4 ⊢;have hle711:=hle79.trans (hle10.trans hle11);have hil:((List.range k4).map fun b:Nat=>tr (rkP p) T.length B ((k2:Int)+1) k3 b).length=k4:=by rw[ze2,zh9]
       refine rZ (yL I (tZ (sQ ?_)));refine iP I (fun hlt4=>?_) (fun hlt4=>?_)
       ·refine kP (tN (sQ (bK (sW I (aT I (rG (lM I (lM I (lM I (yD I (lM I (lM I (lW (cL call38 I (uA E g11 _ (pp b49 0) (ae l) T p hp B b47 3 ((k2:Int)+1) k3 k4 (hspec.mono hle711) hBok hT6 I oM oM oM)) ?_)))))))))))));rintro _ g12 _ ⟨rfl,rfl,hle12⟩;refine lW (bS sty25 I I I (ab ⟨I,trivial⟩) dC) ?_;rintro _ _ _ ⟨b110,rfl,rfl,rfl⟩;refine lW (aP (e:=encInt) (l:=(List.range k4).map fun b:Nat=>tr (rkP p) T.length B ((k2:Int)+1) k3 b) 0 (tr (rkP p) T.length B ((k2:Int)+1) k3 k4) sty25 I I I I I oM oM) ?_;rintro v111 _ _ ⟨rfl,rfl⟩;refine lA I (nL (bN (tN (rG (yD I (lM I (nL ?_)))))));exact gA (g12,k4+1,v111) sB I (by dsimp only; rw[kW]; rfl) ⟨hle11.trans hle12,by dsimp only; omega⟩ (by dsimp only; omega)
       ·have hke4:k4=D:=oM;subst hke4;refine fS fun g12 hle12 hs12=>?_;obtain ⟨q12,c12,rfl⟩:=Sl.form hs12;rw[hil] at hs12 ⊢;refine xI (tX (tX (bX (tN (rG (lM I (lM I (lW (bS sty22 I I I (ab ⟨I,trivial⟩) dC) ?_))))))));rintro _ _ _ ⟨b115,rfl,rfl,rfl⟩;refine lW (aP (e:=encSv) (l:=ps) 0 ⟨q12,k4,c12⟩ sty22 I I I I I oM oM) ?_;rintro v116 _ _ ⟨rfl,rfl⟩;refine lA I (nL (bN (tN (rG (yD I (lM I (nL ?_)))))));exact gA (g12,k3+1,v116,ps++[⟨q12,k4,c12⟩]) sB I I ⟨hle9.trans (hle10.trans (hle11.trans hle12)),by dsimp only; omega,by
         dsimp only;rw[kW];refine (hac2.mono fun _ _=>bU.mono (hle10.trans (hle11.trans hle12))).append ⟨?_,trivial⟩;show Sl _ _ _ _ _;rw[hil];exact hs12⟩ (by dsimp only; omega)
      ·have hke3:k3=T.length:=oM;subst hke3;refine fS fun g10 hle10 hs10=>?_;obtain ⟨q10,c10,rfl⟩:=Sl.form hs10;refine xI (tX (tX (bX (tN (rG (lM I (lM I (lW (bS sty40 I I I (ab ⟨I,trivial⟩) dC) ?_))))))));rintro _ _ _ ⟨b120,rfl,rfl,rfl⟩;refine lW (aP (e:=encSv) (l:=os) 0 ⟨q10,ps.length,c10⟩ sty40 I I I I I oM oM) ?_;rintro v121 _ _ ⟨rfl,rfl⟩;refine lA I (nL (bN (tN (rG (yD I (lM I (nL ?_)))))));exact gA (g10,k2+1,v121,os++[⟨q10,ps.length,c10⟩]) sB I I ⟨hle8.trans (hle9.trans hle10),by dsimp only; omega,by
        dsimp only;rw[kW];exact (hacc.mono fun _ _ h=>h.mono (hle9.trans hle10)).append ⟨⟨ps,hs10,hac2.mono fun _ _=>bU.mono hle10⟩,trivial⟩⟩ (by dsimp only; omega)
     ·have hke2:k2=T.length:=oM;subst hke2;have hacc:aI (fun (Q:List (List Int)) (r:Sv)=>aG g8 (.slice r.p r.n r.c) Q) (jH (rkP p) T.length B D) os:=hacc;have hPAl:=px (rf:=rkP p) (n:=T.length) (B:=B) (D:=D);have hPAs:=s8 (rf:=rkP p) (n:=T.length) (B:=B) (D:=D);rw[hC];generalize jH (rkP p) T.length B D=PA at *;refine fS fun g9 hle9 hs9=>?_;obtain ⟨q9,c9,rfl⟩:=Sl.form hs9;have hacc:=hacc.mono fun _ _ h=>aG.mono h hle9;refine xI (tX (tX (bX (tN (rZ (aT I (sQ (bK ?_))))))));refine oP (ι:=Nat×Option Addr×Nat) (fun z=>[(16,.slice z.2.1 z.1 z.2.2),(22,.func (.func 39) #[] #[])]) (fun _=>g9) (fun _=>knE b47 (fun a low dim=>cH (rkP p) T.length B a low dim)::s) (fun z=>z.1≤os.length∧SlA encSv g9 (.slice z.2.1 z.1 z.2.2) (os.take z.1)∧iS (PA.take z.1)=iS PA) (fun z=>z.1) (os.length,q9,c9) sB I I ⟨lR _,by dsimp only; rw[List.take_length]; exact hs9,by dsimp only; rw[← hol,← hPAl,List.take_length]⟩ ?_;rintro ⟨m,q,c⟩ ⟨hm,hsm,htr⟩;dsimp only at hm hsm htr ⊢;by_cases h1:1<m
      ·have hst:=zG (P:=PA) h1 oM;have hP1:PA[m - 1]'oM∈PA:=gM _;have hP2:PA[m - 2]'oM∈PA:=gM _;have hL1:=hacc.get (gE (i:=m - 1) oM) (gE (i:=m - 1) oM);have hL2:=hacc.get (gE (i:=m - 2) oM) (gE (i:=m - 2) oM);have hg1:(os.take m)[((m:Int) - 1).toNat]?=some (os[m - 1]'oM):=by
        rw[show ((m:Int) - 1).toNat=m - 1 by omega,zh6,zf6 oM];exact gE _
       have hg2:(os.take m)[((m:Int) - 2).toNat]?=some (os[m - 2]'oM):=by
        rw[show ((m:Int) - 2).toNat=m - 2 by omega,zh6,zf6 oM];exact gE _
       generalize PA[m - 1]'oM=Q1 at *;generalize PA[m - 2]'oM=Q2 at *;generalize os[m - 1]'oM=r1 at *;generalize os[m - 2]'oM=r2 at *;obtain ⟨p1,n1,c1⟩:=r1;obtain ⟨p2,n2,c2⟩:=r2;have hbm:=za4 hsm (by rw[zd9]; omega);have hmc:=(SlA.cap hsm).2;rw[zd9,Nat.min_eq_left hm] at hmc;have hcut:=SlA.cut (l:=0) (m:=m - 1) (k:=1) (e:=encSv) (xs:=os.take m) (p:=q) (c:=c) (g:=g9) (by rw[zd9,Nat.min_eq_left hm]; exact hsm) (zf2 _) (by rw[zd9]; omega);rw[List.drop_zero,Nat.sub_zero,List.take_take,Nat.min_eq_left oM] at hcut;obtain ⟨q',c',hq'⟩:=za2 hcut;rw[zd9,Nat.min_eq_left oM] at hq';rw[hq'] at hcut;refine sQ (sQ ?_);refine dW [] [(0,2),(1,2),(2,2),(3,2),(4,2),(5,2),(6,2),(7,2),(8,2),(9,2),(10,1),(11,2),(12,2),(13,2),(14,2),(15,2),(16,1),(17,0),(18,2)] zd8 kR ?_;refine yM I (pU I (eN lV I) (pU I (SU.eq (v':=vb true) (gR I I) (zd7 vb (zf4 oM))) (yM I (yJ I (yJ I (yJ I (zb1 I (gT I I I dC) (eN lV I) dC (zb1 I (gT I I I dC) (sU I I oM) dC (zb1 I (gT I I I dC) (iA lV o4 I I hbm oM sL) dC (SP.gq I (gT I I I dC) (eB (u:=.slice p1 n1 c1) isAgg22 I (za5 hsm) hg1 I) dC (yJ I (yJ I (zb1 I (gT I I I dC) (eN lV I) dC (zb1 I (gT I I I dC) (sU I I oM) dC (zb1 I (gT I I I dC) (iA lV o4 I I hbm oM sL) dC (SP.gq I (gT I I I dC) (eB (u:=.slice p2 n2 c2) isAgg22 I (za5 hsm) hg2 I) dC (SP.go I (gT I I I dC) (SO.callV I I (cz.mk (cap:=[]) call39 (s6 E g9 _ (.slice p1 n1 c1) (.slice p2 n2 c2) Q1 Q2 hL1 hL2 (by rw[(hPAs _ hP1).1]; omega) (fun x hx=>by rw[(hPAs _ hP1).2 x hx]; omega) (by rw[(hPAs _ hP2).1]; omega)))) dC (.inr iR) ?_)))))))))))))))));rintro _ _ _ ⟨rfl,rfl,rfl⟩;refine pU I (wT I I) (pN (tN ?_));refine iQ I (fun heq=>?_) (fun heq=>?_)
       ·rw[zf6 (by simpa using heq)] at hst;refine kP (tN (bK (rG (lM I (lM I (lU (eN lV I) (lU (sU I I oM) (lU (SU.eq (v':=.slice q' (m - 1) c') (SU.sliceH lV o4 I I oM oM) (by rw[show ((m:Int) - 1).toNat=m - 1 by omega]; exact hq')) ?_))))))));refine lA I (nL (bN ?_));exact gA (m - 1,q',c') sB I I ⟨by dsimp only; omega,hcut,by dsimp only; rw[← hst]; exact htr⟩ (by dsimp only; omega)
       ·rw[zf5 (by simpa using heq)] at hst;refine xI (tX (tX (bX (tN (sW I (lA I (aT I (rE (dR (s':=s) uR ?_)))))))));exact ST.ret2 (.inl I) results13 I I ⟨I,hle1.trans (hle2.trans (hl27.trans (hle8.trans hle9))),_,by rw[he],by rw[← htr,hst]; exact⟨os.take m,hsm,aI.take m hacc⟩⟩
      ·have hst:=Bf (P:=PA) h1;refine sQ (sQ ?_);refine dW [] [(0,2),(1,2),(2,2),(3,2),(4,2),(5,2),(6,2),(7,2),(8,2),(9,2),(10,1),(11,2),(12,2),(13,2),(14,2),(15,2),(16,1),(17,0),(18,2)] zd8 kR ?_;refine yM I (pU I (eN lV I) (pU I (SU.eq (v':=vb false) (gR I I) (zd7 vb (zf3 oM))) (yM I (yG I (yG I (yG I (yG I (yG I (yG I (yI I (yG I (yG I (yG I (yG I (yG I (yI I (fO I (gZ I I I dC) dC ⟨by exact zb7 _,(by exact .refl _)⟩ ?_)))))))))))))))));refine pU I (wF I I) (pN (tN (cF I (xI (tX (tX (bX (tN (sW I (lA I (aT I (rE (dR (s':=s) uR ?_)))))))))))));exact ST.ret2 (.inl I) results13 I I ⟨I,hle1.trans (hle2.trans (hl27.trans (hle8.trans hle9))),_,by rw[he],by rw[← htr,hst]; exact⟨os.take m,hsm,aI.take m hacc⟩⟩
end Go.Proofs.YtkbagdedfdfjhaaGreatDoor
