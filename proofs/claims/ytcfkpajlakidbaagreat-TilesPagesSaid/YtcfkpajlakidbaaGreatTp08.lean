/- 8 -/
import Derived.Test.YtcfkpajlakidbaaGreatTp07
import Derived.Test.YtcfkpajlakidbaaGreatTp05
import Derived.Test.YtcfkpajlakidbaaGreatRows
import Derived.WalkKit
import Derived.ProofKit
import Derived.OpenShut
import Derived.ShutString
import Derived.ChangeOld
import Derived.Below
import Derived.Deep.Slices
import Derived.Lib.SmallJoins
import Derived.Laws.IdiomArrays
import Derived.Test.YtcfkpajlakidbaaGreatTp06
import Derived.Test.YtcfkpajlakidbaaGreatTp03
import Derived.Test.YtcfkpajlakidbaaGreatTp04
import Derived.SizedLaws
set_option linter.unusedSimpArgs false
set_option linter.unusedVariables false
namespace Go.Proofs.YtcfkpajlakidbaaGreat
open _root_.Go.Proofs.Tryz _root_.Go.Proofs.YtcfkpajlakidbaaGreat.Tryz
open Go Go.Sy Go.Pl Go.Proofs
set_option maxRecDepth 100000
set_option maxHeartbeats 1000000
theorem aO (a b:Int)(h0:0<b)(h1:b≤1000):0≤bG a b∧bG a b<b:=by
 have h2:a.tmod b<b:=Int.tmod_lt_of_pos a h0;have h3 : -b<a.tmod b:=by
  have:=Int.lt_tmod_of_pos a h0;omega
 unfold bG;rw[zk4 _ oM,Int.tmod_eq_emod_of_nonneg oM];exact⟨zk1 _ oM,zj9 _ h0⟩
def wB (y:Int):Int:=1+2 * bG (IntKind.i64.wrap (y.tdiv 7)) 3
def Be (y:Int):Int:=bG (IntKind.i64.wrap (y.tdiv 5)) 4
def ij (t:Int)(x:Cl):Bool:=decide (t>1)&&decide (x.id.tmod t=1)
def gO (t:Int)(x:Cl)(q:Int):Bool:=(decide (t>1)&&decide (x.dim>1))&&decide (q.tmod t=1)
def ry (b:Bool)(a:Int):Int:=if b then IntKind.i64.wrap (0 - a) else a
def be (k t:Int)(x:Cl)(q:aj):aj:=⟨dM q.cell k,ry (gO t x q.cell) (ry (ij t x) q.sign)⟩
def aH (k t:Int)(x:Cl):Cl:=⟨dM x.id k,x.dim,x.sides.map (be k t x)⟩
def CR (l:List Cl)(y:Int):List Cl:=aa (l.map (aH (wB y) (Be y)))
theorem uy {l:List Cl}(h:cR l)(k t:Int):cR (l.map (aH k t)):=by
 refine⟨by simpa using h.1,fun c hc=>?_⟩;obtain ⟨x,hx,rfl⟩:=ze9.1 hc;simpa [aH] using h.2 x hx
theorem jf (E:World)(g:PH)(s:Own)(v:Value)(l:List Cl)(y:Int)(hv:am g v l)(hf:cR l) :
  Ctr Tryz.prog E 60 #[.agg #[v],vi y] g s (fun r g' s'=>s=s'∧Le g g'∧∃ x,r = .agg #[x]∧am g' x (CR l y)):=by
 obtain ⟨rs,hrs,hall⟩:=hv;have el:=hall.length;obtain ⟨p,c,rfl⟩:=hrs.form;have hll:=hf.1;have hk3:=aO (IntKind.i64.wrap (y.tdiv 7)) 3 dC dC;have ht4:=aO (IntKind.i64.wrap (y.tdiv 5)) 4 dC dC;refine za9 (args:=[.agg #[.slice p rs.length c],vi y]) func60 I ntmps60 (bE I) ?_;refine rZ (bW (bO I) fun b2=>?_);refine bW (aL zk9) fun b4=>?_;refine tZ (sW I (lU (SU.quo I I dC) (lW (cL gD I (aK E g _ _ 3 dC)) ?_)));rintro _ _ _ ⟨rfl,rfl,rfl⟩;refine lU (SU.mul I I oM) (yD I (aT I (sW I (lU (SU.quo I I dC) (lW (cL gD I (aK E g _ _ 4 dC)) ?_)))));rintro _ _ _ ⟨rfl,rfl,rfl⟩;refine aT I (rZ (bW (aL zk9) fun b7=>?_));refine tZ (sQ (rZ (aT I (bK (zb4 63 3 ?_)))));have hke:1+2 * bG (IntKind.i64.wrap (y.tdiv 7)) 3=wB y:=rfl;have hte:bG (IntKind.i64.wrap (y.tdiv 5)) 4=Be y:=rfl;rw[hte] at ht4;unfold CR;simp only[hke,hte];generalize wB y=k at *;generalize Be y=t at *;refine oP (ι:=PH×Value×List Rc×Nat) (fun i=>[(2,pp b2 0),(4,pp b4 0),(5,vi k),(6,vi t),(7,pp b7 0),(8,vi i.2.2.2)]) (fun i=>i.1) (fun i=>rowA encCell 63 i.2.1 i.2.2.1::pt b7 (.cells #[i.2.1] 30 (0,0))::pt b4 (.cells #[.slice none 0 0] 30 (0,0))::pt b2 (.cells #[.slice p rs.length c] 30 (0,0))::s)
  (fun i=>Le g i.1∧i.2.2.2≤rs.length∧az (aC i.1) ((l.take i.2.2.2).map (aH k t)) i.2.2.1) (fun i=>rs.length - i.2.2.2)
  (g,.slice none 0 0,[],0) sB rfl rfl ⟨zb7 g,zf4 _,trivial⟩ ?_
 rintro ⟨g1,ov,rcs,i⟩ ⟨hle,hi,hrcs⟩;dsimp only at hle hi hrcs ⊢;have hrl:=hrcs.length;rw[ze4,ze2] at hrl;refine sQ (sW I (lU (fA ed I c8 I) (lK (qL (v:=.slice p rs.length c) eY I (cO 3 I I)) (lU (eN aA I) (yL I (tZ ?_))))));refine iP I (fun hlt=>?_) (fun hlt=>?_)
 ·have hil:i<l.length:=oM;have hir:i<rs.length:=oM;have hb1:=hrs.based oM;have hxr:=(hall.get (gE hil) (gE hir)).mono hle;have hgx:rs[((i:Nat):Int).toNat]?=some rs[i]:=gE hir;have hsucc:=fl hil (aH k t);have hxl:=hf.2 _ (gM hil);generalize hxe:l[i]=x at *;obtain ⟨xp,xcap,hrx,hxs⟩:=dY hxr;rw[hrx] at hgx;refine kP (tN (sQ (bK (rZ (lU (fA ed I c8 I) (lK (qL (v:=.slice p rs.length c) eY I (cO 3 I I)) (lM I (lU (iA aA au I I hb1 oM sL) (lK (eA eX au I (hrs.mono hle).rd hgx) (bW (aL zk8) fun b9=>?_))))))))));refine oZ (sK 0 au I I I I I sB) ?_;refine tZ ?_;refine SC.to (fun w hw=>hw) (g':=g1) (s':=pt b9 (.cells #[vi x.id,vi x.dim,.slice xp x.sides.length xcap] 63 (0,0))::rowA encCell 63 ov rcs::pt b7 (.cells #[ov] 30 (0,0))::pt b4 (.cells #[.slice none 0 0] 30 (0,0))::pt b2 (.cells #[.slice p rs.length c] 30 (0,0))::s) ?_;refine SC.cut (ι:=Nat) (fun b10=>[(2,pp b2 0),(4,pp b4 0),(5,vi k),(6,vi t),(7,pp b7 0),(8,vi i),(9,pp b9 0),(10,pp b10 0)]) (fun _=>g1) (fun b10=>pt b10 (.cells #[vi (dM x.id k),vi x.dim,.slice none 0 0] 63 (0,0))::pt b9 (.cells #[vi x.id,vi x.dim,.slice xp x.sides.length xcap] 63 (0,0))::rowA encCell 63 ov rcs::pt b7 (.cells #[ov] 30 (0,0))::pt b4 (.cells #[.slice none 0 0] 30 (0,0))::pt b2 (.cells #[.slice p rs.length c] 30 (0,0))::s) (fun _=>True) ?_ ?_
  ·refine SC.drawX [] ze1 kR ?_;refine SX.u (i:=0) I kR (fA ao I zT3 I) dC (SX.q (i:=1) I kR (qL (v:=vi x.id) iT3 I (cO 0 I I)) dC (SX.u (i:=2) I kR (mV I) dC (SX.u (i:=4) I kR (fA ao I zT3 I) dC (SX.q (i:=5) I kR (qL (v:=vi x.dim) iT3 I (cO 0 I I)) dC ?_))))
   repeat' (first
    | (refine SB.o (i:=3) I (cL call94 I (jn E g1 _ x.id k)) dC (.inr iR) ?_; rintro _ _ _ ⟨rfl,rfl,rfl⟩; refine SX.u (i:=6) I kD (za1 I (buildC63 _ _)) dC ?_)
    | (refine SB.o (i:=3) I (cL call94 I (jn E g1 _ x.id k)) dC (.inr iR) ?_; rintro _ _ _ ⟨rfl,rfl,rfl⟩; refine SX.u (i:=6) I kD (za1 I (buildC63 _ _)) dC ?_)
    | (refine SB.o (i:=7) I (aL zk8) dC (.inr iR) ?_; rintro _ _ _ ⟨b10,rfl,rfl,rfl⟩)
    | (refine SB.on (i:=8) I (sK 0 au I I I I I sB) (.inr iR) ?_; rintro _ _ _ ⟨rfl,rfl⟩)
    | refine zd4 3 7 kD ?_ ?_
    | refine zd3 7 kD ?_
    | refine zd3 8 kD ?_
    | refine zd3 3 kD ?_
    | (refine SX.nil kD ?_; exact za7 b10 sB I I trivial))
  rintro b10 -;try dsimp only
  refine zb4 87 2 (sQ (rZ (aT I (bK ?_))));refine oP (ι:=Value×Nat) (fun j=>[(2,pp b2 0),(4,pp b4 0),(5,vi k),(6,vi t),(7,pp b7 0),(8,vi i),(9,pp b9 0),(10,pp b10 0),(11,vi j.2)]) (fun _=>g1) (fun j=>rowA encSide 87 j.1 ((x.sides.take j.2).map (be k t x))::pt b10 (.cells #[vi (dM x.id k),vi x.dim,j.1] 63 (0,0))::pt b9 (.cells #[vi x.id,vi x.dim,.slice xp x.sides.length xcap] 63 (0,0))::rowA encCell 63 ov rcs::pt b7 (.cells #[ov] 30 (0,0))::pt b4 (.cells #[.slice none 0 0] 30 (0,0))::pt b2 (.cells #[.slice p rs.length c] 30 (0,0))::s)
   (fun j=>j.2≤x.sides.length) (fun j=>x.sides.length - j.2) (.slice none 0 0,0) sB rfl rfl (zf4 _) ?_
  rintro ⟨sv,j⟩ hj;dsimp only at hj ⊢;refine sQ (sW I (lU (fA ao I bI I) (lK (qL (v:=.slice xp x.sides.length xcap) cQ I (cO 2 I I)) (lU (eN cA I) (yL I (tZ ?_))))));refine iP I (fun hlt2=>?_) (fun hlt2=>?_)
  ·have hjl:j<x.sides.length:=oM;have hb3:=hxs.based oM;have hjx:x.sides[((j:Nat):Int).toNat]?=some x.sides[j]:=gE hjl;have hjs:=fl hjl (be k t x);generalize x.sides[j]=z at *;refine kP (tN (sQ (bK ?_)));refine SC.cut (ι:=Nat) (fun b12=>[(2,pp b2 0),(4,pp b4 0),(5,vi k),(6,vi t),(7,pp b7 0),(8,vi i),(9,pp b9 0),(10,pp b10 0),(11,vi j),(12,pp b12 0)]) (fun _=>g1) (fun b12=>pt b12 (.cells #[vi (dM z.cell k),vi z.sign] 87 (0,0))::rowA encSide 87 sv ((x.sides.take j).map (be k t x))::pt b10 (.cells #[vi (dM x.id k),vi x.dim,sv] 63 (0,0))::pt b9 (.cells #[vi x.id,vi x.dim,.slice xp x.sides.length xcap] 63 (0,0))::rowA encCell 63 ov rcs::pt b7 (.cells #[ov] 30 (0,0))::pt b4 (.cells #[.slice none 0 0] 30 (0,0))::pt b2 (.cells #[.slice p rs.length c] 30 (0,0))::s) (fun _=>True) ?_ ?_
   ·refine SC.drawX [] ze1 kR ?_;refine SX.u (i:=0) I kR (fA ao I bI I) dC (SX.q (i:=1) I kR (qL (v:=.slice xp x.sides.length xcap) cQ I (cO 2 I I)) dC (SX.u (i:=2) I kR (mV I) dC (SX.u (i:=3) I kR (iA cA cj I I hb3 oM sL) dC (SX.u (i:=4) I kR (fC dn I zT3 I hb3) dC (SX.q (i:=5) I kR (aZ (e:=encSide) (o:=0) (u:=vi z.cell) iT3 I hxs.rd hjx I) dC (SX.u (i:=6) I kR (mV I) dC (SX.u (i:=8) I kR (fA ao I bI I) dC (SX.q (i:=9) I kR (qL (v:=.slice xp x.sides.length xcap) cQ I (cO 2 I I)) dC (SX.u (i:=10) I kR (mV I) dC (SX.u (i:=11) I kR (iA cA cj I I hb3 oM sL) dC (SX.u (i:=12) I kR (fC dn I zT3 I hb3) dC (SX.q (i:=13) I kR (aZ (e:=encSide) (o:=1) (u:=vi z.sign) iT3 I hxs.rd hjx I) dC ?_))))))))))))
    repeat' (first
     | (refine SB.o (i:=7) I (cL call94 I (jn E g1 _ z.cell k)) dC (.inr iR) ?_; rintro _ _ _ ⟨rfl,rfl,rfl⟩; refine SX.u (i:=14) I kD (za1 I (buildS87 _ _)) dC ?_)
     | (refine SB.o (i:=7) I (cL call94 I (jn E g1 _ z.cell k)) dC (.inr iR) ?_; rintro _ _ _ ⟨rfl,rfl,rfl⟩; refine SX.u (i:=14) I kD (za1 I (buildS87 _ _)) dC ?_)
     | (refine SB.o (i:=15) I (aL zk5) dC (.inr iR) ?_; rintro _ _ _ ⟨b12,rfl,rfl,rfl⟩)
     | (refine SB.on (i:=16) I (sK 0 cj I I I I I sB) (.inr iR) ?_; rintro _ _ _ ⟨rfl,rfl⟩)
     | refine zd4 7 15 kD ?_ ?_
     | refine zd3 15 kD ?_
     | refine zd3 16 kD ?_
     | refine zd3 7 kD ?_
     | (refine SX.nil kD ?_; exact za7 b12 sB I I trivial))
   rintro b12 -;try dsimp only
   have e1:t>1→ij t x=decide (x.id.tmod t=1):=fun h=>by simp[ij,h]
   have e2:¬ t>1→ij t x=false:=fun h=>by simp only[ij,h,decide_false,Bool.false_and]
   have e3:t>1→x.dim>1→gO t x z.cell=decide (z.cell.tmod t=1):=fun h h'=>by simp[gO,h,h']
   have e4:t>1→¬ x.dim>1→gO t x z.cell=false:=fun h h'=>by simp only[gO,h',decide_false,Bool.and_false,Bool.false_and]
   have e5:¬ t>1→gO t x z.cell=false:=fun h=>by simp only[gO,h,decide_false,Bool.false_and]
   refine SC.cut (ι:=Int) (fun _=>[(2,pp b2 0),(4,pp b4 0),(5,vi k),(6,vi t),(7,pp b7 0),(8,vi i),(9,pp b9 0),(10,pp b10 0),(11,vi j),(12,pp b12 0)]) (fun _=>g1) (fun sg=>pt b12 (.cells #[vi (dM z.cell k),vi sg] 87 (0,0))::rowA encSide 87 sv ((x.sides.take j).map (be k t x))::pt b10 (.cells #[vi (dM x.id k),vi x.dim,sv] 63 (0,0))::pt b9 (.cells #[vi x.id,vi x.dim,.slice xp x.sides.length xcap] 63 (0,0))::rowA encCell 63 ov rcs::pt b7 (.cells #[ov] 30 (0,0))::pt b4 (.cells #[.slice none 0 0] 30 (0,0))::pt b2 (.cells #[.slice p rs.length c] 30 (0,0))::s) (fun sg=>sg=ry (ij t x) z.sign) ?_ ?_
   ·refine SC.cutB 69 ((ij t x)) ?_ ?_
    ·refine rG (lM I (lU (gR I I) (lM I ?_)));refine sP ?_ ?_
     ·intro h64;refine lY I I I (fA ao I zT3 I) (SL.gq (gT I I I dC) (qL (v:=vi x.id) iT3 I (cO 3 I I)) dC (yC I (zd8 (gT I I I dC) (cL call95 I (mY E g1 _ x.id t oM)) dC ?_)));rintro _ _ _ ⟨rfl,rfl,rfl⟩;refine yP I (nL ?_);exact za8 (by (rw[e1 h64]; rfl)) mI
     ·intro h64;refine yA I (yA I (yA I (yA I (yF I (nL ?_)))));exact za8 (by (rw[e2 h64]; rfl)) mI
    refine iQ I (fun hq1=>?_) (fun hq1=>?_)
    ·refine rG (lU (fA dn rfl zT3 rfl) (lK (qL (v:=vi z.sign) iT3 rfl (cO 0 rfl rfl)) (lU (SU.neg rfl) (lU (fA dn rfl zT3 rfl) (oZ (SO.store1 0 zT3 rfl rfl rfl rfl (bE rfl) (by rfl)) ?_)))));refine nL ?_;exact za7 (IntKind.i64.wrap (0 - z.sign)) sB I I (by rw[hq1]; rfl)
    ·refine kP ?_;exact za7 z.sign sB I I (by rw[hq1]; rfl)
   rintro s1 hs1;try dsimp only
   refine SC.cut (ι:=Int) (fun _=>[(2,pp b2 0),(4,pp b4 0),(5,vi k),(6,vi t),(7,pp b7 0),(8,vi i),(9,pp b9 0),(10,pp b10 0),(11,vi j),(12,pp b12 0)]) (fun _=>g1) (fun sg=>pt b12 (.cells #[vi (dM z.cell k),vi sg] 87 (0,0))::rowA encSide 87 sv ((x.sides.take j).map (be k t x))::pt b10 (.cells #[vi (dM x.id k),vi x.dim,sv] 63 (0,0))::pt b9 (.cells #[vi x.id,vi x.dim,.slice xp x.sides.length xcap] 63 (0,0))::rowA encCell 63 ov rcs::pt b7 (.cells #[ov] 30 (0,0))::pt b4 (.cells #[.slice none 0 0] 30 (0,0))::pt b2 (.cells #[.slice p rs.length c] 30 (0,0))::s) (fun sg=>sg=ry (gO t x z.cell) s1) ?_ ?_
   ·refine SC.cutB 90 ((gO t x z.cell)) ?_ ?_
    ·refine rG (lM I (lU (gR I I) (lM I ?_)));refine sP ?_ ?_
     ·intro h76;refine lY I I I (fA ao I zT3 I) (SL.gq (gT I I I dC) (qL (v:=vi x.dim) iT3 I (cO 3 I I)) dC (lY I I I (gR I I) (yP I (lM I ?_))));refine sP ?_ ?_
      ·intro h81;refine lY I I I (fA ao I bI I) (SL.gq (gT I I I dC) (qL (v:=.slice xp x.sides.length xcap) cQ I (cO 3 I I)) dC (yC I (lY I I I (iA cA cj I I hb3 oM sL) (lY I I I (fC dn I zT3 I hb3) (SL.gq (gT I I I dC) (aZ (e:=encSide) (o:=0) (u:=vi z.cell) iT3 I hxs.rd hjx I) dC (yC I (zd8 (gT I I I dC) (cL call95 I (mY E g1 _ z.cell t oM)) dC ?_)))))));rintro _ _ _ ⟨rfl,rfl,rfl⟩;refine yP I (nL ?_);exact za8 (by (rw[e3 h76 h81]; rfl)) mI
      ·intro h81;refine yA I (yA I (yA I (yA I (yA I (yA I (yA I (yA I (yF I (nL ?_)))))))));exact za8 (by (rw[e4 h76 h81]; rfl)) mI
     ·intro h76;refine yA I (yA I (yA I (yF I (lM I (yA I (yA I (yA I (yA I (yA I (yA I (yA I (yA I (yF I (nL ?_))))))))))))));exact za8 (by (rw[e5 h76]; rfl)) mI
    refine iQ I (fun hq2=>?_) (fun hq2=>?_)
    ·refine rG (lU (fA dn rfl zT3 rfl) (lK (qL (v:=vi s1) iT3 rfl (cO 0 rfl rfl)) (lU (SU.neg rfl) (lU (fA dn rfl zT3 rfl) (oZ (SO.store1 0 zT3 rfl rfl rfl rfl (bE rfl) (by rfl)) ?_)))));refine nL ?_;exact za7 (IntKind.i64.wrap (0 - s1)) sB I I (by rw[hq2]; rfl)
    ·refine kP ?_;exact za7 s1 sB I I (by rw[hq2]; rfl)
   rintro s2 hs2;try dsimp only
   have hrz:be k t x z=⟨dM z.cell k,s2⟩:=by unfold be; rw[hs2,hs1]
   rw[hrz] at hjs;have hml:((x.sides.take j).map (be k t x)).length=j:=by rw[ze4,ze2]; omega
   refine rG (lU (fA ao I bI I) (lK (qL (v:=sv) cQ I (cO 2 I I)) (lK (qV 0 nE cj I I I) (lW (bS sty61 I I I (ab sB) dC) ?_))));rintro _ _ _ ⟨b98,rfl,rfl,rfl⟩;refine lW (aP (e:=encSide) 1 ⟨dM z.cell k,s2⟩ sty61 I I I I I oM oM) ?_;rintro sv' _ _ ⟨rfl,rfl⟩;rw[← hjs];refine zc9 fun ⟨w0,hw0⟩=>?_;obtain ⟨q6,d6,rfl⟩:=ag (i:=1) hw0 rfl;clear hw0 w0;refine lU (fA ao rfl bI rfl) (oZ (SO.store1 2 bI rfl rfl rfl rfl (bE rfl) (by rfl)) ?_);refine nL (bN (tN (rG (lM I (yD I (lA I (nL (dR (s':=rowA encSide 87 (.slice q6 ((x.sides.take (j+1)).map (be k t x)).length d6) ((x.sides.take (j+1)).map (be k t x))::pt b10 (.cells #[vi (dM x.id k),vi x.dim,(.slice q6 ((x.sides.take (j+1)).map (be k t x)).length d6)] 63 (0,0))::pt b9 (.cells #[vi x.id,vi x.dim,.slice xp x.sides.length xcap] 63 (0,0))::rowA encCell 63 ov rcs::pt b7 (.cells #[ov] 30 (0,0))::pt b4 (.cells #[.slice none 0 0] 30 (0,0))::pt b2 (.cells #[.slice p rs.length c] 30 (0,0))::s) (.cons _ (.refl _)) ?_))))))));exact gA (_,j+1) sB I I lN lN
  ·have hjj:x.sides.take j=x.sides:=tL oM;rw[hjj];refine xI (tX (tX (bX (tN (fS fun g2 hle2 hs2=>?_)))));have hsd:SlA encSide g2 sv (x.sides.map (be k t x)):=hs2;obtain ⟨q8,d8,rfl⟩:=za2 hsd;obtain ⟨nc,hnc⟩:∃ nc:Rc,nc=⟨dM x.id k,x.dim,⟨q8,(x.sides.map (be k t x)).length,d8⟩⟩:=⟨_,rfl⟩;refine rG (lU (fA ed I c8 I) (lK (qL (v:=ov) eY I (cO 3 I I)) (lK (qV 0 eX au I I I) (lW (bS sty28 I I I (ab sB) dC) ?_))));rintro _ _ _ ⟨b104,rfl,rfl,rfl⟩;refine lW (aP (e:=encCell) 2 nc sty28 I I I I (by rw[hnc]; rfl) oM oM) ?_;rintro v105 _ _ ⟨rfl,rfl⟩;refine zc9 fun ⟨w0,hw0⟩=>?_;obtain ⟨q9,d9,rfl⟩:=ag (i:=2) hw0 rfl;clear hw0 w0;refine lU (fA ed I c8 I) (oZ (sK 3 c8 I I I I I sB) ?_);refine nL (bN (tN (rG (lM I (yD I (lA I (nL (dR (s':=rowA encCell 63 (.slice q9 (rcs++[nc]).length d9) (rcs++[nc])::pt b7 (.cells #[(.slice q9 (rcs++[nc]).length d9)] 30 (0,0))::pt b4 (.cells #[.slice none 0 0] 30 (0,0))::pt b2 (.cells #[.slice p rs.length c] 30 (0,0))::s) (.cons _ (.cons _ (.refl _))) ?_))))))));refine gA (g2,_,rcs++[nc],i+1) sB I I ⟨hle.trans hle2,lN,?_⟩ lN;dsimp only;rw[hsucc];exact (hrcs.mono fun _ _=>aC.mono hle2).append ⟨(by rw[hnc]; exact⟨I,I,hsd⟩),trivial⟩
 ·have hii:l.take i=l:=tL oM;rw[hii] at hrcs;refine xI (tX (tX (bX (tN (sQ (fS fun g2 hle2 hs2=>?_))))));have hov:am g2 ov (l.map (aH k t)):=⟨rcs,hs2,hrcs.mono fun _ _=>aC.mono hle2⟩;obtain ⟨qo,do_,rfl⟩:=hov.form;refine rG (lK (qV 0 bh aw I I I) (lW (cL call75 I (ew E g2 _ _ _ hov (uy hf k t))) ?_));rintro _ g3 _ ⟨rfl,hle3,x3,rfl,hx3⟩;obtain ⟨q3,d3,rfl⟩:=hx3.form;refine oZ (sK 1 aw I I I I I sB) ?_;refine tZ (rE ?_);exact ST.retCD 1 s (.inl I) results60 I bh aw I I uR ⟨I,hle.trans (hle2.trans hle3),_,I,hx3⟩
def sG (j:Int):List (List Int):=if j=0 then [[0,1]] else if j=1 then [[0,1],[1,2]] else [[0,1],[1,2],[0,2]]
def Cs (j:Int)(a b c:Value):Value:=if j=0 then a else if j=1 then b else c
theorem ur {j:Int}(h:0≤j∧j<3)(a b c:Value) : #[a,b,c][0+j.toNat * 1]?=some (Cs j a b c):=by
 rcases (by omega:j=0∨j=1∨j=2) with rfl | rfl | rfl <;> rfl
theorem mZ {g:PH}{j:Int}(h:0≤j∧j<3){a b c:Value}(ha:ax g a [[0,1]])(hb:ax g b [[0,1],[1,2]])(hc:ax g c [[0,1],[1,2],[0,2]]):ax g (Cs j a b c) (sG j):=by
 rcases (by omega:j=0∨j=1∨j=2) with rfl | rfl | rfl
 ·exact ha
 ·exact hb
 ·exact hc
theorem eG (j:Int):(sG j).length≤3∧∀ x∈sG j,x.length≤2:=by
 unfold sG;split
 ·exact⟨by decide,by decide⟩
 ·split
  ·exact⟨by decide,by decide⟩
  ·exact⟨by decide,by decide⟩
theorem oa (y:Int):4≤(lh y).length∧(lh y).length≤14∧∀ x∈lh y,x.length≤3:=by
 unfold lh;split
 ·exact⟨by decide,by decide,by decide⟩
 ·split
  ·exact⟨by decide,by decide,by decide⟩
  ·refine⟨by rw[i7]; decide,by rw[i7]; decide,fun x hx=>?_⟩;obtain ⟨i,_,hx⟩:=List.mem_flatMap.1 hx;simp at hx
   rcases hx with rfl | rfl <;> simp
def mB (m:Int)(ls:List (List Int))(y:Int):List Cl :=
 if m=3 then bQ (lh y) else if m=4 then bL (bQ (sG (bG y 3))) (bQ (sG (bG (IntKind.i64.wrap (y.tdiv 3)) 3)))
 else if m=5 then ru (2+bG y 5).toNat else if m=6 then bL (bL (bQ [[0,1]]) (bQ [[0,1]])) (bQ [[0,1]])
 else if m=7 then bQ (li ls++(lh y).take (2+bG y 2).toNat) else bQ (li ls)
theorem oV (m:Int)(ls:List (List Int))(y:Int):cR (mB m ls y):=by
 unfold mB;have h5:=aO y 5 dC dC
 repeat' split
 ·exact (dz _).1
 ·exact (eu _ _).1
 ·exact ci (lx oM).1
 ·exact (eu _ _).1
 ·exact (dz _).1
 ·exact (dz _).1
def n8 (b:List Cl):List Cl:=if (b.length:Int)>45 then nR else b
def ju (kd:Int)(ls:List (List Int))(y:Int):List Cl:=CR (n8 (mB (bG kd 8) ls y)) y
theorem yT {b:List Cl}(h:cR b):cR (n8 b):=by
 unfold n8;split
 ·exact (eu _ _).1
 ·exact h
theorem kZ (kd:Int)(ls:List (List Int))(y:Int):cR (ju kd ls y):=ci (uy (yT (oV _ _ _)) _ _)
theorem Tryz.build103 (p1:Option Addr)(n1 c1:Nat)(p2:Option Addr)(n2 c2:Nat)(p3:Option Addr)(n3 c3:Nat)(w:World):(Instr.build 103 #[(0,.slice p1 n1 c1),(1,.slice p2 n2 c2),(2,.slice p3 n3 c3)]).run Tryz.prog w = .ok (.agg #[.slice p1 n1 c1,.slice p2 n2 c2,.slice p3 n3 c3]) w:=by
 have hz:(Value.agg #[Value.slice none 0 0,Value.slice none 0 0,Value.slice none 0 0]).cells = #[.slice none 0 0,.slice none 0 0,.slice none 0 0]:=rfl;have h1:(Value.slice p1 n1 c1).cells = #[.slice p1 n1 c1]:=rfl;have h2:(Value.slice p2 n2 c2).cells = #[.slice p2 n2 c2]:=rfl;have h3:(Value.slice p3 n3 c3).cells = #[.slice p3 n3 c3]:=rfl;simp[Instr.build,Instr.fill,hz,h1,h2,h3]
theorem qA (E:World)(g:PH)(s:Own)(v:Value)(kd y:Int)(ls:List (List Int))(hv:ax g v ls) :
  Ctr Tryz.prog E 27 #[.agg #[vi kd,v,vi y]] g s (fun r g' s'=>s=s'∧Le g g'∧∃ x,r = .agg #[x]∧am g' x (ju kd ls y)):=by
 obtain ⟨p,n,c,rfl⟩:∃ p n c,v = .slice p n c:=by
  obtain ⟨rs0,hrs0,_⟩:=hv;obtain ⟨p,c,rfl⟩:=za2 hrs0;exact⟨_,_,_,I⟩
 have hm8:=aO kd 8 dC dC;have hy3:=aO y 3 dC dC;have hy33:=aO (IntKind.i64.wrap (y.tdiv 3)) 3 dC dC;have hy5:=aO y 5 dC dC;have hy2:=aO y 2 dC dC;have hss:=vC ls;have hsf:=oa y;unfold ju;have hfit:=oV (bG kd 8) ls y;refine za9 (args:=[.agg #[vi kd,.slice p n c,vi y]]) func27 I ntmps27 (bE I) ?_;refine rZ (bW (bO I) fun b1=>?_);refine bW (aL zk9) fun b2=>?_;refine tZ (rZ (bW (aL zk9) fun b3=>?_));refine tZ ?_;refine SC.to (fun w hw=>hw) (g':=g) (s':=pt b3 (.cells #[.slice none 0 0] 30 (0,0))::pt b2 (.cells #[.slice none 0 0] 30 (0,0))::pt b1 (.cells #[vi kd,.slice p n c,vi y] 24 (0,0))::s) ?_;refine SC.cut (ι:=PH×Value) (fun _=>[(1,pp b1 0),(2,pp b2 0),(3,pp b3 0)]) (fun i=>i.1) (fun i=>pt b3 (.cells #[i.2] 30 (0,0))::pt b2 (.cells #[.slice none 0 0] 30 (0,0))::pt b1 (.cells #[vi kd,.slice p n c,vi y] 24 (0,0))::s) (fun i=>Le g i.1∧am i.1 i.2 (mB (bG kd 8) ls y)) ?_ ?_
 ·rcases (by omega:(bG kd 8=0∨bG kd 8=1∨bG kd 8=2)∨bG kd 8=3∨bG kd 8=4∨bG kd 8=5∨bG kd 8=6∨bG kd 8=7) with (hm | hm | hm) | hm | hm | hm | hm | hm
  ·refine rZ (lU (fA jY I zT3 I) (lK (qL (v:=vi kd) iT3 I (cO 2 I I)) (lW (cL gD I (aK E g _ _ 8 dC)) ?_)));rintro _ _ _ ⟨rfl,rfl,rfl⟩;rw[hm];refine tZ (bK (sQ (rZ (yE I (aT I (cT I (kP (tN (cT I (rG (lU (fA jY I kO I) (lK (qL (v:=.slice p n c) lD I (cO 2 I I)) (lW (cL call55 I (kh E g _ _ ls hv)) ?_)))))))))))));rintro v16 g1 _ ⟨rs1,rfl,hle1,hall1⟩;refine fR fun g2 hle2 hs2=>?_;have hls:ax g2 v16 (li ls):=⟨rs1,hs2,hall1.mono fun _ _=>a7.mono hle2⟩;refine lW (cL call21 I (aI E g2 _ _ _ hls oM (fun x hx=>by have:=hss.2 x hx; omega))) ?_;rintro _ g3 _ ⟨rfl,hle3,u,rfl,hu⟩;obtain ⟨q,d,rfl⟩:=hu.form;refine oZ (sK 0 aw I I I I I sB) ?_;refine nL (bN ?_);exact za7 (g3,_) sB I I ⟨hle1.trans (hle2.trans hle3),hu⟩
  ·refine rZ (lU (fA jY I zT3 I) (lK (qL (v:=vi kd) iT3 I (cO 2 I I)) (lW (cL gD I (aK E g _ _ 8 dC)) ?_)));rintro _ _ _ ⟨rfl,rfl,rfl⟩;rw[hm];refine tZ (bK (sQ (rZ (yE I (aT I (cF I (rZ (yE I (aT I (cT I (kP (tN (cT I (rG (lU (fA jY I kO I) (lK (qL (v:=.slice p n c) lD I (cO 2 I I)) (lW (cL call55 I (kh E g _ _ ls hv)) ?_)))))))))))))))));rintro v16 g1 _ ⟨rs1,rfl,hle1,hall1⟩;refine fR fun g2 hle2 hs2=>?_;have hls:ax g2 v16 (li ls):=⟨rs1,hs2,hall1.mono fun _ _=>a7.mono hle2⟩;refine lW (cL call21 I (aI E g2 _ _ _ hls oM (fun x hx=>by have:=hss.2 x hx; omega))) ?_;rintro _ g3 _ ⟨rfl,hle3,u,rfl,hu⟩;obtain ⟨q,d,rfl⟩:=hu.form;refine oZ (sK 0 aw I I I I I sB) ?_;refine nL (bN ?_);exact za7 (g3,_) sB I I ⟨hle1.trans (hle2.trans hle3),hu⟩
  ·refine rZ (lU (fA jY I zT3 I) (lK (qL (v:=vi kd) iT3 I (cO 2 I I)) (lW (cL gD I (aK E g _ _ 8 dC)) ?_)));rintro _ _ _ ⟨rfl,rfl,rfl⟩;rw[hm];refine tZ (bK (sQ (rZ (yE I (aT I (cF I (rZ (yE I (aT I (cF I (rG (yE I (aT I (cT I (rG (lU (fA jY I kO I) (lK (qL (v:=.slice p n c) lD I (cO 2 I I)) (lW (cL call55 I (kh E g _ _ ls hv)) ?_))))))))))))))))));rintro v16 g1 _ ⟨rs1,rfl,hle1,hall1⟩;refine fR fun g2 hle2 hs2=>?_;have hls:ax g2 v16 (li ls):=⟨rs1,hs2,hall1.mono fun _ _=>a7.mono hle2⟩;refine lW (cL call21 I (aI E g2 _ _ _ hls oM (fun x hx=>by have:=hss.2 x hx; omega))) ?_;rintro _ g3 _ ⟨rfl,hle3,u,rfl,hu⟩;obtain ⟨q,d,rfl⟩:=hu.form;refine oZ (sK 0 aw I I I I I sB) ?_;refine nL (bN ?_);exact za7 (g3,_) sB I I ⟨hle1.trans (hle2.trans hle3),hu⟩
  ·refine rZ (lU (fA jY I zT3 I) (lK (qL (v:=vi kd) iT3 I (cO 2 I I)) (lW (cL gD I (aK E g _ _ 8 dC)) ?_)));rintro _ _ _ ⟨rfl,rfl,rfl⟩;rw[hm];refine tZ (bK (sQ (rZ (yE I (aT I (cF I (rZ (yE I (aT I (cF I (rG (yE I (aT I (cF I (rZ (yE I (aT I ?_)))))))))))))))));refine cT I (rG (lU (fA jY I zT3 I) (lK (qL (v:=vi y) iT3 I (cO 2 I I)) (lW (cL call56 I (ln E g _ y)) ?_))));rintro v22 g1 _ ⟨rfl,hle1,hls⟩;refine lW (cL call21 I (aI E g1 _ _ _ hls oM (fun x hx=>by have:=hsf.2.2 x hx; omega))) ?_;rintro _ g3 _ ⟨rfl,hle3,u,rfl,hu⟩;obtain ⟨q,d,rfl⟩:=hu.form;refine oZ (sK 0 aw I I I I I sB) ?_;refine nL (bN ?_);exact za7 (g3,_) sB I I ⟨hle1.trans hle3,hu⟩
  ·refine rZ (lU (fA jY I zT3 I) (lK (qL (v:=vi kd) iT3 I (cO 2 I I)) (lW (cL gD I (aK E g _ _ 8 dC)) ?_)));rintro _ _ _ ⟨rfl,rfl,rfl⟩;rw[hm];refine tZ (bK (sQ (rZ (yE I (aT I (cF I (rZ (yE I (aT I (cF I (rG (yE I (aT I (cF I (rZ (yE I (aT I ?_)))))))))))))))));refine cF I (rZ (yE I (aT I (cT I (rZ (lU (fA jY I zT3 I) (lK (qL (v:=vi y) iT3 I (cO 2 I I)) (lW (cL gD I (aK E g _ _ 3 dC)) ?_))))))));rintro _ _ _ ⟨rfl,rfl,rfl⟩;refine aT I (rZ (lW (bS sty25 I I I (ab sB) dC) ?_));rintro _ _ _ ⟨b29,rfl,rfl,rfl⟩;refine zb3 fun g1 hle1 hb29=>?_;refine lW (bS sty22 I I I (ab ⟨I,trivial⟩) dC) ?_;rintro _ _ _ ⟨b30,rfl,rfl,rfl⟩;refine zb3 fun g2 hle2 hb30=>?_;have hlit30:ax g2 (.slice (some ⟨b30,0,none⟩) 1 1) [[0,1]]:=⟨[eC (.slice (some ⟨b29,0,none⟩) 2 2)],SlA.lit hb30 rfl rfl,⟨SlA.lit (hle2 _ _ hb29) rfl rfl,trivial⟩⟩;refine lW (bS sty25 I I I (ab sB) dC) ?_;rintro _ _ _ ⟨b31,rfl,rfl,rfl⟩;refine zb3 fun g3 hle3 hb31=>?_;refine lW (bS sty25 I I I (ab sB) dC) ?_;rintro _ _ _ ⟨b32,rfl,rfl,rfl⟩;refine zb3 fun g4 hle4 hb32=>?_;refine lW (bS sty22 I I I (ab sB) dC) ?_;rintro _ _ _ ⟨b33,rfl,rfl,rfl⟩;refine zb3 fun g5 hle5 hb33=>?_;have hlit33:ax g5 (.slice (some ⟨b33,0,none⟩) 2 2) [[0,1],[1,2]]:=⟨[eC (.slice (some ⟨b31,0,none⟩) 2 2),eC (.slice (some ⟨b32,0,none⟩) 2 2)],SlA.lit hb33 rfl rfl,⟨SlA.lit (hle5 _ _ (hle4 _ _ hb31)) rfl rfl,SlA.lit (hle5 _ _ hb32) rfl rfl,trivial⟩⟩;refine lW (bS sty25 I I I (ab sB) dC) ?_;rintro _ _ _ ⟨b34,rfl,rfl,rfl⟩;refine zb3 fun g6 hle6 hb34=>?_;refine lW (bS sty25 I I I (ab sB) dC) ?_;rintro _ _ _ ⟨b35,rfl,rfl,rfl⟩;refine zb3 fun g7 hle7 hb35=>?_;refine lW (bS sty25 I I I (ab sB) dC) ?_;rintro _ _ _ ⟨b36,rfl,rfl,rfl⟩;refine zb3 fun g8 hle8 hb36=>?_;refine lW (bS sty22 I I I (ab sB) dC) ?_;rintro _ _ _ ⟨b37,rfl,rfl,rfl⟩;refine zb3 fun g9 hle9 hb37=>?_;have hlit37:ax g9 (.slice (some ⟨b37,0,none⟩) 3 3) [[0,1],[1,2],[0,2]]:=⟨[eC (.slice (some ⟨b34,0,none⟩) 2 2),eC (.slice (some ⟨b35,0,none⟩) 2 2),eC (.slice (some ⟨b36,0,none⟩) 2 2)],SlA.lit hb37 rfl rfl,⟨SlA.lit (hle9 _ _ (hle8 _ _ (hle7 _ _ hb34))) rfl rfl,SlA.lit (hle9 _ _ (hle8 _ _ hb35)) rfl rfl,SlA.lit (hle9 _ _ hb36) rfl rfl,trivial⟩⟩;refine lU (za1 I (build103 _ _ _ _ _ _ _ _ _)) (bW (aL zeroValue103) fun b5=>?_);refine oZ (sK 0 sizeOf103 I I I I I sB) ?_;refine tZ ?_;have hl1:=mZ hy3 (hlit30.mono (hle3.trans (hle4.trans (hle5.trans (hle6.trans (hle7.trans (hle8.trans hle9))))))) (hlit33.mono (hle6.trans (hle7.trans (hle8.trans hle9)))) hlit37;have hl2:=mZ hy33 (hlit30.mono (hle3.trans (hle4.trans (hle5.trans (hle6.trans (hle7.trans (hle8.trans hle9))))))) (hlit33.mono (hle6.trans (hle7.trans (hle8.trans hle9)))) hlit37;refine SC.to (fun w hw=>hw) (g':=g9) (s':=pt b5 (.cells #[.slice (some ⟨b30,0,none⟩) 1 1,.slice (some ⟨b33,0,none⟩) 2 2,.slice (some ⟨b37,0,none⟩) 3 3] 103 (0,0))::pt b3 (.cells #[.slice none 0 0] 30 (0,0))::pt b2 (.cells #[.slice none 0 0] 30 (0,0))::pt b1 (.cells #[vi kd,.slice p n c,vi y] 24 (0,0))::s) ?_;refine dW [12] [(0,2),(1,2),(2,1),(4,2),(5,1),(6,2),(3,0),(7,0),(8,2),(9,1),(10,0),(11,0),(12,0)] ze1 kR ?_;refine yM I (pU I (iB underlying103 kO I I oM oM) (pK I (qL (v:=Cs (bG y 3) (.slice (some ⟨b30,0,none⟩) 1 1) (.slice (some ⟨b33,0,none⟩) 2 2) (.slice (some ⟨b37,0,none⟩) 3 3)) lD I (cO 0 I (ur hy3 _ _ _))) (pU I (fA jY I zT3 I) (pK I (qL (v:=vi y) iT3 I (cO 3 I I)) (pU I (SU.quo I I dC) (SP.o I (cL call21 I (aI E g9 _ _ _ hl1 (by have:=(eG (bG y 3)).1; omega) (fun x hx=>by have:=(eG (bG y 3)).2 x hx; omega))) dC (.inr iR) ?_))))));rintro _ ga _ ⟨rfl,hlea,ua,rfl,hua⟩;obtain ⟨qa,da,rfl⟩:=hua.form;refine SP.o I (cL gD I (aK E ga _ _ 3 dC)) dC (.inr iR) ?_;rintro _ _ _ ⟨rfl,rfl,rfl⟩;refine pU I (iB underlying103 kO I I oM oM) (pK I (qL (v:=Cs (bG (IntKind.i64.wrap (y.tdiv 3)) 3) (.slice (some ⟨b30,0,none⟩) 1 1) (.slice (some ⟨b33,0,none⟩) 2 2) (.slice (some ⟨b37,0,none⟩) 3 3)) lD I (cO 0 I (ur hy33 _ _ _))) (SP.o I (cL call21 I (aI E ga _ _ _ (hl2.mono hlea) (by have:=(eG (bG (IntKind.i64.wrap (y.tdiv 3)) 3)).1; omega) (fun x hx=>by have:=(eG (bG (IntKind.i64.wrap (y.tdiv 3)) 3)).2 x hx; omega))) dC (.inr (by rintro _ gb _ ⟨rfl,hleb,ub,rfl,hub⟩; exact⟨by exact Le.trans (by assumption) (by assumption),(by exact .refl _)⟩)) ?_));rintro _ gb _ ⟨rfl,hleb,ub,rfl,hub⟩;obtain ⟨qb,db,rfl⟩:=hub.form;have hleab:=hlea.trans hleb;refine SP.o rfl (cL call57 rfl (ex E gb _ _ _ _ _ (hua.mono hleb) hub (dz _).1 (dz _).1)) dC (.inr (by rintro _ gc _ ⟨rfl,hlec,uc,rfl,huc⟩; exact⟨by exact Le.trans (by assumption) (by assumption),(by exact .refl _)⟩)) ?_;rintro _ gc _ ⟨rfl,hlec,uc,rfl,huc⟩;obtain ⟨qc,dc,rfl⟩:=huc.form;refine SP.on I (sK 1 aw I I I I I sB) (.inl dC) ?_;rintro _ _ _ ⟨rfl,rfl⟩;refine pN (bN (dR (s':=pt b3 (.cells #[(Value.slice qc _ dc)] 30 (0,0))::pt b2 (.cells #[.slice none 0 0] 30 (0,0))::pt b1 (.cells #[vi kd,.slice p n c,vi y] 24 (0,0))::s) (.cons _ (.refl _)) ?_));exact za7 (gc,_) sB I I ⟨(hle1.trans (hle2.trans (hle3.trans (hle4.trans (hle5.trans (hle6.trans (hle7.trans (hle8.trans hle9)))))))).trans (hlea.trans (hleb.trans hlec)),huc⟩
  ·refine rZ (lU (fA jY I zT3 I) (lK (qL (v:=vi kd) iT3 I (cO 2 I I)) (lW (cL gD I (aK E g _ _ 8 dC)) ?_)));rintro _ _ _ ⟨rfl,rfl,rfl⟩;rw[hm];refine tZ (bK (sQ (rZ (yE I (aT I (cF I (rZ (yE I (aT I (cF I (rG (yE I (aT I (cF I (rZ (yE I (aT I ?_)))))))))))))))));refine cF I (rZ (yE I (aT I (cF I (rZ (yE I (aT I (cT I (rG (lU (fA jY I zT3 I) (lK (qL (v:=vi y) iT3 I (cO 2 I I)) (lW (cL gD I (aK E g _ _ 5 dC)) ?_))))))))))));rintro _ _ _ ⟨rfl,rfl,rfl⟩;refine lU (SU.eq (v':=vi (((2+bG y 5).toNat:Nat):Int)) (aD I I oM) (zd9 vi oM)) (lW (cL call58 I (rL E g _ (2+bG y 5).toNat oM oM)) ?_);rintro _ g3 _ ⟨rfl,hle3,u,rfl,hu⟩;obtain ⟨q,d,rfl⟩:=hu.form;refine oZ (sK 0 aw I I I I I sB) ?_;refine nL (bN ?_);exact za7 (g3,_) sB I I ⟨hle3,hu⟩
  ·refine rZ (lU (fA jY I zT3 I) (lK (qL (v:=vi kd) iT3 I (cO 2 I I)) (lW (cL gD I (aK E g _ _ 8 dC)) ?_)));rintro _ _ _ ⟨rfl,rfl,rfl⟩;rw[hm];refine tZ (bK (sQ (rZ (yE I (aT I (cF I (rZ (yE I (aT I (cF I (rG (yE I (aT I (cF I (rZ (yE I (aT I ?_)))))))))))))))));refine cF I (rZ (yE I (aT I (cF I (rZ (yE I (aT I (cF I (rZ (yE I (aT I (cT I (rZ (lW (bS sty25 I I I (ab sB) dC) ?_))))))))))))));rintro _ _ _ ⟨b60,rfl,rfl,rfl⟩;refine zb3 fun g1 hle1 hb60=>?_;refine lW (bS sty22 I I I (ab ⟨I,trivial⟩) dC) ?_;rintro _ _ _ ⟨b61,rfl,rfl,rfl⟩;refine zb3 fun g2 hle2 hb61=>?_;have hlit61:ax g2 (.slice (some ⟨b61,0,none⟩) 1 1) [[0,1]]:=⟨[eC (.slice (some ⟨b60,0,none⟩) 2 2)],SlA.lit hb61 rfl rfl,⟨SlA.lit (hle2 _ _ hb60) rfl rfl,trivial⟩⟩;refine lW (cL call21 I (aI E g2 _ _ _ hlit61 dC dC)) ?_;rintro _ ga _ ⟨rfl,hlea,ua,rfl,hua⟩;obtain ⟨qa,da,rfl⟩:=hua.form;refine bW (aL zk9) fun b6=>?_;refine oZ (sK 0 aw I I I I I sB) ?_;refine tZ ?_;refine SC.to (fun w hw=>hw) (g':=ga) (s':=pt b6 (.cells #[.slice qa (bQ [[0,1]]).length da] 30 (0,0))::pt b3 (.cells #[.slice none 0 0] 30 (0,0))::pt b2 (.cells #[.slice none 0 0] 30 (0,0))::pt b1 (.cells #[vi kd,.slice p n c,vi y] 24 (0,0))::s) ?_;refine dW [5] [(0,1),(1,1),(3,1),(2,0),(4,0),(5,0)] ze1 kR ?_;refine pK I (qV 0 bh aw I I I) (pK I (qV 0 bh aw I I I) (pK I (qV 0 bh aw I I I) (SP.o I (cL call57 I (ex E ga _ _ _ _ _ hua hua (dz _).1 (dz _).1)) dC (.inr iR) ?_)));rintro _ gb _ ⟨rfl,hleb,ub,rfl,hub⟩;obtain ⟨qb,db,rfl⟩:=hub.form;refine SP.o rfl (cL call57 rfl (ex E gb _ _ _ _ _ hub (hua.mono hleb) (eu _ _).1 (dz _).1)) dC (.inr (by rintro _ gc _ ⟨rfl,hlec,uc,rfl,huc⟩; exact⟨by exact Le.trans (by assumption) (by assumption),(by exact .refl _)⟩)) ?_;rintro _ gc _ ⟨rfl,hlec,uc,rfl,huc⟩;obtain ⟨qc,dc,rfl⟩:=huc.form;refine SP.on I (sK 1 aw I I I I I sB) (.inl dC) ?_;rintro _ _ _ ⟨rfl,rfl⟩;refine pN (bN (dR (s':=pt b3 (.cells #[(Value.slice qc _ dc)] 30 (0,0))::pt b2 (.cells #[.slice none 0 0] 30 (0,0))::pt b1 (.cells #[vi kd,.slice p n c,vi y] 24 (0,0))::s) (.cons _ (.refl _)) ?_));exact za7 (gc,_) sB I I ⟨(hle1.trans hle2).trans (hlea.trans (hleb.trans hlec)),huc⟩
  ·refine rZ (lU (fA jY I zT3 I) (lK (qL (v:=vi kd) iT3 I (cO 2 I I)) (lW (cL gD I (aK E g _ _ 8 dC)) ?_)));rintro _ _ _ ⟨rfl,rfl,rfl⟩;rw[hm];refine tZ (bK (sQ (rZ (yE I (aT I (cF I (rZ (yE I (aT I (cF I (rG (yE I (aT I (cF I (rZ (yE I (aT I ?_)))))))))))))))));refine cF I (rZ (yE I (aT I (cF I (rZ (yE I (aT I (cF I (rZ (yE I (aT I (cF I (rZ (yE I (aT I (cT I ?_))))))))))))))));refine dW [13] [(0,2),(1,1),(3,2),(4,1),(6,2),(7,1),(2,0),(5,0),(8,0),(9,2),(10,2),(11,0),(12,0),(13,0)] ze1 kR ?_;refine pU I (fA jY I kO I) (pK I (qL (v:=.slice p n c) lD I (cO 2 I I)) (pU I (fA jY I zT3 I) (pK I (qL (v:=vi y) iT3 I (cO 2 I I)) (pU I (fA jY I zT3 I) (pK I (qL (v:=vi y) iT3 I (cO 2 I I)) (SP.o I (cL call55 I (kh E g _ _ ls hv)) dC (.inr iR) ?_))))));rintro v72 g1 _ ⟨rs1,rfl,hle1,hall1⟩;refine SP.o rfl (cL call56 rfl (ln E g1 _ y)) dC (.inr (by rintro v75 g2 _ ⟨rfl,hle2,hsv⟩; exact⟨by exact Le.trans (by assumption) (by assumption),(by exact .cons _ (.refl _))⟩)) ?_;rintro v75 g2 _ ⟨rfl,hle2,hsv⟩;obtain ⟨rs2,hrs2,hall2⟩:=hsv;have hrl2:=hall2.length;have hrl1:=hall1.length;obtain ⟨q2,d2,rfl⟩:=za2 hrs2;have hcap2:=(SlA.cap hrs2).2;have hcut:=SlA.cut hrs2 (l:=0) (m:=(2+bG y 2).toNat) (zf4 _) oM;rw[List.drop_zero,Nat.sub_zero] at hcut;refine SP.o rfl (cL gD rfl (aK E g2 _ _ 2 dC)) dC (.inr (by rintro _ _ _ ⟨rfl,rfl,rfl⟩; exact⟨by exact Le.trans (by assumption) (by assumption),(by exact .cons _ (.refl _))⟩)) ?_;rintro _ _ _ ⟨rfl,rfl,rfl⟩;refine pU I (aD I I oM) (pU I (SU.sliceH aY aR I I oM oM) (SP.o I (aQ (e:=ak) 0 sty22 I I I hcut (by rw[ze2]; omega) (by rw[ze2]; omega)) dC (.inr (by rintro v81 _ _ ⟨rfl,rfl⟩; exact⟨by exact Le.trans (by assumption) (by assumption),(by exact .cons _ (.refl _))⟩)) ?_));rintro v81 _ _ ⟨rfl,rfl⟩;refine SP.freezeRow fun g3 hle3 hs3=>?_;have hls:ax g3 v81 (li ls++(lh y).take (2+bG y 2).toNat):=⟨_,hs3,(hall1.mono fun _ _=>a7.mono (hle2.trans hle3)).append ((az.take _ hall2).mono fun _ _=>a7.mono hle3)⟩;have hle13:=hle1.trans (hle2.trans hle3);refine SP.o I (cL call21 I (aI E g3 _ _ _ hls (by rw[ze3,ze2]; omega) (fun x hx=>by rcases zf1.1 hx with h | h; (have:=hss.2 x h; omega); (have:=hsf.2.2 x (List.mem_of_mem_take h); omega)))) dC (.inr (by rintro _ g4 _ ⟨rfl,hle4,u,rfl,hu⟩; exact⟨by exact Le.trans (by assumption) (by assumption),(by exact .refl _)⟩)) ?_;rintro _ g4 _ ⟨rfl,hle4,u,rfl,hu⟩;obtain ⟨q,d,rfl⟩:=hu.form;refine SP.on I (sK 0 aw I I I I I sB) (.inl dC) ?_;rintro _ _ _ ⟨rfl,rfl⟩;refine pN (bN ?_);exact za7 (g4,_) sB I I ⟨hle1.trans (hle2.trans (hle3.trans hle4)),hu⟩
 rintro ⟨g1,bv⟩ ⟨hle1,hbv⟩;dsimp only at hle1 hbv ⊢;generalize hB:mB (bG kd 8) ls y=B at *;obtain ⟨qb,db,rfl⟩:=hbv.form;refine sQ (rZ (lU (fA ed I c8 I) (lK (qL (v:=.slice qb B.length db) eY I (cO 0 I I)) (lU (eN aA I) (lU (gR I I) (tZ ?_))))));refine iP I (fun hbig=>?_) (fun hbig=>?_)
 ·refine rG (lW (cL call59 I (vk E g1 _)) ?_);rintro _ g2 _ ⟨rfl,hle2,ut,rfl,hut⟩;obtain ⟨qt,dt,rfl⟩:=hut.form;refine oZ (sK 0 aw I I I I I sB) ?_;refine tZ (sQ ?_);refine SC.to (fun w hw=>hw) (g':=g2) (s':=pt b3 (.cells #[(Value.slice qt nR.length dt)] 30 (0,0))::pt b2 (.cells #[.slice none 0 0] 30 (0,0))::pt b1 (.cells #[vi kd,.slice p n c,vi y] 24 (0,0))::s) ?_;refine rG (lK (qV 0 bh aw I I I) (lU (fA jY I zT3 I) (lK (qL (v:=vi y) iT3 I (cO 2 I I)) (lW (cL call60 I (jf E g2 _ _ nR y hut (eu _ _).1)) ?_))));rintro _ g3 _ ⟨rfl,hle3,x3,rfl,hx3⟩;obtain ⟨q3,d3,rfl⟩:=hx3.form;refine oZ (sK 1 aw I I I I I sB) ?_;refine tZ (rE ?_);exact ST.retCD 1 s (.inl I) results27 I bh aw I I uR ⟨I,hle1.trans (hle2.trans hle3),_,I,by unfold n8; rw[zf8 hbig]; exact hx3⟩
 ·refine kP (tN (sQ ?_));refine SC.to (fun w hw=>hw) (g':=g1) (s':=pt b3 (.cells #[(Value.slice qb B.length db)] 30 (0,0))::pt b2 (.cells #[.slice none 0 0] 30 (0,0))::pt b1 (.cells #[vi kd,.slice p n c,vi y] 24 (0,0))::s) ?_;refine rG (lK (qV 0 bh aw I I I) (lU (fA jY I zT3 I) (lK (qL (v:=vi y) iT3 I (cO 2 I I)) (lW (cL call60 I (jf E g1 _ _ B y hbv hfit)) ?_))));rintro _ g3 _ ⟨rfl,hle3,x3,rfl,hx3⟩;obtain ⟨q3,d3,rfl⟩:=hx3.form;refine oZ (sK 1 aw I I I I I sB) ?_;refine tZ (rE ?_);exact ST.retCD 1 s (.inl I) results27 I bh aw I I uR ⟨I,hle1.trans hle3,_,I,by unfold n8; rw[zf7 hbig]; exact hx3⟩
theorem tu (a b:Int)(h0:0<b)(h1:b≤1099511627776):0≤bG a b∧bG a b<b:=by
 have h2:a.tmod b<b:=Int.tmod_lt_of_pos a h0;have h3 : -b<a.tmod b:=by
  have:=Int.lt_tmod_of_pos a h0;omega
 unfold bG;rw[zk4 _ oM,Int.tmod_eq_emod_of_nonneg oM];exact⟨zk1 _ oM,zj9 _ h0⟩
theorem uA (a:Int)(n:Nat)(h0:0<n)(h1:n≤1099511627776):bG a n=(((bG a n).toNat:Nat):Int)∧(bG a n).toNat<n:=by
 have:=tu a n oM oM;omega
set_option maxHeartbeats 2000000
theorem az.eraseIdx {α β:Type}{R:α→β→Prop}:∀ {l:List α} {rs:List β} (k:Nat),az R l rs→az R (l.eraseIdx k) (rs.eraseIdx k)
 | [],[],_,_=>trivial
 | _::_,_::_,0,h=>h.2
 | _::_,_::_,k+1,h=>⟨h.1,az.eraseIdx k h.2⟩
 | [],_::_,_,h=>h.elim
 | _::_,[],_,h=>h.elim
open Go.ChangeShapes Go.WideShapes Go.ChangeAt Go.RowKit
set_option maxRecDepth 100000
def tY (W:World):PH:=fun b=>W.heap[b]?
def E0 (W:World):World:={ W with drawn:=0 }
theorem Az (W:World):At (E0 W) (tY W) [] W:=⟨rfl,⟨rfl,zf4 _⟩,rfl,fun _ _ h=>h,by simp,by simp,List.Pairwise.nil⟩
theorem AC {W W':World}{g:PH}{s:Own}(h:At (E0 W) g s W')(hl:Le (tY W) g):Below W.heap.size W W':=by
 have hb:∀ k,k<W.heap.size→W'.heap[k]?=W.heap[k]?:=fun k hk=>by
  have h1:W.heap[k]?=some W.heap[k]:=Array.getElem?_eq_getElem hk;rw[h1];exact h.known k _ (hl k _ h1)
 refine⟨h.os,h.tape.1,h.output,?_,hb⟩;refine zg7 fun hc=>?_;have h1:=hb W'.heap.size oM;rw[Array.getElem?_eq_none (lR _),Array.getElem?_eq_getElem oM] at h1;cases h1
theorem AP {W:World}{a:Addr}{len cap:Nat}{xs:List Value}(hl:len≤cap)(hx:xs.length=len)(hc:∀ i x,xs[i]?=some x→W.cell? (a.add i)=some x):Sl (tY W) 1 (.slice (some a) len cap) len xs:=by
 refine⟨some a,cap,I,⟨oM,hl⟩,fun hne=>?_⟩;obtain ⟨b,o,sp⟩:=a;have h0:0<xs.length:=List.length_pos_iff.2 hne;have hc0:=hc 0 xs[0] (gE h0);have hsp:sp=none:=by simpa [Addr.add] using World.cell?_spot hc0
 subst hsp;have hadd:∀ i,(⟨b,o,none⟩:Addr).add i=⟨b,o+i,none⟩:=fun i=>by unfold Addr.add; split <;> simp_all
 simp only[hadd] at hc;have hcell:∀ i x,xs[i]?=some x→∃ cs T fr,W.heap[b]?=some (.cells cs T fr)∧cs[o+i]?=some x:=fun i x hi=>by
  have h1:=hc i x hi;unfold World.cell? at h1;split at h1
  ·rename_i cs T fr hh;exact⟨cs,T,fr,hh,by simpa using h1⟩
  ·cases h1
 obtain ⟨cs,T,fr,hb,_⟩:=hcell 0 xs[0] (gE h0);refine⟨b,o,cs,T,fr,I,hb,fun j x hj=>?_⟩;obtain ⟨cs',T',fr',hb',h2⟩:=hcell j x hj;rw[hb] at hb';cases hb';exact h2
section
variable {H:Type}{enc:TypeId×Value→H}{W:World}{base:Nat}{spare:Nat→Bool}{hd:Bool}
theorem Tryz.cells3:Tryz.prog.cellsOf 3=1:=by kernel_rfl
theorem Tryz.cells25:Tryz.prog.cellsOf 25=1:=by kernel_rfl
theorem Tryz.cells24:Tryz.prog.cellsOf 24=3:=by kernel_rfl
theorem xe {fuel:Nat}{v:Value}{x:DataW H×List MemPlace}(h:DataW.trod enc Tryz.prog W base spare hd fuel 25 [v]=some x):∃ (l:List Int) (r:Sv),v = .slice r.p r.n r.c∧bC (tY W) v l:=by
 rcases open_ints ah uT3 cells3 h with ⟨hcs,_⟩ | ⟨a,len,cap,zs,hcs,_,hl,_,hz,_,hcell,_⟩
 ·simp at hcs;subst hcs;exact⟨[],⟨none,0,0⟩,I,zb8 _ _⟩
 ·simp at hcs;subst hcs;have hlz:len≤zs.length:=by rw[hz]; split <;> omega
  have hlen:(zs.take len).length=len:=by rw[ze2]; omega
  have he:(zs.take len).flatMap encInt.enc=(zs.take len).map vi:=by
   rw[List.flatMap_def];induction zs.take len with
   | nil=>rfl
   | cons y t ih=>simp[encInt] at ih ⊢; exact ih
  refine⟨zs.take len,⟨some a,len,cap⟩,I,?_⟩;show Sl (tY W) 1 _ (zs.take len).length ((zs.take len).flatMap encInt.enc);rw[he,hlen];refine AP hl (by rw[ze4,hlen]) fun i y hi=>?_;rw[zh7] at hi;cases hc:(zs.take len)[i]? with
  | none=>rw[hc] at hi; cases hi
  | some z =>
   rw[hc] at hi;cases hi;have hil:i<(zs.take len).length:=(zf3.1 hc).1;have hi2:i<zs.length:=oM;rw[hcell i hi2];have:zs.getD i 0=z:=by
    rw[zh8] at hc;split at hc
    ·rw[zg8,hc]; rfl
    ·cases hc
   rw[this]
theorem u4 {α β γ:Type}{R:α→β→Prop}{f:γ→α}{k:γ→β}:∀ {l:List γ},(∀ i∈l,R (f i) (k i))→az R (l.map f) (l.map k)
 | [],_=>trivial
 | x::l,h=>⟨h x (by simp),u4 fun i hi=>h i (by simp[hi])⟩
instance:Inhabited (List Int×Sv):=⟨([],⟨none,0,0⟩)⟩
theorem z7 {fuel:Nat}{v:Value}{x:DataW H×List MemPlace}(h:DataW.trod enc Tryz.prog W base spare hd fuel 22 [v]=some x):∃ ls,ax (tY W) v ls:=by
 rcases Go.Deep.open_slice1 aY cells25 h with ⟨hcs,_⟩ | ⟨a,len,cap,m,n,V,D,Pl,hcs,_,hl,_,hmm,_,hx⟩
 ·simp at hcs;subst hcs;exact⟨[],[],zb8 _ _,trivial⟩
 ·simp at hcs;subst hcs;have hlm:len≤m:=by rw[hmm]; split <;> omega
  obtain ⟨f,hf⟩:=Go.Deep.choose_lt (α:=List Int×Sv) (n:=len) (p:=fun i y=>V i = .slice y.2.p y.2.n y.2.c∧bC (tY W) (V i) y.1) fun i hi=>by
   obtain ⟨l,r,h1,h2⟩:=xe (hx i oM).2;exact⟨(l,r),h1,h2⟩
  refine⟨(List.range len).map fun i=>(f i).1,(List.range len).map fun i=>(f i).2,?_,u4 fun i hi=>?_⟩
  ·show Sl (tY W) 1 _ ((List.range len).map fun i=>(f i).2).length (((List.range len).map fun i=>(f i).2).flatMap ak.enc);have he:((List.range len).map fun i=>(f i).2).flatMap ak.enc=(List.range len).map fun i=>V i:=by
    have:∀ l:List Nat,(∀ i∈l,i<len)→(l.map fun i=>(f i).2).flatMap ak.enc=l.map fun i=>V i:=by
     intro l;induction l with
     | nil=>intro _; rfl
     | cons y t ih =>
      intro hy;rw[zg2,zh3,ih fun i hi=>hy i (by simp[hi]),zg2,(hf y (hy y (by simp))).1];rfl
    exact this _ fun i hi=>List.mem_range.1 hi
   rw[he,ze4,zi2];refine AP hl (by simp) fun i y hi=>?_;rw[zh7] at hi;cases hc:(List.range len)[i]? with
   | none=>rw[hc] at hi; cases hi
   | some z =>
    rw[hc] at hi;cases hi;obtain ⟨h1,h2⟩:=zf3.1 hc;simp at h1 h2;subst h2;exact (hx i oM).1
  ·have:=hf i (List.mem_range.1 hi);unfold a7;rw[← this.1];exact this.2
theorem rN {r:Reach}{b0:Nat}{P:Program}{w:World}{t e:TypeId}{n:Nat}{v:Value}(ht:P.underlying t=some (.array n e))(h:Value.okWide P w r b0 t v):∃ cs,v = .agg cs∧cs.size=P.cellsOf t:=by
 simp only[Value.okWide,ht] at h;obtain ⟨cs,h1,h2,_⟩:=h;exact⟨cs,h1,h2⟩
theorem zA {r:Reach}{b0:Nat}{v:Value}{d:DataW H}{p:List MemPlace}(hv:Value.okWide Tryz.prog W r b0 24 v)(h:DataW.Trod enc Tryz.prog W base spare hd 24 v d p):∃ (k y:Int) (u:Value) (ls:List (List Int)),v = .agg #[vi k,u,vi y]∧ax (tY W) u ls:=by
 obtain ⟨c0,c1,c2,y0,y1,y2,n,rfl,_,_,h0,h1,h2⟩:=Go.Joins.open_agg3 jY kR cells24 hv h;obtain ⟨a,e0,_,_⟩:=DataW.trod_int uT3 h0;obtain ⟨c,e2,_,_⟩:=DataW.trod_int uT3 h2;obtain ⟨ls,hls⟩:=z7 h1;simp at e0 e2;subst e0;subst e2;exact⟨a,c,c1,ls,I,hls⟩
end
end Go.Proofs.YtcfkpajlakidbaaGreat
namespace Go.Sy
open Go
section
variable {P:Program}{N:Nat}{E:World}{f:Fr}{g:PH}{s s1:Own}{dst:Option Tmp}{ty:TypeId}{pos:String}{af:Array Edge}{gd:Option (Nat×Bool)}{α:Type}{k:Nat}{e:Enc α k}
def que (e:Enc α k)(T:TypeId)(v:Value)(l:List α):Ent :=
 ⟨gW v,fun oo=>(∃ p,v = .slice p 0 0∧l=[]) ∨
  ∃ b o cap cur,v = .slice (some ⟨b,o,none⟩) l.length (cap+1)∧oo=some (.cells cur T (0,0))∧l.length≤cap+1∧cap+1≤maxLen∧cur.size=o+(cap+1) * k∧(cur.toList.drop o).take (l.length * k)=l.flatMap e.enc⟩
theorem sE {w:World}{T:TypeId}{i:Nat}{v:Value}{l:List α}(h:At E g s w)(hi:s[i]?=some (que e T v l)):(∃ p,v = .slice p 0 0∧l=[]) ∨
  ∃ b o cap cur,v = .slice (some ⟨b,o,none⟩) l.length (cap+1)∧w.heap[b]?=some (.cells cur T (0,0))∧l.length≤cap+1∧cap+1≤maxLen∧cur.size=o+(cap+1) * k∧(cur.toList.drop o).take (l.length * k)=l.flatMap e.enc:=by
 rcases h.own _ (zf9 hi) with h2 | ⟨b,o,cap,cur,rfl,ho,h3⟩
 ·exact .inl h2
 ·refine .inr ⟨b,o,cap,cur,I,?_,h3⟩;simpa [que,gW] using ho
theorem ki {w:World}{T:TypeId}{b o cap:Nat}{l:List α}{cur:Array Value}(hb:w.heap[b]?=some (.cells cur T (0,0)))(hn:l.length≤cap+1)(hc:cap+1≤maxLen)(hs:cur.size=o+(cap+1) * k)(ht:(cur.toList.drop o).take (l.length * k)=l.flatMap e.enc) :
  (que e T (.slice (some ⟨b,o,none⟩) l.length (cap+1)) l).holds ((que e T (.slice (some ⟨b,o,none⟩) l.length (cap+1)) l).blk.bind fun b=>w.heap[b]?) :=
 .inr ⟨b,o,cap,cur,rfl,by simpa [que,gW] using hb,hn,hc,hs,ht⟩
theorem zO {w:World}{T:TypeId}{i:Nat}{v:Value}{l:List α}(h:At E g s w)(hi:s[i]?=some (que e T v l)):∃ p c,v = .slice p l.length c∧(0<l.length→based v=true):=by
 rcases sE h hi with ⟨p,rfl,rfl⟩ | ⟨b,o,cap,cur,rfl,_⟩
 ·exact⟨_,_,I,fun h=>absurd h (by simp)⟩
 ·exact⟨_,_,I,fun _=>I⟩
theorem At.toQue {w:World}{T:TypeId}{i:Nat}{v:Value}{l:List α}(h:At E g s w)(hi:s[i]?=some (rowA e T v l)):At E g (s.set i (que e T v l)) w:=by
 obtain ⟨hxl,hform⟩:=eK h hi;refine h.turn hi I ⟨I,lR _⟩ I (lR _) (fun _ _ _=>I) ?_ (fun b hb=>⟨(h.fresh _ (zf9 hi) b hb).2,.inl hb⟩)
 rcases hform with ⟨q,rfl,h0⟩ | ⟨b,cap,cur,rfl,hg,hle,hcm,hcs,htake⟩
 ·exact .inl ⟨q,I,zf2 h0⟩
 ·exact ki hg hle hcm (by rw[hcs]; omega) (by simpa using htake)
theorem At.front {w:World}{T:TypeId}{i c n:Nat}{p:Option Addr}{a:α}{l:List α}(h:At E g s w)(hi:s[i]?=some (que e T (.slice p n c) (a::l))):At E g (s.set i (que e T (sliced p 1 n c k) l)) w:=by
 rcases sE h hi with ⟨q,he,h0⟩ | ⟨b,o,cap,cur,he,hg,hle,hcm,hcs,htake⟩
 ·cases h0
 ·injection he with e1 e2 e3
  subst e1; subst e2; subst e3;have hfr:=h.fresh _ (zf9 hi) b rfl;cases cap with
  | zero =>
   have hl0:l=[]:=by simpa using hle
   subst hl0;refine h.turn hi I ⟨I,lR _⟩ I (lR _) (fun _ _ _=>I) (.inl ⟨_,I,I⟩) (fun b' hb'=>?_);simp[que,sliced,gW] at hb'
  | succ cap =>
   have hsl:sliced (some ⟨b,o,none⟩) 1 (a::l).length (cap+1+1) k = .slice (some ⟨b,o+k,none⟩) l.length (cap+1):=by
    simp[sliced,Addr.add_lit]
   rw[hsl];refine h.turn hi I ⟨I,lR _⟩ I (lR _) (fun _ _ _=>I) ?_ (fun b' hb'=>?_)
   ·refine ki hg (by simpa using hle) oM (by rw[hcs,Nat.succ_mul (cap+1)]; omega) ?_;have h1:=zd9 (List.drop k) htake;rw[zh3,List.drop_left' (e.len a),List.drop_take,List.drop_drop] at h1;have h2:(a::l).length * k - k=l.length * k:=by rw[ze6,Nat.succ_mul]; omega
    rw[h2] at h1;exact h1
   ·simp only[que,gW,zg5] at hb';subst hb';exact⟨hfr.2,.inl I⟩
theorem Rd.que {T:TypeId}{v:Value}{l:List α}(i:Nat)(hi:s[i]?=some (que e T v l)):Rd g s v (l.flatMap e.enc):=by
 intro E w hw j x hj
 rcases sE hw hi with ⟨p,rfl,rfl⟩ | ⟨b,o,cap,cur,rfl,hb,_,_,_,ht⟩
 ·simp at hj
 ·refine⟨⟨b,o,none⟩,l.length,cap+1,I,I,?_⟩;rw[← ht,zh8] at hj;split at hj
  ·rw[zh9] at hj;simp[World.cell?,hb];simpa using hj
  ·cases hj
theorem l9 (w:World)(t ty e:TypeId)(i:TypeInfo)(ht:P.underlying t=some (.slice e))(hi:P.info? e=some i)
  (g o sLen sCap:Nat) (cur:Array Value) (hg:w.heap[g]?=some (.cells cur e (0,0)))
  (a:Addr) (m c:Nat) (news:List Value) (hl:news.length=m * i.size) (hnews:∀ j u,news[j]?=some u→w.cell? (a.add j)=some u) (h1:∀ u∈news,u.oneCell'=true)
  (hroom:sLen+m≤sCap) (hfit:o+sLen * i.size+news.length≤cur.size) :
  (Builtin.append_ #[t,t] ty #[.slice (some ⟨g,o,none⟩) sLen sCap,.slice (some a) m c]).run P w =
   .ok (.slice (some ⟨g,o,none⟩) (sLen+m) sCap) (w.setRow g (cur.toList.take (o+sLen * i.size)++news++cur.toList.drop (o+sLen * i.size+news.length)).toArray):=by
 have hf:=run_firstCells_some (P:=P) w i.size m a m c news hl hnews;have hst:=run_storeCells_at P g (o+sLen * i.size) e news 0 cur w hg (by simpa using hfit) h1;simp only[Nat.add_zero] at hst;simp[Builtin.append_,run_underlying ht,sizeOf,typeInfo,hi,Builtin.lenOf,hroom,hf,Addr.add_lit,hst]
theorem At.newQue {w w':World}{T:TypeId}{i cap:Nat}{v:Value}{l:List α}{a:α}{zs:List Value}(h:At E g s w)(hi:s[i]?=some (que e T v l))(hw':w'=w.drew.alloc (.cells ((l.flatMap e.enc).toArray++(e.enc a).toArray++zs.toArray) T))
  (hc:l.length+1≤cap) (hcm:cap≤maxLen) (hz:zs.length=(cap - (l.length+1)) * k) :
  At E g (s.set i (que e T (.slice (some ⟨w.heap.size,0,none⟩) (l.length+1) cap) (l++[a]))) w':=by
 subst hw';obtain ⟨cap,rfl⟩:∃ c,cap=c+1:=⟨cap - 1,oM⟩;have hnew:(w.drew.alloc (.cells ((l.flatMap e.enc).toArray++(e.enc a).toArray++zs.toArray) T)).heap[w.heap.size]?=some (.cells ((l.flatMap e.enc).toArray++(e.enc a).toArray++zs.toArray) T (0,0)):=heap_alloc_new w.drew _;have hlen:l.length+1=(l++[a]).length:=by simp
 rw[hlen];refine h.turn hi I ⟨I,(by exact Nat.le_add_right _ _)⟩ I (by simp) (fun k hk _=>by (first | exact heap_alloc_old w.drew _ k hk | exact heap_alloc_old w.drew _ hk)) (ki hnew (by simpa using hc) hcm ?_ ?_) (fun b hb=>?_)
 ·simp only[Array.size_append,List.size_toArray,e.length,e.len,hz];have:(cap+1) * k=(l.length+1) * k+(cap+1 - (l.length+1)) * k:=by rw[← Nat.add_mul]; congr 1; omega
  rw[this,Nat.add_mul];omega
 ·have:(l++[a]).length * k=(l.flatMap e.enc++e.enc a).length:=by simp[e.length,e.len,Nat.add_mul]
  rw[this];simp only[Array.toList_append,List.drop_zero];rw[List.take_left,List.flatMap_append];simp
 ·simp only[que,gW,zg5] at hb;subst hb;exact⟨by simp,.inr (lR _)⟩
theorem SO.queA {bytes b:Nat}{x y:Operand}{t T:TypeId}{z v:Value}{l:List α}{cs:Array Value}(i:Nat)(a:α)(hT:STy P t T k bytes z)(hx:ev f x=some v)(hy:ev f y=some (.slice (some ⟨b,0,none⟩) 1 1))
  (hs:s=pt b (.cells cs T (0,0))::s1) (hi:s1[i]?=some (que e T v l)) (hc:cs.toList=e.enc a) (hb:(l.length+1) * bytes≤140737488355328) (hlen:l.length+1≤4611686018427387904) :
  SO P N E ⟨dst,.call ⟨.builtin .append,#[x,y],#[t,t]⟩,ty,pos,af,gd⟩ f g s fun v' g' s'=>g=g'∧s'=s1.set i (que e T v' (l++[a])) :=
 SO.of_run fun a0 w ha hw0=>by
  have hr:Rd g s (.slice (some ⟨b,0,none⟩) 1 1) cs.toList:=Rd.pt 0 (by rw[hs]; rfl);have hw:At E g s1 w:=hw0.sublist (by rw[hs]; exact .cons _ (.refl _));obtain ⟨ti,ht1,ht2,ht3,ht4⟩:=hT.info;rw[hc] at hr;have hcells:∀ j q,(e.enc a)[j]?=some q→w.cell? ((⟨b,0,none⟩:Addr).add j)=some q:=fun j q hq=>by
   obtain ⟨a',_,_,he,_,hc⟩:=hr E w hw0 j q hq;cases he;have hadd:(⟨b,0,none⟩:Addr).add j=⟨b,0+j,none⟩:=by unfold Addr.add; split <;> simp_all
   rw[hadd];exact hc
  have hl1:(e.enc a).length=1 * k:=by rw[e.len]; omega
  have hzs:∀ c,(Builtin.zeroCells z.cells c).toList.length=c * k:=fun c=>by simp[size_zeroCells,hT.zs]
  have key:∃ v' w',(Builtin.append_ #[t,t] ty #[v,.slice (some ⟨b,0,none⟩) 1 1]).run P w = .ok v' w'∧At E g (s1.set i (que e T v' (l++[a]))) w':=by
   rcases sE hw hi with ⟨q,rfl,rfl⟩ | ⟨bq,o,cap,cur,rfl,hg,hle,hcm,hcs,htake⟩
   ·have hge:=grownCap_ge w (0+1) 0 T;have hcm:=grownCap_le_maxLen w (0+1) 0 T (by unfold maxLen; omega);cases q with
    | none =>
     have h5:=run_append_nil (P:=P) w t ty T ti z hT.und ht1 ht2 ⟨b,0,none⟩ 1 1 (e.enc a) (by rw[ht3]; exact hl1) hcells oM oM (by rw[ht4]; simp at hb; omega);have h6:=hw.newQue (e:=e) (l:=[]) (a:=a) (zs:=(Builtin.zeroCells z.cells (grownCap w (0+1) 0 T - (0+1))).toList) hi rfl hge hcm (by rw[hzs]; rfl);refine⟨_,_,h5,?_⟩;simpa using h6
    | some q =>
     have h5:=run_append_grow (P:=P) w t ty T ti z hT.und ht1 ht2 q 0 0 [] (by simp) (by simp) ⟨b,0,none⟩ 1 1 (e.enc a) (by rw[ht3]; exact hl1) hcells oM oM (by rw[ht4]; exact growslice_fits oM (by simpa using hb));have h6:=hw.newQue (e:=e) (l:=[]) (a:=a) (zs:=(Builtin.zeroCells z.cells (grownCap w (0+1) 0 T - (0+1))).toList) hi rfl hge hcm (by rw[hzs]; rfl);refine⟨_,_,h5,?_⟩;simpa using h6
   ·by_cases hroom:l.length+1≤cap+1
    ·have hfit:o+l.length * k+(e.enc a).length≤cur.size:=by
      rw[hl1,hcs,Nat.add_assoc,← Nat.add_mul];exact Nat.add_le_add_left (Nat.mul_le_mul_right _ hroom) _
     have h5:=l9 (P:=P) w t ty T ti hT.und ht1 bq o l.length (cap+1) cur hg ⟨b,0,none⟩ 1 1 (e.enc a) (by rw[ht3]; exact hl1) hcells (e.one a) hroom (by rw[ht3]; exact hfit);refine⟨_,_,h5,?_⟩;have hfr:=hw.fresh _ (zf9 hi) bq rfl;have hlen:l.length+1=(l++[a]).length:=by simp
     rw[hlen];refine hw.turn hi I ⟨I,(by exact lR _)⟩ I (by simp) (fun k' _ hk'=>setRow_other w bq k' _ (fun e1=>hk' (by simp[que,gW,e1]))) (ki (setRow_heap w bq cur _ T _ hg) (by simpa using hroom) hcm ?_ ?_) (fun b' hb'=>?_)
     ·rw[ht3];simp only[List.size_toArray,ze3,ze2,ze7,Array.length_toList];omega
     ·rw[ht3];have hsz:cur.toList.length=cur.size:=by simp
      have h1:cur.toList.take (o+l.length * k)=cur.toList.take o++l.flatMap e.enc:=by
       rw[← htake,List.take_add]
      have h2:(cur.toList.take o).length=o:=by rw[ze2]; omega
      simp only[h1,zg6];rw[List.drop_left' h2,← zg6];have h3:(l++[a]).length * k=(l.flatMap e.enc++e.enc a).length:=by simp[e.length,e.len,Nat.add_mul]
      rw[h3,List.take_left,List.flatMap_append];simp
     ·simp only[que,gW,zg5] at hb';subst hb';exact⟨by simpa using hfr.2,.inl I⟩
    ·have holds:∀ j q,(l.flatMap e.enc)[j]?=some q→w.cell? ((⟨bq,o,none⟩:Addr).add j)=some q:=fun j q hq=>by
      have hadd:(⟨bq,o,none⟩:Addr).add j=⟨bq,o+j,none⟩:=by unfold Addr.add; split <;> simp_all
      rw[← htake,zh8] at hq;split at hq
      ·rw[zh9] at hq;rw[hadd]; simp[World.cell?,hg]; simpa using hq
      ·cases hq
     have hge:=grownCap_ge w (l.length+1) (cap+1) T;have hcm':=grownCap_le_maxLen w (l.length+1) (cap+1) T (by unfold maxLen; omega);have h5:=run_append_grow (P:=P) w t ty T ti z hT.und ht1 ht2 ⟨bq,o,none⟩ l.length (cap+1) (l.flatMap e.enc) (by rw[ht3]; exact e.length l) holds ⟨b,0,none⟩ 1 1 (e.enc a) (by rw[ht3]; exact hl1) hcells oM oM (by rw[ht4]; exact growslice_fits oM hb);have h6:=hw.newQue (a:=a) (zs:=(Builtin.zeroCells z.cells (grownCap w (l.length+1) (cap+1) T - (l.length+1))).toList) hi rfl hge hcm' (by rw[hzs]);refine⟨_,_,h5,?_⟩;simpa using h6
  obtain ⟨v',w',hr1,hr2⟩:=key;exact⟨v',w',g,_,lp (ha.ev hx) (ha.ev hy) hr1,hr2,I,I⟩
end
end Go.Sy
namespace Go.Proofs.YtcfkpajlakidbaaGreat
open _root_.Go.Proofs.Tryz _root_.Go.Proofs.YtcfkpajlakidbaaGreat.Tryz
open Go Go.Sy Go.Pl Go.Proofs
def i5 (A:List Cl)(k:Int):Option (List Int):=(aJ A k).map fun c=>c.sides.map aj.cell
theorem om (A:List Cl):∀ (n:Nat) (id:Int) (vis:List Int),cd A n id vis=dfs (i5 A) n id vis
 | 0,_,_=>rfl
 | n+1,id,vis=>by
  rw[nh,iW];unfold i5;cases aJ A id with
  | none=>rfl
  | some c =>
   simp only[Option.map_some,List.foldl_map];congr 2;funext v x;exact om A n x.cell v
theorem yY {A:List Cl}{k:Int}{l:List Int}(h:i5 A k=some l):∃ c,aJ A k=some c∧c.sides.map aj.cell=l:=by
 unfold i5 at h;cases hf:aJ A k with
 | none=>rw[hf] at h; cases h
 | some c=>rw[hf] at h; injection h with h; exact⟨c,I,h⟩
theorem tH (A:List Cl):∀ v k l,i5 A k=some l→l≠[]→v.contains k=false→nG A (v++[k])<nG A v:=by
 intro v k l hl _ hv;obtain ⟨c,hf,_⟩:=yY hl;obtain ⟨hm,rfl⟩:=cI hf;exact xq hm hv
def sC (A:List Cl)(v:List Int):Prop:=∀ x∈v,∀ l,i5 A x=some l→∀ y∈l,i5 A y≠none→y∈v
theorem qM (A:List Cl):∀ (ids v:List Int),sC A v→sC A (ids.foldl (fun v id=>cd A (A.length+1) id v) v)∧(∀ x∈v,x∈ids.foldl (fun v id=>cd A (A.length+1) id v) v) ∧
  (∀ id∈ids,i5 A id≠none→id∈ids.foldl (fun v id=>cd A (A.length+1) id v) v)∧∀ x∈ids.foldl (fun v id=>cd A (A.length+1) id v) v,x∈v∨∃ id∈ids,Rch (i5 A) id x
 | [],v,h=>⟨h,fun _ h=>h,by simp,fun _ h=>.inl h⟩
 | id::ids,v,h=>by
  have hc:=jb (i5 A) (nG A) (fun v v' h=>mS h) (tH A) (A.length+1) id v (zk3 (xu _ _));have hs:=o4 (i5 A) (A.length+1) id v;have hd:=mR (i5 A) (A.length+1) id v;rw[← om] at hc hs hd;have hcl:sC A (cd A (A.length+1) id v):=by
   intro x hx l hl y hy hn;by_cases hv:x∈v
   ·exact hs y (h x hv l hl y hy hn)
   ·exact hc.2 x hx hv l hl y hy hn
  obtain ⟨h1,h2,h3,h4⟩:=qM A ids _ hcl;simp only[zi5];refine⟨h1,fun x hx=>h2 x (hs x hx),fun q hq hn=>?_,fun x hx=>?_⟩
  ·rcases ze8.1 hq with rfl | hq
   ·exact h2 _ (hc.1 hn)
   ·exact h3 q hq hn
  ·rcases h4 x hx with h5 | ⟨q,hq,h5⟩
   ·rcases hd x h5 with h6 | h6
    ·exact .inl h6
    ·exact .inr ⟨id,by simp,h6⟩
   ·exact .inr ⟨q,by simp[hq],h5⟩
theorem x9 (A:List Cl)(ids:List Int)(x:Int):x∈dq A ids↔∃ id∈ids,Rch (i5 A) id x:=by
 obtain ⟨h1,_,h3,h4⟩:=qM A ids [] (fun x hx=>absurd hx (by simp));refine⟨fun h=>(h4 x h).resolve_left (by simp),fun ⟨id,hid,hr⟩=>?_⟩;have key:∀ a b,Rch (i5 A) a b→a∈dq A ids→b∈dq A ids:=by
  intro a b hr;induction hr with
  | refl a _=>exact fun h=>h
  | step a b c l hl hb r ih=>exact fun h=>ih (h1 a h l hl b hb r.node)
 exact key id x hr (h3 id hid hr.node)
def fh (A:List Cl)(m:List Int):Nat:=((A.filter fun c=>!m.contains c.id).map fun c=>c.sides.length).sum
theorem jp (d:Cl)(A:List Cl)(m:List Int):fh (d::A) m=(if m.contains d.id then 0 else d.sides.length)+fh A m:=by
 unfold fh;rw[zi4];cases m.contains d.id <;> simp
theorem wh (A:List Cl)(m:List Int)(x:Int):fh A (m++[x])≤fh A m:=by
 induction A with
 | nil=>exact lR _
 | cons d t ih =>
  rw[jp,jp];have:m.contains d.id=true→(m++[x]).contains d.id=true:=fun h=>by simp at h ⊢; exact .inl h
  cases h1:m.contains d.id <;> cases h2:(m++[x]).contains d.id <;> simp_all <;> omega
theorem qK {A:List Cl}{m:List Int}{c:Cl}(hc:c∈A)(hn:m.contains c.id=false):fh A (m++[c.id])+c.sides.length≤fh A m:=by
 induction A with
 | nil=>simp at hc
 | cons d t ih =>
  have hm:=wh t m c.id;rw[jp,jp]
  rcases ze8.1 hc with rfl | hc'
  ·have:(m++[c.id]).contains c.id=true:=by simp
   rw[this,hn];simp;omega
  ·have h0:=ih hc';have:m.contains d.id=true→(m++[c.id]).contains d.id=true:=fun h=>by simp at h ⊢; exact .inl h
   cases h1:m.contains d.id <;> cases h2:(m++[c.id]).contains d.id <;> simp_all <;> omega
structure r6 (A:List Cl)(ids left m:List Int):Prop where
 sound:∀ x∈m,∃ id∈ids,Rch (i5 A) id x
 todo:∀ x∈left,i5 A x≠none→∃ id∈ids,Rch (i5 A) id x
 start:∀ x∈ids,i5 A x≠none→x∈left∨x∈m
 sides:∀ x∈m,∀ l,i5 A x=some l→∀ y∈l,i5 A y≠none→y∈left∨y∈m
 few:left.length+fh A m≤ids.length+fh A []
theorem r6.begin (A:List Cl)(ids:List Int):r6 A ids ids []:=⟨by simp,fun x hx h=>⟨x,hx,.refl x h⟩,fun x hx _=>.inl hx,by simp,Nat.le_refl _⟩
theorem Rch.snoc {adj:Int→Option (List Int)}{a b c:Int}{l:List Int}(h:Rch adj a b)(hl:adj b=some l)(hc:c∈l)(hn:adj c≠none):Rch adj a c:=by
 induction h with
 | refl a _=>exact .step a c c l hl hc (.refl c hn)
 | step a b' c' l' h' hb' _ ih=>exact .step a b' c l' h' hb' (ih hl)
theorem r6.skip {A:List Cl}{ids left m:List Int}{x:Int}(h:r6 A ids (x::left) m)(hx:i5 A x=none∨x∈m):r6 A ids left m:=by
 refine⟨h.sound,fun y hy=>h.todo y (by simp[hy]),fun y hy hn=>?_,fun y hy l hl z hz hn=>?_,by have:=h.few; simp at this; omega⟩
 ·rcases h.start y hy hn with h1 | h1
  ·rcases ze8.1 h1 with rfl | h1
   ·rcases hx with hx | hx
    ·exact absurd hx hn
    ·exact .inr hx
   ·exact .inl h1
  ·exact .inr h1
 ·rcases h.sides y hy l hl z hz hn with h1 | h1
  ·rcases ze8.1 h1 with rfl | h1
   ·rcases hx with hx | hx
    ·exact absurd hx hn
    ·exact .inr hx
   ·exact .inl h1
  ·exact .inr h1
theorem r6.mark {A:List Cl}{ids left m:List Int}{x:Int}{c:Cl}(h:r6 A ids (x::left) m)(hf:aJ A x=some c)(hx:m.contains x=false):r6 A ids (left++c.sides.map aj.cell) (m++[x]):=by
 have ha:i5 A x=some (c.sides.map aj.cell):=by unfold i5; rw[hf]; rfl
 have hr:∃ id∈ids,Rch (i5 A) id x:=h.todo x (by simp) (by rw[ha]; simp);obtain ⟨hcm,hcid⟩:=cI hf;refine⟨fun y hy=>?_,fun y hy hn=>?_,fun y hy hn=>?_,fun y hy l hl z hz hn=>?_,?_⟩
 ·rcases zf1.1 hy with hy | hy
  ·exact h.sound y hy
  ·simp at hy; subst hy; exact hr
 ·rcases zf1.1 hy with hy | hy
  ·exact h.todo y (by simp[hy]) hn
  ·obtain ⟨id,hid,hr⟩:=hr;exact⟨id,hid,hr.snoc ha hy hn⟩
 ·rcases h.start y hy hn with h1 | h1
  ·rcases ze8.1 h1 with rfl | h1
   ·exact .inr (by simp)
   ·exact .inl (by simp[h1])
  ·exact .inr (by simp[h1])
 ·rcases zf1.1 hy with hy | hy
  ·rcases h.sides y hy l hl z hz hn with h1 | h1
   ·rcases ze8.1 h1 with rfl | h1
    ·exact .inr (by simp)
    ·exact .inl (by simp[h1])
   ·exact .inr (by simp[h1])
  ·simp at hy;subst hy;rw[ha] at hl;injection hl with hl
   subst hl;exact .inl (zf1.2 (.inr hz))
 ·have h1:=h.few;have h2:=qK hcm (by rw[hcid]; exact hx);rw[hcid] at h2;simp at h1 ⊢;omega
theorem r6.done {A:List Cl}{ids m:List Int}(h:r6 A ids [] m)(x:Int):m.contains x=(dq A ids).contains x:=by
 have key:∀ a b,Rch (i5 A) a b→a∈m→b∈m:=by
  intro a b hr;induction hr with
  | refl a _=>exact fun h=>h
  | step a b c l hl hb r ih=>exact fun h1=>ih ((h.sides a h1 l hl b hb r.node).resolve_left (by simp))
 have:x∈m↔x∈dq A ids:=by
  rw[x9];exact⟨h.sound x,fun ⟨id,hid,hr⟩=>key id x hr ((h.start id hid hr.node).resolve_left (by simp))⟩
 rw[Bool.eq_iff_iff];simpa using this
set_option maxRecDepth 100000
set_option maxHeartbeats 1000000
theorem Tryz.sty107:STy Tryz.prog 107 4 1 1 (vb false):=⟨underlying107,⟨t4,by kernel_rfl,by kernel_rfl,by kernel_rfl,by kernel_rfl⟩,rfl,by decide⟩
def ct:Enc Bool 1:=⟨fun n=>[vb n],fun _=>rfl,fun _ u hu=>by simp at hu; subst hu; rfl,by decide⟩
def cm (A:List Cl)(m:List Int):List Bool:=A.map fun c=>m.contains c.id
theorem qI (A:List Cl):cm A []=List.replicate A.length false:=by
 unfold cm;induction A with
 | nil=>rfl
 | cons d t ih=>simp[List.replicate_succ] at ih ⊢; exact ih
theorem mP {A:List Cl}{m:List Int}{k:Nat}{c:Cl}(h:A[k]?=some c):(cm A m)[k]?=some (m.contains c.id):=by simp[cm,h]
theorem qH {A:List Cl}{m:List Int}{k:Nat}{c:Cl}(hn:(A.map Cl.id).Nodup)(h:A[k]?=some c):(cm A m).set k true=cm A (m++[c.id]):=by
 obtain ⟨hk,hc⟩:=zf3.1 h;apply List.ext_getElem?;intro q;rw[List.getElem?_set];unfold cm;simp only[zh7,ze4];split
 ·rename_i e;subst e;simp[hk,hc]
 ·rename_i hne;cases hq:A[q]? with
  | none=>rfl
  | some d =>
   obtain ⟨hq1,hq2⟩:=zf3.1 hq;have hd:¬ d.id=c.id:=fun e=>by
    have h1:(A.map Cl.id)[q]?=some c.id:=by simp[hq,e]
    have h2:(A.map Cl.id)[k]?=some c.id:=by simp[h]
    obtain ⟨i1,e1⟩:=zf3.1 h1;obtain ⟨i2,e2⟩:=zf3.1 h2
    rcases Nat.lt_or_gt_of_ne hne with h3 | h3
    ·exact zc6.1 hn k q i2 i1 h3 (e2.trans e1.symm)
    ·exact zc6.1 hn q k i1 i2 h3 (e1.trans e2.symm)
   simp[hd]
theorem rJ (E:World)(g:PH)(s:Own)(v iv:Value)(A:List Cl)(ids:List Int)(hv:am g v A)(hi:bC g iv ids)(hA:cR A)(hs:(A.map Cl.id).Pairwise (· ≤ ·))(hn:(A.map Cl.id).Nodup)(hb:ids.length+fh A []<1099511627776) :
  Ctr Tryz.prog E 130 #[v,iv] g s (fun r g' s'=>s=s'∧Le g g'∧SlA ct g' r (cm A (dq A ids))):=by
 obtain ⟨rs,hrs,hall⟩:=hv;have hv:am g v A:=⟨rs,hrs,hall⟩;have hrl:=hall.length;have hAl:=hA.1;obtain ⟨vp,vc,rfl⟩:=hrs.form;obtain ⟨ip,ic,rfl⟩:=za2 hi;refine za9 (args:=[.slice vp rs.length vc,.slice ip ids.length ic]) func130 I ntmps130 (bE I) ?_;refine rZ (aT I (sW I (lU (eN aA I) (lW (mK ct false sty107 I I I oM oM) ?_))));rintro _ _ _ ⟨b5,rfl,rfl,rfl⟩;refine aT I (rZ (lW (bS sty25 I I I (ab trivial) dC) ?_));rintro _ _ _ ⟨b12,rfl,rfl,rfl⟩;refine SL.drop (.cons _ (.refl _)) (SL.emptyRow 3 1 (some ⟨b12,0,none⟩) (lM I (lW (aQ (e:=encInt) (l:=[]) (m:=ids) 0 sty25 I I I hi (by simp; omega) (by simp; omega)) ?_)));rintro v14 _ _ ⟨rfl,rfl⟩;refine aT I (sQ (bK ?_));refine SC.to (g':=g) (s':=que encInt 3 v14 ids::rowA ct 4 (.slice (some ⟨b5,0,none⟩) rs.length rs.length) (cm A [])::s) (fun w hw=>by rw[qI,hrl]; exact hw.toQue (i:=0) I) ?_;refine oP (ι:=Value×List Int×List Int) (fun i=>[(0,.slice vp rs.length vc),(5,.slice (some ⟨b5,0,none⟩) rs.length rs.length),(6,i.1)]) (fun _=>g)
  (fun i=>que encInt 3 i.1 i.2.1::rowA ct 4 (.slice (some ⟨b5,0,none⟩) rs.length rs.length) (cm A i.2.2)::s) (fun i=>r6 A ids i.2.1 i.2.2) (fun i=>i.2.1.length+fh A i.2.2)
  (v14,ids,[]) sB rfl rfl (r6.begin A ids) ?_
 rintro ⟨lv,left,m⟩ hW;dsimp only at hW ⊢;refine zd1 fun ⟨w0,hw0⟩=>?_;obtain ⟨p6,c6,rfl,hbq⟩:=zO (i:=0) hw0 rfl;clear hw0 w0;refine sQ (sW I (lU (eN ah I) (lU (gR I I) (tZ ?_))));refine iP I (fun hgt=>?_) (fun hgt=>?_)
 ·obtain ⟨x,rest,rfl⟩:∃ x rest,left=x::rest:=by
   cases left with
   | nil=>simp at hgt
   | cons x r=>exact⟨x,r,rfl⟩
  have hb0:=hbq (by simp);have hfew:=hW.few
  rcases kM hs x with ⟨hf0,hat⟩ | ⟨c,k,hf0,hat,hck⟩
  ·refine kP (tN (bK (sW I (lM I (lU (iA ah zT3 I I hb0 dC (by simp only[slen,ze6]; omega)) ?_)))));refine lK (eB (e:=encInt) (l:=x::rest) (a:=x) iT3 I (Rd.que 0 I) I I) (lW (cL call62 I (eR E g _ _ A x hv oM hs)) ?_);rintro _ _ _ ⟨rfl,rfl,rfl⟩;rw[hat];refine aT I (sW I (lU (SU.sliceL (l:=1) ah zT3 I I dC (by simp only[ze6]; omega)) ?_));refine aT I (sQ (sQ ?_));refine SC.to (g':=g) (s':=que encInt 3 (sliced p6 1 (x::rest).length c6 1) rest::rowA ct 4 (.slice (some ⟨b5,0,none⟩) rs.length rs.length) (cm A m)::s) (fun w hw=>hw.front (i:=0) I) ?_;refine rG (lM I (lU (SU.eq (v':=vb true) (lS I I) I) (lM I (yA I (yA I (yA I (yA I (yP I (tZ (cT I (xI (tX (bX ?_)))))))))))));exact gA (_,rest,m) sB I I (hW.skip (.inl (by unfold i5; rw[hf0]; rfl))) (by simp only[ze6]; omega)
  ·have hkl:k<A.length:=(zf3.1 hck).1;have hkr:k<rs.length:=oM;have hcid:=(cI hf0).2;have hcm:=(cI hf0).1;have hgm:(cm A m)[((k:Nat):Int).toNat]?=some (m.contains x):=by rw[← hcid]; exact mP hck
   have hcr:=hall.get hck (gE hkr);have hgr:rs[((k:Nat):Int).toNat]?=some rs[k]:=gE hkr;have hbv:=hrs.based oM;obtain ⟨yp,ycap,hrk,hys⟩:=dY hcr;rw[hrk] at hgr;refine kP (tN (bK (sW I (lM I (lU (iA ah zT3 I I hb0 dC (by simp only[slen,ze6]; omega)) ?_)))));refine lK (eB (e:=encInt) (l:=x::rest) (a:=x) iT3 I (Rd.que 0 I) I I) (lW (cL call62 I (eR E g _ _ A x hv oM hs)) ?_);rintro _ _ _ ⟨rfl,rfl,rfl⟩;rw[hat];refine aT I (sW I (lU (SU.sliceL (l:=1) ah zT3 I I dC (by simp only[ze6]; omega)) ?_));refine aT I (sQ (sQ ?_));refine SC.to (g':=g) (s':=que encInt 3 (sliced p6 1 (x::rest).length c6 1) rest::rowA ct 4 (.slice (some ⟨b5,0,none⟩) rs.length rs.length) (cm A m)::s) (fun w hw=>hw.front (i:=0) I) ?_;refine rG (lM I (lU (SU.eq (v':=vb false) (lS I I) (zd9 vb (zf5 oM))) (lM I (yC I (yC I (lY I I I (iA underlying107 sizeOf4 I I I oM sL) (SL.gq (gT I I I dC) (eB (e:=ct) isAgg4 I (zb5 1 I) hgm I) dC (yF I (tZ ?_)))))))));refine iQ I (fun hmk=>?_) (fun hmk=>?_)
   ·refine xI (tX (bX ?_));exact gA (_,rest,m) sB I I (hW.skip (.inr (by simpa using hmk))) (by simp only[ze6]; omega)
   ·have hW2:=hW.mark hf0 hmk;have hca:=qK hcm (by rw[hcid]; exact hmk);rw[hcid] at hca;have hfl:(cm A m).length=A.length:=by simp[cm]
    have hset:(cm A m).set k true=cm A (m++[x]):=by rw[qH hn hck,hcid]
    simp only[ze6] at hfew;refine kP (tN (sW I (lM I (lU (iA underlying107 sizeOf4 I I I oM sL) (oZ (sT (e:=ct) (a:=true) 1 sizeOf4 I I I (by rw[hfl]; omega) I) ?_)))));refine tZ (rZ (aT I (bK ?_)));refine SC.to (g':=g) (s':=que encInt 3 (sliced p6 1 (x::rest).length c6 1) rest::rowA ct 4 (.slice (some ⟨b5,0,none⟩) rs.length rs.length) (cm A (m++[x]))::s) (fun w hw=>by rw[← hset]; exact hw) ?_;refine oP (ι:=Value×Nat) (fun i=>[(0,.slice vp rs.length vc),(5,.slice (some ⟨b5,0,none⟩) rs.length rs.length),(6,i.1),(7,vi k),(8,vi i.2)]) (fun _=>g)
     (fun i=>que encInt 3 i.1 (rest++(c.sides.take i.2).map aj.cell)::rowA ct 4 (.slice (some ⟨b5,0,none⟩) rs.length rs.length) (cm A (m++[x]))::s) (fun i=>i.2≤c.sides.length) (fun i=>c.sides.length - i.2)
     (sliced p6 1 (x::rest).length c6 1,0) sB rfl (by simp only[List.take_zero,List.map_nil,zc3]) (zf4 _) ?_
    rintro ⟨lv2,j⟩ hj;dsimp only at hj ⊢;refine sQ (sW I (lM I (lM I (lU (iA aA au I I hbv oM sL) (lU (fC ao I bI I hbv) (lK (aZ (e:=encCell) (o:=2) (u:=.slice yp c.sides.length ycap) cQ I hrs.rd hgr I) (lU (eN cA I) (yL I (tZ ?_)))))))));refine iP I (fun hlt=>?_) (fun hlt=>?_)
    ·have hjl:j<c.sides.length:=oM;have hb2:=hys.based oM;have hjx:c.sides[((j:Nat):Int).toNat]?=some c.sides[j]:=gE hjl;have htj:c.sides.take (j+1)=c.sides.take j++[c.sides[j]]:=tS hjl;have hql:(rest++(c.sides.take j).map aj.cell).length=rest.length+j:=by simp; omega
     generalize c.sides[j]=z at *;refine kP (tN (sQ (bK (rG (lM I (lM I (lM I (lU (iA aA au I I hbv oM sL) (lU (fC ao I bI I hbv) (lK (aZ (e:=encCell) (o:=2) (u:=.slice yp c.sides.length ycap) cQ I hrs.rd hgr I) (lM I (lU (iA cA cj I I hb2 oM sL) (lU (fC dn I zT3 I hb2) (lK (aZ (e:=encSide) (o:=0) (u:=vi z.cell) iT3 I hys.rd hjx I) (lW (bS sty25 I I I (ab sB) dC) ?_)))))))))))))));rintro _ _ _ ⟨b56,rfl,rfl,rfl⟩;refine lW (SO.queA (e:=encInt) 0 z.cell sty25 I I I I I (by rw[hql]; omega) (by rw[hql]; omega)) ?_;rintro v57 _ _ ⟨rfl,rfl⟩;refine lA I (nL (bN (tN (rG (lM I (yD I (lA I (nL ?_))))))));exact gA (v57,j+1) sB I (by dsimp only; rw[htj,zg3,← zg6]; rfl) lN lN
    ·have hjj:c.sides.take j=c.sides:=tL oM;rw[hjj];refine xI (tX (tX (bX (bN ?_))));exact gA (lv2,rest++c.sides.map aj.cell,m++[x]) sB I I hW2 (by simp only[ze3,ze4,ze6]; omega)
 ·have hl0:left=[]:=zf2 oM;subst hl0;refine xI (tX (tX (bX (tN (sW I (aT I (rE (dR (s':=rowA ct 4 (.slice (some ⟨b5,0,none⟩) rs.length rs.length) (cm A m)::s) (.cons _ (.refl _)) (fT fun g2 hle2 hrow=>?_)))))))));have hfe:cm A m=cm A (dq A ids):=zc5 fun c _=>hW.done c.id;exact za6 (.inl I) results130 I ⟨I,hle2,by rw[← hfe]; exact hrow⟩
def wv (L:List (Int×List aj)):List (Int×Int):=L.foldl (fun zl p=>p.2.foldl (fun zl r=>fQ zl r.cell (p.1 * r.sign)) zl) []
def Bf (L:List (Int×List aj)):List (Int×List Int):=L.zipIdx.foldl (fun ml p=>p.1.2.foldl (eg p.2) ml) []
def kN (L:List (Int×List aj)):Int :=
 if (wv L).any (fun p=>decide (p.2≠0)) then 24
 else if (Bf L).any (fun p=>decide ((p.2.length:Int)≠2)) then 25
 else if ((ir (cN (Bf L))).length:Int)≠L.length then 25 else 0
def nO (tl:List Cl)(c:Cl):List (Int×List aj):=c.sides.map fun x=>(x.sign,aB tl x)
theorem yV (tl:List Cl)(c:Cl):cC tl c=kN (nO tl c):=by
 have h1:fX tl c.sides=wv (nO tl c):=by
  unfold fX wv nO;rw[List.foldl_map];rfl
 have h2:ee tl c.sides=Bf (nO tl c):=by
  unfold ee Bf nO;rw[List.zipIdx_map,List.foldl_map];rfl
 have h3:(nO tl c).length=c.sides.length:=by simp[nO]
 unfold cC kN;rw[h1,h2,h3]
def zh (φ:Int→Int)(r:aj):aj:=⟨φ r.cell,r.sign⟩
def tW (φ:Int→Int)(L:List (Int×List aj)):List (Int×List aj):=L.map fun p=>(p.1,p.2.map (zh φ))
def wD (L:List (Int×List aj)):List Int:=L.flatMap fun p=>p.2.map aj.cell
def ke {α:Type}(φ:Int→Int)(zl:List (Int×α)):List (Int×α):=zl.map fun p=>(φ p.1,p.2)
section
variable {φ:Int→Int}{K:Int→Prop}(hφ:∀ a b,K a→K b→φ a=φ b→a=b)
include hφ
theorem AH {zl:List (Int×Int)}{k:Int}(x:Int)(hz:∀ p∈zl,K p.1)(hk:K k):fQ (ke φ zl) (φ k) x=ke φ (fQ zl k x):=by
 induction zl with
 | nil=>rfl
 | cons p r ih =>
  obtain ⟨a,z⟩:=p;have ha:=hz (a,z) (by simp);simp only[ke,zg2,fQ] at ih ⊢;by_cases h:k=a
  ·subst h; simp
  ·rw[zf7 h,zf7 fun e=>h (hφ k a hk ha e)];simp only[zg2];rw[ih fun p hp=>hz p (by simp[hp])]
theorem AK {zl:List (Int×List Int)}{k:Int}(x:Int)(hz:∀ p∈zl,K p.1)(hk:K k):fa (ke φ zl) (φ k) x=ke φ (fa zl k x):=by
 induction zl with
 | nil=>rfl
 | cons p r ih =>
  obtain ⟨a,z⟩:=p;have ha:=hz (a,z) (by simp);simp only[ke,zg2,fa] at ih ⊢;by_cases h:k=a
  ·subst h; simp
  ·rw[zf7 h,zf7 fun e=>h (hφ k a hk ha e)];simp only[zg2];rw[ih fun p hp=>hz p (by simp[hp])]
omit hφ in
theorem AJ {zl:List (Int×Int)}{k x:Int}(hz:∀ p∈zl,K p.1)(hk:K k):∀ p∈fQ zl k x,K p.1:=by
 induction zl with
 | nil=>intro p hp; simp[fQ] at hp; subst hp; exact hk
 | cons q r ih =>
  obtain ⟨a,z⟩:=q;have ha:=hz (a,z) (by simp);intro p hp;simp only[fQ] at hp;split at hp
  ·rcases ze8.1 hp with rfl | hp
   ·exact ha
   ·exact hz p (by simp[hp])
  ·rcases ze8.1 hp with rfl | hp
   ·exact ha
   ·exact ih (fun p hp=>hz p (by simp[hp])) p hp
omit hφ in
theorem AL {zl:List (Int×List Int)}{k x:Int}(hz:∀ p∈zl,K p.1)(hk:K k):∀ p∈fa zl k x,K p.1:=by
 induction zl with
 | nil=>intro p hp; simp[fa] at hp; subst hp; exact hk
 | cons q r ih =>
  obtain ⟨a,z⟩:=q;have ha:=hz (a,z) (by simp);intro p hp;simp only[fa] at hp;split at hp
  ·rcases ze8.1 hp with rfl | hp
   ·exact ha
   ·exact hz p (by simp[hp])
  ·rcases ze8.1 hp with rfl | hp
   ·exact ha
   ·exact ih (fun p hp=>hz p (by simp[hp])) p hp
theorem qn (t:Int):∀ (l:List aj) (zl:List (Int×Int)),(∀ r∈l,K r.cell)→(∀ p∈zl,K p.1) →
  (l.map (zh φ)).foldl (fun zl r=>fQ zl r.cell (t * r.sign)) (ke φ zl)=ke φ (l.foldl (fun zl r=>fQ zl r.cell (t * r.sign)) zl)∧∀ p∈l.foldl (fun zl r=>fQ zl r.cell (t * r.sign)) zl,K p.1
 | [],zl,_,hz=>⟨rfl,hz⟩
 | r::l,zl,hl,hz=>by
  have hr:=hl r (by simp);have:=qn t l (fQ zl r.cell (t * r.sign)) (fun q hq=>hl q (by simp[hq])) (AJ hz hr);simp only[zg2,zi5];rw[show (zh φ r).cell=φ r.cell from rfl,show (zh φ r).sign=r.sign from rfl,AH hφ _ hz hr];exact this
theorem uD (t:Int):∀ (l:List aj) (zl:List (Int×List Int)),(∀ r∈l,K r.cell)→(∀ p∈zl,K p.1) →
  (l.map (zh φ)).foldl (eg t) (ke φ zl)=ke φ (l.foldl (eg t) zl)∧∀ p∈l.foldl (eg t) zl,K p.1
 | [],zl,_,hz=>⟨rfl,hz⟩
 | r::l,zl,hl,hz=>by
  have hr:=hl r (by simp);have:=uD t l (fa zl r.cell t) (fun q hq=>hl q (by simp[hq])) (AL hz hr);simp only[zg2,zi5];rw[show eg t (ke φ zl) (zh φ r)=ke φ (fa zl r.cell t) from AK hφ _ hz hr];exact this
theorem ui:∀ (L:List (Int×List aj)) (zl:List (Int×Int)),(∀ k∈wD L,K k)→(∀ p∈zl,K p.1) →
  (tW φ L).foldl (fun zl p=>p.2.foldl (fun zl r=>fQ zl r.cell (p.1 * r.sign)) zl) (ke φ zl)=ke φ (L.foldl (fun zl p=>p.2.foldl (fun zl r=>fQ zl r.cell (p.1 * r.sign)) zl) zl)
 | [],_,_,_=>rfl
 | p::L,zl,hl,hz=>by
  obtain ⟨h1,h2⟩:=qn hφ p.1 p.2 zl (fun r hr=>hl _ (List.mem_flatMap.2 ⟨p,by simp,ze9.2 ⟨r,hr,rfl⟩⟩)) hz;simp only[tW,zg2,zi5] at h1 ⊢;rw[h1];exact ui L _ (fun k hk=>hl k (by simp only[wD,zh3,zf1]; exact .inr hk)) h2
theorem wY:∀ (L:List (Int×List aj)) (i:Nat) (zl:List (Int×List Int)),(∀ k∈wD L,K k)→(∀ p∈zl,K p.1) →
  ((tW φ L).zipIdx i).foldl (fun ml p=>p.1.2.foldl (eg p.2) ml) (ke φ zl)=ke φ ((L.zipIdx i).foldl (fun ml p=>p.1.2.foldl (eg p.2) ml) zl)
 | [],_,_,_,_=>rfl
 | p::L,i,zl,hl,hz=>by
  obtain ⟨h1,h2⟩:=uD hφ i p.2 zl (fun r hr=>hl _ (List.mem_flatMap.2 ⟨p,by simp,ze9.2 ⟨r,hr,rfl⟩⟩)) hz;simp only[tW,zg2,List.zipIdx_cons,zi5] at h1 ⊢;rw[h1];exact wY L (i+1) _ (fun k hk=>hl k (by simp only[wD,zh3,zf1]; exact .inr hk)) h2
end
theorem xC {α:Type}(φ:Int→Int)(zl:List (Int×α))(q:α→Bool):(ke φ zl).any (fun p=>q p.2)=zl.any (fun p=>q p.2):=by
 simp only[ke,List.any_map];rfl
theorem Aa (φ:Int→Int)(ml:List (Int×List Int)):cN (ke φ ml)=cN ml:=by
 simp only[cN,ke,List.foldl_map];rfl
theorem tP {φ:Int→Int}{L:List (Int×List aj)}(hφ:∀ a∈wD L,∀ b∈wD L,φ a=φ b→a=b):kN (tW φ L)=kN L:=by
 have h1:wv (tW φ L)=ke φ (wv L):=ui (K:=fun k=>k∈wD L) (fun a b ha hb=>hφ a ha b hb) L [] (fun _ h=>h) (by simp);have h2:Bf (tW φ L)=ke φ (Bf L):=wY (K:=fun k=>k∈wD L) (fun a b ha hb=>hφ a ha b hb) L 0 [] (fun _ h=>h) (by simp);unfold kN;rw[h1,h2,xC φ _ fun z=>decide (z≠0),xC φ _ fun l:List Int=>decide ((l.length:Int)≠2),Aa];have h3:(tW φ L).length=L.length:=by simp[tW]
 rw[h3]
def code (k q:Nat):Int:=if q<k then ((q * 16+k:Nat):Int) else ((k * 16+(q+1):Nat):Int)
def Ct (n:Nat):List (Int×List aj):=(List.range n).reverse.map fun k:Nat=>(cB k,(List.range (n - 1)).reverse.map fun q:Nat=>⟨code k q,cB q⟩)
theorem BM:∀ n,n<10→2<n→kN (Ct n)=0:=by decide +kernel
theorem gn (b:Nat)(a:Int)(l:List Int):dT b (a::l)=(if b % 2=1 then [a] else [])++dT (b / 2) l:=by
 unfold dT;have hz:∀ (l:List Int) (i:Nat),((l.zipIdx (i+1)).filter fun p=>b / 2 ^ p.2 % 2 == 1).map (·.1)=((l.zipIdx i).filter fun p=>b / 2 / 2 ^ p.2 % 2 == 1).map (·.1):=by
  intro l;induction l with
  | nil=>intro i; rfl
  | cons x r ih =>
   intro i;have hp:b / 2 ^ (i+1)=b / 2 / 2 ^ i:=by rw[Nat.pow_succ,Nat.mul_comm,Nat.div_div_eq_div_mul]
   simp only[List.zipIdx_cons,zi4,hp];have:=ih (i+1);split
   ·simp only[zg2,this]
   ·exact this
 simp only[List.zipIdx_cons,zi4,Nat.pow_zero,Nat.div_one];by_cases h:b % 2=1
 ·simp only[h,if_true,beq_self_eq_true,zg2];rw[hz l 0];rfl
 ·have h2:(b % 2 == 1)=false:=by simpa using h
  simp only[h,h2,if_false,Bool.false_eq_true];rw[hz l 0];rfl
theorem x1 (l:List Int):∀ b,(dT b l).Sublist l:=by
 induction l with
 | nil=>intro b; exact .slnil
 | cons a r ih =>
  intro b;rw[gn];split
  ·exact (ih _).cons_cons a
  ·exact (ih _).cons a
theorem zR (l:List Int):∀ b,b≠0→b<2 ^ l.length→dT b l≠[]:=by
 induction l with
 | nil=>intro b h0 h; simp at h; exact absurd h h0
 | cons a r ih =>
  intro b h0 h;rw[gn];split
  ·simp
  ·rename_i h1;rw[ze6,Nat.pow_succ] at h;simpa using ih (b / 2) oM oM
theorem tf {x l:List Int}(h:x.Sublist l):∃ b,b<2 ^ l.length∧dT b l=x:=by
 induction h with
 | slnil=>exact⟨0,by simp,rfl⟩
 | cons a _ ih =>
  obtain ⟨b,hb,e⟩:=ih;refine⟨2 * b,by rw[ze6,Nat.pow_succ]; omega,?_⟩;rw[gn,zf7 oM,show 2 * b / 2=b by omega,e];rfl
 | cons_cons a _ ih =>
  obtain ⟨b,hb,e⟩:=ih;refine⟨2 * b+1,by rw[ze6,Nat.pow_succ]; omega,?_⟩;rw[gn,zf8 oM,show (2 * b+1) / 2=b by omega,e];rfl
theorem fF (t x:List Int):x∈bH t↔x.Sublist t∧x≠[]:=by
 unfold bH;constructor
 ·intro h;obtain ⟨i,hi,rfl⟩:=ze9.1 h;have:=List.mem_range.1 hi;exact⟨x1 _ _,zR _ _ oM oM⟩
 ·rintro ⟨h,hne⟩;obtain ⟨b,hb,rfl⟩:=tf h;have h0:b≠0:=fun e=>by
   subst e;apply hne;have:∀ l:List Int,dT 0 l=[]:=by
    intro l;induction l with
    | nil=>rfl
    | cons a r ih=>rw[gn]; simpa using ih
   exact this t
  exact ze9.2 ⟨b - 1,List.mem_range.2 oM,by rw[show b - 1+1=b by omega]⟩
structure fU (all:List (List Int)):Prop where
 strict:ec all
 form:∀ s∈all,s≠[]∧dh s∧s.length≤9
 faces:∀ s∈all,2≤s.length→∀ k,k<s.length→s.eraseIdx k∈all
theorem fU.nil:fU []:=⟨List.Pairwise.nil,by simp,by simp⟩
theorem fU.add {all:List (List Int)}{t:List Int}(h:fU all)(ht:dh t)(hl:t.length≤9):fU (dL all t):=by
 refine⟨jD all t,fun s hs=>?_,fun s hs h2 k hk=>?_⟩
 ·rcases (fw all t s).1 hs with h1 | h1
  ·exact h.form s h1
  ·obtain ⟨h2,h3⟩:=(fF t s).1 h1;exact⟨h3,ht.sublist h2,zk2 h2.length_le hl⟩
 ·refine (fw all t _).2 ?_
  rcases (fw all t s).1 hs with h1 | h1
  ·exact .inl (h.faces s h1 h2 k hk)
  ·refine .inr ((fF t _).2 ⟨(List.eraseIdx_sublist s k).trans ((fF t s).1 h1).1,fun e=>?_⟩);have:=zd9 List.length e;rw[List.length_eraseIdx] at this;simp[hk] at this;omega
theorem fG:∀ (ls acc:List (List Int)) {all:List (List Int)},aG acc ls=some all→fU acc→acc.length≤4000→fU all∧all.length≤4000
 | [],acc,all,h,hg,hl=>by cases h; exact⟨hg,hl⟩
 | s::r,acc,all,h,hg,hl=>by
  unfold aG at h;split at h
  ·exact fG r acc h hg hl
  ·rename_i hb;split at h
   ·cases h
   ·rename_i hlen;refine fG r _ h (hg.add (jM s) ?_) oM;cases hc:bV s with
    | nil=>simp
    | cons a q =>
     rw[hc] at hb;simp[iu] at hb;simp;omega
section
variable {all:List (List Int)}(hg:fU all)
include hg
theorem fU.get_lb {t:List Int}(ht:t∈all):all[lbL all t]?=some t:=by
 obtain ⟨h1,h2⟩:=mH t hg.strict.srt;have hs:ec (all.take (lbL all t)++all.drop (lbL all t)):=by rw[zi7]; exact hg.strict
 have hd:=(List.pairwise_append.1 hs).2.1;have hm:t∈all.drop (lbL all t):=by
  have:t∈all.take (lbL all t)++all.drop (lbL all t):=by rw[zi7]; exact ht
  rcases zf1.1 this with h | h
  ·have:=h1 t h;rw[ce] at this;exact absurd this dC
  ·exact h
 have e:all[lbL all t]?=(all.drop (lbL all t))[0]?:=by simp
 rw[e];cases hc:all.drop (lbL all t) with
 | nil=>rw[hc] at hm; simp at hm
 | cons y r =>
  rw[hc] at hm hd h2
  rcases ze8.1 hm with rfl | hm
  ·rfl
  ·exact absurd ((zj6.1 hd).1 t hm) (h2 y (by simp))
theorem fU.lb_get {k:Nat}(hk:k<all.length):lbL all all[k]=k:=by
 have h1:=hg.get_lb (gM hk);obtain ⟨h2,h3⟩:=zf3.1 h1;have hself:¬ ai all[k] all[k]<0:=by rw[ce]; decide
 rcases Nat.lt_trichotomy (lbL all all[k]) k with h | h | h
 ·have:=zc6.1 hg.strict _ _ h2 hk h;rw[h3] at this;exact absurd this hself
 ·exact h
 ·have:=zc6.1 hg.strict _ _ hk h2 h;rw[h3] at this;exact absurd this hself
end
def ixC (all:List (List Int))(t:List Int):Int:=((lbL all t:Nat):Int)+1
theorem fU.inj {all:List (List Int)}(hg:fU all){t u:List Int}(ht:t∈all)(hu:u∈all)(h:ixC all t=ixC all u):t=u:=by
 have h1:=hg.get_lb ht;have h2:=hg.get_lb hu;have:lbL all t=lbL all u:=by unfold ixC at h; omega
 rw[this,h2] at h1;injection h1 with h1
 exact h1.symm
theorem fU.lt {all:List (List Int)}(hg:fU all){t u:List Int}(ht:t∈all)(hu:u∈all)(h:ai t u<0):ixC all t<ixC all u:=by
 obtain ⟨i1,e1⟩:=zf3.1 (hg.get_lb ht);obtain ⟨i2,e2⟩:=zf3.1 (hg.get_lb hu);unfold ixC
 rcases Nat.lt_trichotomy (lbL all t) (lbL all u) with h1 | h1 | h1
 ·omega
 ·have:t=u:=hg.inj ht hu (by unfold ixC; omega);subst this;rw[ce] at h;exact absurd h dC
 ·have:=zc6.1 hg.strict _ _ i2 i1 h1;rw[e1,e2] at this;exact absurd h (f9 this)
def eL (all:List (List Int))(s:List Int):List aj:=if s.length≤1 then [] else (List.range s.length).reverse.map fun k:Nat=>⟨ixC all (s.eraseIdx k),cB k⟩
def gH (all:List (List Int))(s:List Int):Cl:=⟨ixC all s,(s.length:Int) - 1,eL all s⟩
theorem uP {s:List Int}(hs:dh s):∀ {i j:Nat},i<j→j<s.length→ai (s.eraseIdx j) (s.eraseIdx i)<0:=by
 induction s with
 | nil=>intro i j _ h; simp at h
 | cons a r ih =>
  intro i j hij hj;obtain ⟨h1,h2⟩:=zj6.1 hs;cases j with
  | zero=>omega
  | succ j =>
   simp only[ze6] at hj;cases i with
   | zero =>
    cases r with
    | nil=>simp at hj
    | cons b q =>
     have hab:=h1 b (by simp);have hl:((a::b::q).eraseIdx (j+1)).length=((a::b::q).eraseIdx 0).length:=by
      simp[List.length_eraseIdx] at hj ⊢;omega
     rw[fm hl];simp only[List.eraseIdx_cons_succ,List.eraseIdx_cons_zero,fy];have:ld a b = -1:=by unfold ld; rw[zf8 hab]
     simp[this]
   | succ i =>
    have h3:=ih h2 (i:=i) (j:=j) oM oM;have hl:(r.eraseIdx j).length=(r.eraseIdx i).length:=by
     rw[List.length_eraseIdx,List.length_eraseIdx,zf8 oM,zf8 oM]
    have hl2:((a::r).eraseIdx (j+1)).length=((a::r).eraseIdx (i+1)).length:=by simp[hl]
    rw[fm hl] at h3;rw[fm hl2];simp only[List.eraseIdx_cons_succ,fy];have:ld a a=0:=by unfold ld; rw[zf7 oM,zf7 oM]
    simpa [this] using h3
theorem pA {A:List Cl}(h:(A.map Cl.id).Nodup){x:Cl}(hx:x∈A):aJ A x.id=some x:=by
 induction A with
 | nil=>simp at hx
 | cons c t ih =>
  simp only[zg2,zj5] at h;unfold aJ
  rcases ze8.1 hx with rfl | hx
  ·simp
  ·have hne:¬ c.id=x.id:=fun e=>h.1 (by rw[e]; exact ze9.2 ⟨x,hx,I⟩);rw[List.find?_cons];simp only[hne,decide_false];exact ih h.2 hx
theorem vP (c:Cl):cG (cG c)=cG c:=by
 unfold cG;rw[← dK (dV c.sides) (aN.refl _)]
theorem eI (l:List Cl):aa (aa l)=aa l:=by
 have h1:sortBy Cl.id (aa l)=aa l:=(dK (gp l) (aN.refl _)).symm;show (sortBy Cl.id (aa l)).map cG=aa l;rw[h1];unfold aa;rw[zi3];exact zc5 fun c _=>vP c
theorem zu {α:Type}{key:α→Int}{l:List α}(h:l.Pairwise fun a b=>key b<key a):sortBy key l=l.reverse:=by
 refine (dK ?_ ⟨by simp,fun c=>?_⟩).symm
 ·unfold Srt;rw[List.pairwise_reverse];exact h.imp fun h=>by omega
 ·rw[List.filter_reverse];have:∀ m:List α,m.Pairwise (fun a b=>key b<key a)→(∀ a∈m,(key a == c)=true)→m.reverse=m:=by
   intro m hm hc
   match m,hm,hc with
   | [],_,_=>rfl
   | [_],_,_=>rfl
   | a::b::r,hm,hc =>
    have h1:=(zj6.1 hm).1 b (by simp);have h2:=hc a (by simp);have h3:=hc b (by simp);simp at h2 h3;omega
  exact this _ (h.sublist List.filter_sublist) fun a ha=>(zh2.1 ha).2
section
variable {all:List (List Int)}(hg:fU all)
include hg
theorem fU.face {s:List Int}(hs:s∈all){k:Nat}(hk:k<s.length)(h2:2≤s.length):s.eraseIdx k∈all∧(s.eraseIdx k).length=s.length - 1 :=
 ⟨hg.faces s hs h2 k hk,by rw[List.length_eraseIdx,zf8 hk]⟩
theorem fU.sides {s:List Int}(hs:s∈all):sortBy aj.cell (aW all s s.length)=eL all s:=by
 have hne:=(hg.form s hs).1;have hst:=(hg.form s hs).2.1;by_cases h1:s.length≤1
 ·have h0:s.length=1:=by have:=List.length_pos_iff.2 hne; omega
  unfold eL;rw[zf8 h1,h0];have:eJ all s 0=[]:=by
   unfold eJ;have h3:(s.eraseIdx 0).length=0:=by rw[List.length_eraseIdx,zf8 oM]; omega
   rw[zf7 oM]
  simp[aW,List.range_succ,this,sortBy]
 ·have h2:2≤s.length:=oM;have e:aW all s s.length=(List.range s.length).map fun k:Nat=>(⟨ixC all (s.eraseIdx k),cB k⟩:aj):=by
   unfold aW;rw[List.flatMap_def];have:(List.range s.length).map (eJ all s)=(List.range s.length).map fun k:Nat=>[(⟨ixC all (s.eraseIdx k),cB k⟩:aj)]:=zc5 fun k hk=>by
    have hk:=List.mem_range.1 hk;unfold eJ;rw[(hg.face hs hk h2).2,zf8 oM];rfl
   rw[this];generalize List.range s.length=R;induction R with
   | nil=>rfl
   | cons x r ih=>simp only[zg2,List.flatten_cons,ih]; rfl
  unfold eL;rw[zf7 h1,e,List.map_reverse];refine zu ?_;rw[zj7];refine List.Pairwise.imp_of_mem ?_ (List.pairwise_lt_range (n:=s.length));intro i j hi hj hij;have hi:=List.mem_range.1 hi;have hj:=List.mem_range.1 hj;exact hg.lt (hg.face hs hj h2).1 (hg.face hs hi h2).1 (uP hst hij hj)
theorem fU.cells:aa (ba all)=all.map (gH all):=by
 rw[oO];apply List.ext_getElem?;intro k;simp only[zh7];by_cases hk:k<all.length
 ·rw[ib hk,gE hk];simp only[Option.map_some,zg5];unfold cG lJ gH;simp only[hg.sides (gM hk),ixC,hg.lb_get hk]
 ·rw[List.getElem?_eq_none (by rw[bD]; omega),List.getElem?_eq_none oM];rfl
theorem fU.ids:((all.map (gH all)).map Cl.id).Pairwise (· < ·):=by
 rw[zi3,zj7];refine List.Pairwise.imp_of_mem ?_ hg.strict;intro a b ha hb h;exact hg.lt ha hb h
theorem fU.find {s:List Int}(hs:s∈all):aJ (all.map (gH all)) (ixC all s)=some (gH all s) :=
 pA (x:=gH all s) (hg.ids.imp fun h=>by omega) (ze9.2 ⟨s,hs,rfl⟩)
end
theorem xS (k:Nat):cB k=1∨cB k = -1:=by unfold cB; omega
theorem oJ {all:List (List Int)}{s:List Int}(h:2≤s.length){i:Nat}(hi:i<s.length):(eL all s)[i]?=some ⟨ixC all (s.eraseIdx (s.length - 1 - i)),cB ((s.length - 1 - i:Nat):Int)⟩:=by
 unfold eL;rw[zf7 oM,zh7,List.getElem?_reverse (by simpa using hi)];simp only[zi2];rw[List.getElem?_range oM];rfl
theorem pY {all:List (List Int)}{s:List Int}:(eL all s).length=if s.length≤1 then 0 else s.length:=by
 unfold eL;split <;> simp
section
variable {all:List (List Int)}(hg:fU all)
include hg
theorem fU.formOk {s:List Int}(hs:s∈all):cz (all.map (gH all)) (gH all s)=0:=by
 obtain ⟨hne,hst,h9⟩:=hg.form s hs;have hp:=List.length_pos_iff.2 hne;have hlen:(gH all s).sides.length=if s.length≤1 then 0 else s.length:=pY
 have hdim:(gH all s).dim=(s.length:Int) - 1:=rfl;have h1:fv (gH all s)=false:=by unfold fv; rw[hdim]; simp; omega
 have h2:aU (gH all s)=false:=by
  unfold aU;rw[hdim,hlen];split
  ·simp; omega
  ·simp; omega
 have h3:(List.range (gH all s).sides.length).any (iU (all.map (gH all)) (gH all s))=false:=by
  rw[zj8];intro i hi;have hi:=List.mem_range.1 hi;rw[hlen] at hi;split at hi
  ·omega
  ·rename_i hl;have h2:2≤s.length:=oM;have hgi:=oJ (all:=all) h2 hi;have hf:=hg.face hs (k:=s.length - 1 - i) oM h2;unfold iU;rw[show (gH all s).sides[i]?=_ from hgi];show ¬ cu _ _ i ⟨ixC all (s.eraseIdx (s.length - 1 - i)),_⟩=true;unfold cu;dsimp only;rw[hg.find hf.1];have hd:(gH all (s.eraseIdx (s.length - 1 - i))).dim=(gH all s).dim - 1:=by
    show ((s.eraseIdx (s.length - 1 - i)).length:Int) - 1=(s.length:Int) - 1 - 1;rw[hf.2];omega
   simp only[Option.isSome_some,Bool.not_true,Bool.false_or,Option.getD_some,hd,ne_eq,not_true_eq_false,decide_false];by_cases hi0:i>0
   ·have hgp:=oJ (all:=all) h2 (i:=i - 1) oM;rw[show (gH all s).sides[i - 1]?=_ from hgp];have hf2:=hg.face hs (k:=s.length - 1 - (i - 1)) oM h2;have:=hg.lt hf2.1 hf.1 (uP hst oM oM);simp;omega
   ·simp[hi0]
 have h4:(gH all s).sides.any bZ=false:=by
  rw[zj8];intro x hx;show ¬ bZ x=true;have hx:x∈eL all s:=hx;unfold eL at hx;split at hx
  ·simp at hx
  ·obtain ⟨k,_,rfl⟩:=ze9.1 hx
   rcases xS k with h | h <;> simp[bZ,h]
 have h5:(decide ((gH all s).dim=1)&&decide (nA (gH all s).sides≠0))=false:=by
  by_cases hd:(gH all s).dim=1
  ·rw[hdim] at hd;have hl2:s.length=2:=oM;have:nA (gH all s).sides=0:=by
    show nA (eL all s)=0;unfold eL;rw[zf7 oM,hl2];simp[List.range_succ,nA,cB]
   rw[this];simp
  ·simp[hd]
 unfold cz;rw[h1,h2,h3,h4,h5];rfl
end
theorem wb (s:List Int):∀ {k q:Nat},k≤q→(s.eraseIdx k).eraseIdx q=(s.eraseIdx (q+1)).eraseIdx k:=by
 induction s with
 | nil=>intro k q _; rfl
 | cons a r ih =>
  intro k q h;cases k with
  | zero=>simp
  | succ k =>
   cases q with
   | zero=>omega
   | succ q =>
    simp only[List.eraseIdx_cons_succ];rw[ih oM]
theorem oA {s:List Int}(hs:s.Nodup){a b i:Nat}(hab:a<b)(hb:b<s.length)(hi:i<s.length):s[i]∈(s.eraseIdx b).eraseIdx a↔i≠a∧i≠b:=by
 have hinj:∀ {j k:Nat} (hj:j<s.length) (hk:k<s.length),s[j]=s[k]→j=k:=fun {j k} hj hk e=>by
  rcases Nat.lt_trichotomy j k with h | h | h
  ·exact absurd e (zc6.1 hs j k hj hk h)
  ·exact h
  ·exact absurd e.symm (zc6.1 hs k j hk hj h)
 rw[List.mem_eraseIdx_iff_getElem];constructor
 ·rintro ⟨j,hj1,hj2,e⟩;have hj1':=hj1;rw[List.length_eraseIdx,zf8 hb] at hj1';rw[List.getElem_eraseIdx] at e;split at e
  ·have:=hinj _ _ e;omega
  ·have:=hinj _ _ e;omega
 ·rintro ⟨h1,h2⟩
  rcases Nat.lt_or_ge i b with h | h
  ·refine⟨i,by rw[List.length_eraseIdx,zf8 hb]; omega,h1,?_⟩;rw[List.getElem_eraseIdx,dif_pos h]
  ·refine⟨i - 1,by rw[List.length_eraseIdx,zf8 hb]; omega,oM,?_⟩;rw[List.getElem_eraseIdx,dif_neg oM];congr 1;omega
theorem wd {s:List Int}(hs:s.Nodup){a b c d:Nat}(hab:a<b)(hb:b<s.length)(hcd:c<d)(hd:d<s.length)(h:(s.eraseIdx b).eraseIdx a=(s.eraseIdx d).eraseIdx c):a=c∧b=d:=by
 have key:∀ i,i<s.length→((i≠a∧i≠b)↔(i≠c∧i≠d)):=fun i hi=>by
  rw[← oA hs hab hb hi,← oA hs hcd hd hi,h]
 have ha:=key a oM;have hb':=key b hb;have hc:=key c oM;have hd':=key d hd;omega
def CT (all:List (List Int))(s:List Int)(c:Int):Int:=ixC all ((s.eraseIdx (c % 16).toNat).eraseIdx (c / 16).toNat)
theorem xm {n k q:Nat}(hk:k<n)(hq:q<n - 1):∃ a b:Nat,a<b∧b<n∧code k q=((a * 16+b:Nat):Int)∧((q<k∧a=q∧b=k)∨(k≤q∧a=k∧b=q+1)):=by
 unfold code;by_cases h:q<k
 ·rw[zf8 h]; exact⟨q,k,h,hk,I,.inl ⟨h,I,I⟩⟩
 ·rw[zf7 h]; exact⟨k,q+1,oM,oM,I,.inr ⟨oM,I,I⟩⟩
theorem iX {a b:Nat}(h:b<16):((((a * 16+b:Nat):Int) % 16).toNat=b)∧((((a * 16+b:Nat):Int) / 16).toNat=a):=oM
section
variable {all:List (List Int)}(hg:fU all)
include hg
theorem fU.aroundOk {s:List Int}(hs:s∈all)(h3:2<s.length):cC (all.map (gH all)) (gH all s)=0:=by
 obtain ⟨hne,hst,h9⟩:=hg.form s hs;have hnd:s.Nodup:=hst.imp fun h=>by omega
 have hE:∀ a b,a<b→b<s.length→(s.eraseIdx b).eraseIdx a∈all:=fun a b hab hb=>by
  have h1:=hg.face hs (k:=b) hb oM;exact (hg.face h1.1 (k:=a) (by rw[h1.2]; omega) (by rw[h1.2]; omega)).1
 have hlook:nO (all.map (gH all)) (gH all s)=tW (CT all s) (Ct s.length):=by
  unfold nO tW Ct;show (eL all s).map _=_;unfold eL;rw[zf7 oM,zi3,zi3];refine zc5 fun k hk=>?_;have hk:k<s.length:=by simpa using hk
  have hf:=hg.face hs hk oM;simp only[Function.comp_def];congr 1;unfold aB;rw[hg.find hf.1];show eL all (s.eraseIdx k)=_;unfold eL;rw[hf.2,zf7 oM,zi3];refine zc5 fun q hq=>?_;have hq:q<s.length - 1:=by simpa using hq
  obtain ⟨a,b,hab,hb,hc,hcase⟩:=xm hk hq;simp only[Function.comp_def,zh];congr 1;unfold CT;rw[hc,(iX (a:=a) (b:=b) oM).1,(iX (a:=a) (b:=b) oM).2]
  rcases hcase with ⟨_,rfl,rfl⟩ | ⟨h,rfl,rfl⟩
  ·rfl
  ·rw[wb s h]
 rw[yV,hlook,tP,BM _ oM h3];have hkey:∀ x∈wD (Ct s.length),∃ a b:Nat,a<b∧b<s.length∧x=((a * 16+b:Nat):Int):=by
  intro x hx;obtain ⟨p,hp,hx⟩:=List.mem_flatMap.1 hx;obtain ⟨k,hk,rfl⟩:=ze9.1 hp;obtain ⟨r,hr,rfl⟩:=ze9.1 hx;obtain ⟨q,hq,rfl⟩:=ze9.1 hr;obtain ⟨a,b,hab,hb,hc,_⟩:=xm (n:=s.length) (k:=k) (q:=q) (by simpa using hk) (by simpa using hq);exact⟨a,b,hab,hb,hc⟩
 intro x hx y hy h;obtain ⟨a,b,hab,hb,rfl⟩:=hkey x hx;obtain ⟨c,d,hcd,hd,rfl⟩:=hkey y hy;unfold CT at h;rw[(iX (a:=a) (b:=b) oM).1,(iX (a:=a) (b:=b) oM).2,(iX (a:=c) (b:=d) oM).1,(iX (a:=c) (b:=d) oM).2] at h;obtain ⟨rfl,rfl⟩:=wd hnd hab hb hcd hd (hg.inj (hE a b hab hb) (hE c d hcd hd) h);rfl
end
theorem qQ {tl:List Cl}:∀ {l:List Cl} {n:Int},(∀ x∈l,n<x.id)→l.Pairwise (fun a b=>a.id<b.id)→(∀ x∈l,cz tl x=0)→fN tl l n=none
 | [],_,_,_,_=>rfl
 | x::r,n,h1,h2,h3=>by
  have hx:=h1 x (by simp);obtain ⟨h4,h5⟩:=zj6.1 h2;unfold fN;rw[zf7 oM,zf7 (by rw[h3 x (by simp)]; simp)];exact qQ h4 h5 fun y hy=>h3 y (by simp[hy])
theorem qP {tl:List Cl}:∀ {l:List Cl},(∀ x∈l,x.dim>1→cC tl x=0)→mf tl l=none
 | [],_=>rfl
 | x::r,h=>by
  unfold mf;rw[zf7 fun ⟨h1,h2⟩=>h2 (h x (by simp) h1)];exact qP fun y hy=>h y (by simp[hy])
theorem Av {l:List Cl}(h0:l.length≤4000)(h1:∀ x∈aa l,0<x.id)(h2:(aa l).Pairwise fun a b=>a.id<b.id)(h3:∀ x∈aa l,cz (aa l) x=0)(h4:∀ x∈aa l,x.dim>1→cC (aa l) x=0):aX l=(0,0):=by
 unfold aX;rw[zf7 oM,bg h2,qQ h1 h2 h3,qP h4];rfl
theorem m9 (ls:List (List Int)):aX (bQ ls)=(0,0):=by
 unfold bQ;cases h:aG [] ls with
 | none=>rfl
 | some all =>
  obtain ⟨hg,hl⟩:=fG ls [] h fU.nil (by simp);dsimp only;have hc:aa (aa (ba all))=all.map (gH all):=by rw[eI,hg.cells]
  have hi:=hg.ids;rw[zj7] at hi;refine Av (by rw[hg.cells]; simpa using hl) ?_ ?_ ?_ ?_ <;> rw[hc]
  ·intro x hx;obtain ⟨s,_,rfl⟩:=ze9.1 hx;show 0<ixC all s;unfold ixC;omega
  ·exact hi
  ·intro x hx;obtain ⟨s,hs,rfl⟩:=ze9.1 hx;exact hg.formOk hs
  ·intro x hx hd;obtain ⟨s,hs,rfl⟩:=ze9.1 hx;refine hg.aroundOk hs ?_;have:(s.length:Int) - 1>1:=hd;omega
open Go.ChangeShapes Go.WideShapes Go.ChangeAt Go.RowKit
set_option maxRecDepth 100000
section
variable {H:Type}{enc:TypeId×Value→H}{W:World}{base:Nat}{spare:Nat→Bool}{hd:Bool}
end
end Go.Proofs.YtcfkpajlakidbaaGreat
