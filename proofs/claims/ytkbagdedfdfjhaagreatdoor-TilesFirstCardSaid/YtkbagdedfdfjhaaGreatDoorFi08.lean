/- 8 -/
import Derived.Test.YtkbagdedfdfjhaaGreatDoorFi07
import Derived.Test.YtkbagdedfdfjhaaGreatDoorFi03
import Derived.Test.YtkbagdedfdfjhaaGreatDoorFi06
import Derived.Test.YtkbagdedfdfjhaaGreatDoorFi05
import Derived.Test.YtkbagdedfdfjhaaGreatDoorRows
import Derived.WalkKit
import Derived.ProofKit
import Derived.OpenShut
import Derived.ShutString
import Derived.ChangeOld
import Derived.Below
import Derived.Deep.Slices
import Derived.Lib.SmallJoins
import Derived.Laws.IdiomArrays
import Derived.Test.YtkbagdedfdfjhaaGreatDoorFi04
set_option linter.unusedSimpArgs false
set_option linter.unusedVariables false
namespace Go.Proofs.YtkbagdedfdfjhaaGreatDoor
open _root_.Go.Proofs.Tryz _root_.Go.Proofs.YtkbagdedfdfjhaaGreatDoor.Tryz
open Go Go.Sy Go.Pl Go.Proofs
set_option maxRecDepth 100000
set_option maxHeartbeats 2000000
theorem dj {l:List Cl}(h:(aC l).2=0):l.length≤4000∧(aa l).Pairwise (fun a b=>a.id<b.id)∧ab l=aa l∧∀ x∈aa l,ct (ab l) x=0:=by
 unfold aC at h;split at h
 ·exact absurd h dC
 ·rename_i hl;cases hc:gK (ab l) (aa l) 0 with
  | some p=>rw[hc] at h; exact absurd h (vK hc)
  | none =>
   have hst:=(kX hc).2;exact⟨oM,hst,bA hst,lI hc⟩
theorem jH:∀ {l:List Int} {k:Nat} (h:k<l.length),l.Pairwise (· < ·)→lbI l l[k]=k:=by
 intro l;induction l with
 | nil=>intro k h; simp at h
 | cons a r ih =>
  intro k h hs;obtain ⟨h1,h2⟩:=zj9.1 hs;cases k with
  | zero =>
   unfold lbI;rw[List.length_eq_zero_iff,List.filter_eq_nil_iff];intro y hy
   rcases ze7.1 hy with rfl | hy
   ·simp
   ·have:=h1 y hy; simp; omega
  | succ k =>
   have hk:k<r.length:=by simpa using h
   have hlt:=h1 r[k] (gM hk);have:=ih hk h2;unfold lbI at this ⊢;simp[hlt,this]
theorem yR {tl:List Cl}(hs:(tl.map Cl.id).Pairwise (· ≤ ·)){id:Int}(h:(az tl id).isSome=true):atC tl id=lbI (tl.map Cl.id) id:=by
 obtain ⟨c,hc⟩:=zh5.1 h;have hm:(tl.map Cl.id).contains id=true:=by
  obtain ⟨h1,h2⟩:=bF hc;simp;exact⟨c,h1,h2⟩
 unfold atC;rw[zf7 hm]
def cm (a b:List Cl):Bool:=!decide ((aC a).2=0) || !decide ((aC b).2=0)||decide (((ab a).length:Int) * (ab b).length>4000)
def bM (a b:List Cl):List Cl:=if cm a b then [] else if (aC (de a b)).2=0 then aa (de a b) else []
theorem mX {α β:Type}{l:List α}{i:Nat}(h:i<l.length)(f:α→List β):(l.take (i+1)).flatMap f=(l.take i).flatMap f++f l[i]:=by
 rw[tS h,List.flatMap_append];simp
theorem eF (E:World)(g:PH)(s:Own)(v u:Value)(a b:List Cl)(hv:am g v a)(hu:am g u b)(ha:cZ a)(hb:cZ b) :
  Ctr Tryz.prog E 58 #[.agg #[v],.agg #[u]] g s (fun r g' s'=>s=s'∧Le g g'∧∃ x,r = .agg #[x]∧am g' x (bM a b)):=by
 obtain ⟨vp0,vc0,hvf⟩:=hv.form;obtain ⟨up0,uc0,huf⟩:=hu.form;have hbadA:¬ (aC a).2=0→cm a b=true:=fun h=>by simp[cm,h]
 have hbadB:(aC a).2=0→¬ (aC b).2=0→cm a b=true:=fun h h2=>by simp[cm,h2]
 have hbadC:(aC a).2=0→(aC b).2=0→cm a b=decide (((ab a).length:Int) * (ab b).length>4000):=fun h h2=>by simp[cm,h,h2]
 have hta:=pn a;have htb:=pn b;have hmul:(aC a).2=0→(aC b).2=0→((ab a).length:Int) * (ab b).length≤16000000∧0≤((ab a).length:Int) * (ab b).length:=fun h h2=>wD (zk6 hta (dj h).1) (zk6 htb (dj h2).1);refine za9 (args:=[.agg #[v],.agg #[u]]) func58 I ntmps58 (bE I) ?_;refine rZ (bW (bO I) fun b2=>?_);refine bW (bO I) fun b3=>?_;refine bW (aL zl4) fun b4=>?_;refine tZ (rZ (lK (qV 2 bq aw I I I) (lW (cL call106 I (jd E g _ _ a hv ha)) ?_)));rintro _ g1 _ ⟨rfl,rfl,hle1⟩;refine aT I (rZ (lK (qV 1 bq aw I I I) (lW (cL call106 I (jd E g1 _ _ b (hu.mono hle1) hb)) ?_)));rintro _ g2 _ ⟨rfl,rfl,hle2⟩;refine aT I (rZ (lK (qV 2 bq aw I I I) (lW (cL call65 I (fM E g2 _ _ a (hv.mono (hle1.trans hle2)) ha)) ?_)));rintro v24 g3 _ ⟨rfl,hle3,hA⟩;refine aT I (rZ (lK (qV 1 bq aw I I I) (lW (cL call65 I (fM E g3 _ _ b (hu.mono (hle1.trans (hle2.trans hle3))) hb)) ?_)));rintro v26 g4 _ ⟨rfl,hle4,hB⟩;obtain ⟨ra,hra0,halla0⟩:=hA;have hra:=hra0.mono hle4;have halla:=halla0.mono fun _ _=>au.mono hle4;obtain ⟨rb,hrb,hallb⟩:=hB;have eal:=halla.length;have ebl:=hallb.length;obtain ⟨pa,ca,rfl⟩:=hra.form;obtain ⟨pb,cb,rfl⟩:=hrb.form;refine aT I (sQ ?_);refine SC.cutB 40 ((cm a b)) ?_ ?_
 ·refine rG (lM I (lU (SU.notP I) (lM I ?_)));refine sP ?_ ?_
  ·intro h29;refine yA I (yA I (yP I (lM I (yA I (yA I (yA I (yA I (yA I (yA I (yP I (nL ?_)))))))))));exact za8 (by (rw[hbadA h29]; rfl)) mI
  ·intro h29;refine yC I (lY I I I (SU.notP I) (yF I (lM I ?_)));refine sP ?_ ?_
   ·intro h33;refine yA I (yA I (yA I (yA I (yA I (yA I (yP I (nL ?_)))))));exact za8 (by (rw[hbadB (zg6 h29) h33]; rfl)) mI
   ·intro h33;refine yC I (lY I I I (eN aO I) (yC I (lY I I I (eN aO I) (lY I I I (SU.mul I I (by have:=hmul (zg6 h29) (zg6 h33); rw[eal,ebl] at this; omega)) ?_))));refine lY I I I (gR I I) (yF I (nL ?_));exact za8 (by (rw[hbadC (zg6 h29) (zg6 h33),eal,ebl]; rfl)) mI
 refine iQ I (fun hbad=>?_) (fun hbad=>?_)
 ·refine rZ (lU (za1 I (buildE30)) (oZ (sK 0 aw I I I I I sB) ?_));refine tZ (rE (tR ?_));exact ST.retCD 0 s (.inl I) results58 I bq aw I I uR ⟨I,hle1.trans (hle2.trans (hle3.trans hle4)),_,I,by unfold bM; rw[zf7 hbad]; exact⟨[],zb8 _ _,trivial⟩⟩
 ·have hra0:(aC a).2=0:=zg6 fun h=>by rw[hbadA h] at hbad; cases hbad
  have hrb0:(aC b).2=0:=zg6 fun h=>by rw[hbadB hra0 h] at hbad; cases hbad
  have hsz:((ab a).length:Int) * (ab b).length≤4000:=by rw[hbadC hra0 hrb0] at hbad; simp at hbad; omega
  obtain ⟨hal,hastr,hat,haf⟩:=dj hra0;obtain ⟨hbl,hbstr,hbt,hbf⟩:=dj hrb0;rw[← hat] at hastr haf;rw[← hbt] at hbstr hbf;have hats:=eV a;have hbts:=eV b;have hai:((ab a).map Cl.id).Pairwise (· < ·):=zk1.2 hastr;have hbi:((ab b).map Cl.id).Pairwise (· < ·):=zk1.2 hbstr;have hall4:ab a=aa a→ab b=aa b→de a b=(ab a).flatMap fun x=>(ab b).map (di (ab a) (ab b) x):=fun h h2=>by unfold de; rw[← h,← h2]
  have hprod:=hall4 hat hbt;have hCa:am g4 (.slice pa ra.length ca) (ab a):=⟨ra,hra,halla⟩;have hCb:am g4 (.slice pb rb.length cb) (ab b):=⟨rb,hrb,hallb⟩;refine kP (tN (sW I (lU (eN aO I) (aT I (rZ (bW (aL zl4) fun b10=>?_))))));refine tZ (sQ (rZ (aT I (bK (zb4 78 3 ?_)))));refine oP (ι:=PH×Value×List Rc×Nat) (fun i=>[(2,pp b2 0),(3,pp b3 0),(4,pp b4 0),(7,.slice pa ra.length ca),(8,.slice pb rb.length cb),(9,vi rb.length),(10,pp b10 0),(11,vi i.2.2.2)]) (fun i=>i.1) (fun i=>rowA encCell 78 i.2.1 i.2.2.1::pt b10 (.cells #[i.2.1] 30 (0,0))::pt b4 (.cells #[.slice none 0 0] 30 (0,0))::pt b3 (.cells #[u] 30 (0,0))::pt b2 (.cells #[v] 30 (0,0))::s)
   (fun i=>Le g4 i.1∧i.2.2.2≤ra.length∧aB (au i.1) (((ab a).take i.2.2.2).flatMap fun x=>(ab b).map (di (ab a) (ab b) x)) i.2.2.1) (fun i=>ra.length - i.2.2.2)
   (g4,.slice none 0 0,[],0) sB rfl rfl ⟨zb7 g4,zf3 _,trivial⟩ ?_
  rintro ⟨g5,ov,rcs,i⟩ ⟨hle5,hi,hrcs⟩;dsimp only at hle5 hi hrcs ⊢;refine sQ (sW I (lM I (lU (eN aO I) (yL I (tZ ?_)))));refine iP I (fun hlt=>?_) (fun hlt=>?_)
  ·have hil:i<(ab a).length:=oM;have hir:i<ra.length:=oM;have hb1:=hra.based oM;have hxr:=halla.get (gE hil) (gE hir);have hgx0:ra[((i:Nat):Int).toNat]?=some ra[i]:=gE hir;have hxm:=gM hil;have hxi:lbI ((ab a).map Cl.id) (ab a)[i].id=i:=by
    have:=jH (l:=(ab a).map Cl.id) (k:=i) (by simpa using hil) hai;simpa using this
   have hsucc:=mX hil fun x=>(ab b).map (di (ab a) (ab b) x);generalize hxe:(ab a)[i]=x at *;obtain ⟨xp,xcap,hrx,hxs⟩:=eo hxr;rw[hrx] at hgx0;have hgx:=hgx0;have hxf:=haf x hxm;have hxd:=yf hxf;have hxo:=jp hxf;have hxfd:=mM hxf;refine kP (tN (sQ (bK (rZ (aT I (bK ?_))))));refine oP (ι:=PH×Value×List Rc×Nat) (fun k=>[(2,pp b2 0),(3,pp b3 0),(4,pp b4 0),(7,.slice pa ra.length ca),(8,.slice pb rb.length cb),(9,vi rb.length),(10,pp b10 0),(11,vi i),(12,vi k.2.2.2)]) (fun k=>k.1) (fun k=>rowA encCell 78 k.2.1 k.2.2.1::pt b10 (.cells #[k.2.1] 30 (0,0))::pt b4 (.cells #[.slice none 0 0] 30 (0,0))::pt b3 (.cells #[u] 30 (0,0))::pt b2 (.cells #[v] 30 (0,0))::s)
    (fun k=>Le g5 k.1∧k.2.2.2≤rb.length∧aB (au k.1) ((((ab a).take i).flatMap fun x=>(ab b).map (di (ab a) (ab b) x))++((ab b).take k.2.2.2).map (di (ab a) (ab b) x)) k.2.2.1) (fun k=>rb.length - k.2.2.2)
    (g5,ov,rcs,0) sB rfl rfl ⟨zb7 g5,zf3 _,by simpa using hrcs⟩ ?_
   rintro ⟨g6,ov2,rcs2,k⟩ ⟨hle6,hk,hrcs2⟩;dsimp only at hle6 hk hrcs2 ⊢;refine sQ (sW I (lM I (yL I (tZ ?_))));refine iP I (fun hlt2=>?_) (fun hlt2=>?_)
   ·have hkl:k<(ab b).length:=oM;have hkr:k<rb.length:=oM;have hb2:=hrb.based oM;have hyr:=hallb.get (gE hkl) (gE hkr);have hgy0:rb[((k:Nat):Int).toNat]?=some rb[k]:=gE hkr;have hym:=gM hkl;have hyi:lbI ((ab b).map Cl.id) (ab b)[k].id=k:=by
     have:=jH (l:=(ab b).map Cl.id) (k:=k) (by simpa using hkl) hbi;simpa using this
    have htk:((ab b).take (k+1)).map (di (ab a) (ab b) x)=((ab b).take k).map (di (ab a) (ab b) x)++[di (ab a) (ab b) x (ab b)[k]]:=by rw[tS hkl,zg2]; rfl
    generalize hye:(ab b)[k]=y at *;obtain ⟨yp,ycap,hry,hys⟩:=eo hyr;rw[hry] at hgy0;have hgy:=hgy0;have hyf:=hbf y hym;have hyd:=yf hyf;have hyo:=jp hyf;have hyfd:=mM hyf;have hlenr:=hrcs2.length;have hbnd:(i:Int) * rb.length≤4000:=by
     have h1:(i:Int) * rb.length≤(ra.length:Int) * rb.length:=Int.mul_le_mul_of_nonneg_right oM oM;rw[eal,ebl] at hsz;omega
    have hbnd0:0≤(i:Int) * rb.length:=Int.mul_nonneg oM oM;have hrcl:rcs2.length≤4000:=by
     have h1:rcs2.length=i * rb.length+k:=by
      rw[← hlenr,ze2,ze3,ze1,i5,ze1,← ebl];rw[Nat.min_eq_left oM,Nat.min_eq_left oM]
     have h2:i * rb.length+k≤ra.length * rb.length:=by
      have h3:(i+1) * rb.length≤ra.length * rb.length:=Nat.mul_le_mul_right _ oM;rw[Nat.succ_mul] at h3;omega
     have h4:((ra.length * rb.length:Nat):Int)≤4000:=by rw[eal,ebl] at hsz; rw[Int.natCast_mul]; exact hsz
     omega
    have hid:aN (ab a) (ab b) x.id y.id=(i:Int) * rb.length+k+1:=by unfold aN; rw[hxi,hyi,ebl]
    have hra6:=hra.mono (hle5.trans hle6);have hrb6:=hrb.mono (hle5.trans hle6);have hxs6:=hxs.mono (hle5.trans hle6);have hys6:=hys.mono (hle5.trans hle6);refine kP (tN (sQ (bK (sQ ?_))));refine dW [] [(0,2),(1,2),(2,2),(3,2),(4,2),(5,2),(6,2),(7,2),(8,2),(9,2),(10,1),(11,2),(12,2),(13,2),(14,2),(15,1),(16,2),(17,2),(18,0),(19,0)] zd9 kR ?_;refine yM I (yM I (pU I (SU.mul I I oM) (yM I (pU I (aD I I oM) (pU I (aD I I oM) (yM I (yM I (pU I (iA aO aK I I hb1 oM sL) (pU I (fC ar I zT3 I hb1) (pK I (aZ (e:=encCell) (o:=1) (u:=vi x.dim) iT3 I hra6.rd hgx I) (yM I (yM I (pU I (iA aO aK I I hb2 oM sL) (pU I (fC ar I zT3 I hb2) (pK I (aZ (e:=encCell) (o:=1) (u:=vi y.dim) iT3 I hrb6.rd hgy I) (pU I (aD I I oM) (pU I (za1 I (buildC78 _ _)) (SP.o I (aL zl1) dC (.inr iR) ?_))))))))))))))))));rintro _ _ _ ⟨b13,rfl,rfl,rfl⟩;refine SP.on I (sK 0 aK I I I I I sB) (.inr iR) ?_;rintro _ _ _ ⟨rfl,rfl⟩;refine pN (tN (sQ (rZ (aT I (bK ?_)))));refine SC.to (fun w hw=>?_) (g':=g6) (s':=pt b13 (.cells #[vi (aN (ab a) (ab b) x.id y.id),vi (x.dim+y.dim),.slice none 0 0] 78 (0,0))::rowA encCell 78 ov2 rcs2::pt b10 (.cells #[ov2] 30 (0,0))::pt b4 (.cells #[.slice none 0 0] 30 (0,0))::pt b3 (.cells #[u] 30 (0,0))::pt b2 (.cells #[v] 30 (0,0))::s) ?_
    ·rw[hid]; exact hw
    refine zb4 94 2 ?_;refine oP (ι:=Value×Nat) (fun j=>[(2,pp b2 0),(3,pp b3 0),(4,pp b4 0),(7,.slice pa ra.length ca),(8,.slice pb rb.length cb),(9,vi rb.length),(10,pp b10 0),(11,vi i),(12,vi k),(13,pp b13 0),(14,vi j.2)]) (fun _=>g6)
     (fun j=>rowA encSide 94 j.1 ((x.sides.take j.2).map fun q=>(⟨aN (ab a) (ab b) q.cell y.id,q.sign⟩:ai))::pt b13 (.cells #[vi (aN (ab a) (ab b) x.id y.id),vi (x.dim+y.dim),j.1] 78 (0,0))::rowA encCell 78 ov2 rcs2::pt b10 (.cells #[ov2] 30 (0,0))::pt b4 (.cells #[.slice none 0 0] 30 (0,0))::pt b3 (.cells #[u] 30 (0,0))::pt b2 (.cells #[v] 30 (0,0))::s)
     (fun j=>j.2≤x.sides.length) (fun j=>x.sides.length - j.2) (.slice none 0 0,0) sB rfl rfl (zf3 _) ?_
    rintro ⟨sv,j⟩ hj;dsimp only at hj ⊢;refine sQ (sW I (lM I (lM I (lU (iA aO aK I I hb1 oM sL) (lU (fC ar I cA I hb1) (lK (aZ (e:=encCell) (o:=2) (u:=.slice xp x.sides.length xcap) dE I hra6.rd hgx I) (lU (eN cM I) (yL I (tZ ?_)))))))));refine iP I (fun hlt3=>?_) (fun hlt3=>?_)
    ·have hjl:j<x.sides.length:=oM;have hb3:=hxs6.based oM;have hjx:x.sides[((j:Nat):Int).toNat]?=some x.sides[j]:=gE hjl;have htj:(x.sides.take (j+1)).map (fun q=>(⟨aN (ab a) (ab b) q.cell y.id,q.sign⟩:ai))=(x.sides.take j).map (fun q=>(⟨aN (ab a) (ab b) q.cell y.id,q.sign⟩:ai))++[⟨aN (ab a) (ab b) x.sides[j].cell y.id,x.sides[j].sign⟩]:=by rw[tS hjl,zg2]; rfl
     have hqf:=hxfd _ (gM hjl);generalize x.sides[j]=z at *;have hatz:=yR hats hqf;have hlbz:=Fk ((ab a).map Cl.id) z.cell;rw[ze3] at hlbz;have hidz:aN (ab a) (ab b) z.cell y.id=((lbI ((ab a).map Cl.id) z.cell:Nat):Int) * rb.length+k+1:=by unfold aN; rw[hyi,ebl]
     have hbz:((lbI ((ab a).map Cl.id) z.cell:Nat):Int) * rb.length≤4000:=by
      have h1:((lbI ((ab a).map Cl.id) z.cell:Nat):Int) * rb.length≤(ra.length:Int) * rb.length:=Int.mul_le_mul_of_nonneg_right oM oM;rw[eal,ebl] at hsz;omega
     have hbz0:0≤((lbI ((ab a).map Cl.id) z.cell:Nat):Int) * rb.length:=Int.mul_nonneg oM oM;refine kP (tN (sQ (bK (sW I (lM I (lU (iA aO aK I I hb1 oM sL) (lU (fC ar I cA I hb1) (lK (aZ (e:=encCell) (o:=2) (u:=.slice xp x.sides.length xcap) dE I hra6.rd hgx I) (lM I (lU (iA cM cq I I hb3 oM sL) (lK (eA mT cq I hxs6.rd hjx) (bW (aL zk9) fun b15=>?_))))))))))));refine oZ (sK 0 cq I I I I I sB) ?_;refine tZ ?_;refine SC.to (fun w hw=>hw) (g':=g6) (s':=pt b15 (.cells #[vi z.cell,vi z.sign] 94 (0,0))::rowA encSide 94 sv ((x.sides.take j).map fun q=>(⟨aN (ab a) (ab b) q.cell y.id,q.sign⟩:ai))::pt b13 (.cells #[vi (aN (ab a) (ab b) x.id y.id),vi (x.dim+y.dim),sv] 78 (0,0))::rowA encCell 78 ov2 rcs2::pt b10 (.cells #[ov2] 30 (0,0))::pt b4 (.cells #[.slice none 0 0] 30 (0,0))::pt b3 (.cells #[u] 30 (0,0))::pt b2 (.cells #[v] 30 (0,0))::s) ?_;refine dW [15,16,17] [(0,2),(1,1),(2,2),(3,2),(4,1),(6,2),(8,2),(11,2),(12,1),(5,0),(7,2),(9,2),(10,2),(13,2),(14,0),(15,0),(16,0),(17,0)] zd9 kR ?_;refine pU I (fA ar I cA I) (pK I (qL (v:=sv) dE I (cO 2 I I)) (yM I (pU I (fA dK I zT3 I) (pK I (qL (v:=vi z.cell) iT3 I (cO 0 I I)) (yM I (yM I (pU I (fA dK I zT3 I) (pK I (qL (v:=vi z.sign) iT3 I (cO 0 I I)) (SP.o I (cL call66 I (iH E g6 _ _ (ab a) z.cell (hCa.mono (hle5.trans hle6)) oM hats)) dC (.inr iR) ?_)))))))));rintro _ _ _ ⟨rfl,rfl,rfl⟩;rw[hatz];refine pU I (SU.mul I I oM) (pU I (aD I I oM) (pU I (SU.eq (v':=vi (aN (ab a) (ab b) z.cell y.id)) (aD I I oM) (zd8 vi hidz.symm)) (pU I (za1 I (buildS94 _ _)) (SP.o I (bS sty76 I I I (ae sB) dC) dC (.inr iR) ?_))));rintro _ _ _ ⟨b105,rfl,rfl,rfl⟩;refine SP.o I (aP (e:=encSide) 1 ⟨aN (ab a) (ab b) z.cell y.id,z.sign⟩ sty76 I I I I I (by simp; omega) (by simp; omega)) dC (.inl dC) ?_;rintro sv' _ _ ⟨rfl,rfl⟩;rw[← htj];refine zc8 fun ⟨w0,hw0⟩=>?_;obtain ⟨q6,d6,rfl⟩:=ah (i:=1) hw0 rfl;clear hw0 w0;refine oU rfl (fA ar rfl cA rfl) dC (.inl dC) (SP.on rfl (SO.store1 2 cA rfl rfl rfl rfl (bE rfl) (by rfl)) (.inl dC) ?_);rintro _ _ _ ⟨rfl,rfl⟩;refine pN (bN (tN (rG (lM I (yD I (lA I (nL (dR (s':=rowA encSide 94 (.slice q6 ((x.sides.take (j+1)).map fun q=>(⟨aN (ab a) (ab b) q.cell y.id,q.sign⟩:ai)).length d6) ((x.sides.take (j+1)).map fun q=>(⟨aN (ab a) (ab b) q.cell y.id,q.sign⟩:ai))::pt b13 (.cells #[vi (aN (ab a) (ab b) x.id y.id),vi (x.dim+y.dim),.slice q6 ((x.sides.take (j+1)).map fun q=>(⟨aN (ab a) (ab b) q.cell y.id,q.sign⟩:ai)).length d6] 78 (0,0))::rowA encCell 78 ov2 rcs2::pt b10 (.cells #[ov2] 30 (0,0))::pt b4 (.cells #[.slice none 0 0] 30 (0,0))::pt b3 (.cells #[u] 30 (0,0))::pt b2 (.cells #[v] 30 (0,0))::s) (.cons _ (.refl _)) ?_))))))));exact gA (_,j+1) sB I I lN lN
    ·have hjj:x.sides.take j=x.sides:=tL oM;rw[hjj];generalize hfl1:x.sides.map (fun q=>(⟨aN (ab a) (ab b) q.cell y.id,q.sign⟩:ai))=fl1 at *;have hfl1l:fl1.length=x.sides.length:=by rw[← hfl1,ze3]
     refine xI (tX (tX (bX (tN (sQ (rZ (aT I (bK ?_))))))));refine oP (ι:=Value×Nat) (fun m=>[(2,pp b2 0),(3,pp b3 0),(4,pp b4 0),(7,.slice pa ra.length ca),(8,.slice pb rb.length cb),(9,vi rb.length),(10,pp b10 0),(11,vi i),(12,vi k),(13,pp b13 0),(16,vi m.2)]) (fun _=>g6)
      (fun m=>rowA encSide 94 m.1 (fl1++(y.sides.take m.2).map fun q=>(⟨aN (ab a) (ab b) x.id q.cell,cH x.dim * q.sign⟩:ai))::pt b13 (.cells #[vi (aN (ab a) (ab b) x.id y.id),vi (x.dim+y.dim),m.1] 78 (0,0))::rowA encCell 78 ov2 rcs2::pt b10 (.cells #[ov2] 30 (0,0))::pt b4 (.cells #[.slice none 0 0] 30 (0,0))::pt b3 (.cells #[u] 30 (0,0))::pt b2 (.cells #[v] 30 (0,0))::s)
      (fun m=>m.2≤y.sides.length) (fun m=>y.sides.length - m.2) (sv,0) sB rfl (by simp) (zf3 _) ?_
     rintro ⟨sv2,m⟩ hm;dsimp only at hm ⊢;refine sQ (sW I (lM I (lM I (lU (iA aO aK I I hb2 oM sL) (lU (fC ar I cA I hb2) (lK (aZ (e:=encCell) (o:=2) (u:=.slice yp y.sides.length ycap) dE I hrb6.rd hgy I) (lU (eN cM I) (yL I (tZ ?_)))))))));refine iP I (fun hlt4=>?_) (fun hlt4=>?_)
     ·have hml:m<y.sides.length:=oM;have hb3:=hys6.based oM;have hmx:y.sides[((m:Nat):Int).toNat]?=some y.sides[m]:=gE hml;have htm:fl1++(y.sides.take (m+1)).map (fun q=>(⟨aN (ab a) (ab b) x.id q.cell,cH x.dim * q.sign⟩:ai))=fl1++(y.sides.take m).map (fun q=>(⟨aN (ab a) (ab b) x.id q.cell,cH x.dim * q.sign⟩:ai))++[⟨aN (ab a) (ab b) x.id y.sides[m].cell,cH x.dim * y.sides[m].sign⟩]:=by rw[tS hml,zg2]; simp
      have hqf:=hyfd _ (gM hml);have hqs:=hyo.2 _ (gM hml);generalize y.sides[m]=z at *;have hatz:=yR hbts hqf;have hlbz:=Fk ((ab b).map Cl.id) z.cell;rw[ze3] at hlbz;have hidz:aN (ab a) (ab b) x.id z.cell=(i:Int) * rb.length+((lbI ((ab b).map Cl.id) z.cell:Nat):Int)+1:=by unfold aN; rw[hxi,ebl]
      have hsgn:z.sign * cH x.dim=cH x.dim * z.sign:=Int.mul_comm _ _;have hsgc:=wk x.dim;have htmod:x.dim.tmod 2=x.dim % 2:=Int.tmod_eq_emod_of_nonneg hxd.1;have hmulb : -1≤z.sign * cH x.dim∧z.sign * cH x.dim≤1:=by rcases hqs with h | h <;> rcases hsgc with h2 | h2 <;> rw[h,h2] <;> decide
      refine kP (tN (sQ (bK (sW I (lM I (lU (iA aO aK I I hb2 oM sL) (lU (fC ar I cA I hb2) (lK (aZ (e:=encCell) (o:=2) (u:=.slice yp y.sides.length ycap) dE I hrb6.rd hgy I) (lM I (lU (iA cM cq I I hb3 oM sL) (lK (eA mT cq I hys6.rd hmx) (bW (aL zk9) fun b17=>?_))))))))))));refine oZ (sK 0 cq I I I I I sB) ?_;refine tZ ?_;refine SC.to (fun w hw=>hw) (g':=g6) (s':=pt b17 (.cells #[vi z.cell,vi z.sign] 94 (0,0))::rowA encSide 94 sv2 (fl1++(y.sides.take m).map fun q=>(⟨aN (ab a) (ab b) x.id q.cell,cH x.dim * q.sign⟩:ai))::pt b13 (.cells #[vi (aN (ab a) (ab b) x.id y.id),vi (x.dim+y.dim),sv2] 78 (0,0))::rowA encCell 78 ov2 rcs2::pt b10 (.cells #[ov2] 30 (0,0))::pt b4 (.cells #[.slice none 0 0] 30 (0,0))::pt b3 (.cells #[u] 30 (0,0))::pt b2 (.cells #[v] 30 (0,0))::s) ?_;refine dW [24,25,26] [(0,2),(1,1),(2,2),(3,2),(4,2),(5,2),(6,2),(7,1),(11,2),(12,1),(13,2),(14,2),(15,2),(16,2),(17,1),(18,2),(19,2),(20,2),(21,2),(8,0),(9,2),(10,2),(22,2),(23,0),(24,0),(25,0),(26,0)] zd9 kR ?_;refine pU I (fA ar I cA I) (pK I (qL (v:=sv2) dE I (cO 2 I I)) (yM I (yM I (pU I (SU.mul I I oM) (yM I (pU I (fA dK I zT3 I) (pK I (qL (v:=vi z.cell) iT3 I (cO 0 I I)) (pU I (fA dK I zT3 I) (pK I (qL (v:=vi z.sign) iT3 I (cO 0 I I)) (yM I (yM I (pU I (iA aO aK I I hb1 oM sL) (pU I (fC ar I zT3 I hb1) (pK I (aZ (e:=encCell) (o:=1) (u:=vi x.dim) iT3 I hra6.rd hgx I) (pU I (SU.eq (v':=vi (x.dim % 2)) (zd4 I I dC) (zd8 vi htmod)) (pU I (SU.mul I I oM) (pU I (SU.eq (v':=vi (cH x.dim)) (sU I I oM) I) (pU I (SU.eq (v':=vi (cH x.dim * z.sign)) (SU.mul I I oM) (zd8 vi hsgn)) (SP.o I (cL call66 I (iH E g6 _ _ (ab b) z.cell (hCb.mono (hle5.trans hle6)) oM hbts)) dC (.inr iR) ?_)))))))))))))))))));rintro _ _ _ ⟨rfl,rfl,rfl⟩;rw[hatz];refine pU I (aD I I oM) (pU I (SU.eq (v':=vi (aN (ab a) (ab b) x.id z.cell)) (aD I I oM) (zd8 vi hidz.symm)) (pU I (za1 I (buildS94 _ _)) (SP.o I (bS sty76 I I I (ae sB) dC) dC (.inr iR) ?_)));rintro _ _ _ ⟨b149,rfl,rfl,rfl⟩;refine SP.o I (aP (e:=encSide) 1 ⟨aN (ab a) (ab b) x.id z.cell,cH x.dim * z.sign⟩ sty76 I I I I I (by simp; omega) (by simp; omega)) dC (.inl dC) ?_;rintro sv3 _ _ ⟨rfl,rfl⟩;rw[← htm];refine zc8 fun ⟨w0,hw0⟩=>?_;obtain ⟨q7,d7,rfl⟩:=ah (i:=1) hw0 rfl;clear hw0 w0;refine oU rfl (fA ar rfl cA rfl) dC (.inl dC) (SP.on rfl (SO.store1 2 cA rfl rfl rfl rfl (bE rfl) (by rfl)) (.inl dC) ?_);rintro _ _ _ ⟨rfl,rfl⟩;refine pN (bN (tN (rG (lM I (yD I (lA I (nL (dR (s':=rowA encSide 94 (.slice q7 (fl1++(y.sides.take (m+1)).map fun q=>(⟨aN (ab a) (ab b) x.id q.cell,cH x.dim * q.sign⟩:ai)).length d7) (fl1++(y.sides.take (m+1)).map fun q=>(⟨aN (ab a) (ab b) x.id q.cell,cH x.dim * q.sign⟩:ai))::pt b13 (.cells #[vi (aN (ab a) (ab b) x.id y.id),vi (x.dim+y.dim),.slice q7 (fl1++(y.sides.take (m+1)).map fun q=>(⟨aN (ab a) (ab b) x.id q.cell,cH x.dim * q.sign⟩:ai)).length d7] 78 (0,0))::rowA encCell 78 ov2 rcs2::pt b10 (.cells #[ov2] 30 (0,0))::pt b4 (.cells #[.slice none 0 0] 30 (0,0))::pt b3 (.cells #[u] 30 (0,0))::pt b2 (.cells #[v] 30 (0,0))::s) (.cons _ (.refl _)) ?_))))))));exact gA (_,m+1) sB I I lN lN
     ·have hmm:y.sides.take m=y.sides:=tL oM;rw[hmm];have hpc:di (ab a) (ab b) x y=⟨aN (ab a) (ab b) x.id y.id,x.dim+y.dim,fl1++y.sides.map fun q=>(⟨aN (ab a) (ab b) x.id q.cell,cH x.dim * q.sign⟩:ai)⟩:=by unfold di; rw[hfl1]
      generalize hfl2:(fl1++y.sides.map fun q=>(⟨aN (ab a) (ab b) x.id q.cell,cH x.dim * q.sign⟩:ai))=fl2 at *;refine xI (tX (tX (bX (tN (rG (fR fun g7 hle7 hs7=>?_))))));have hsd:SlA encSide g7 sv2 fl2:=hs7;obtain ⟨q8,d8,rfl⟩:=za2 hsd;obtain ⟨nc,hnc⟩:∃ nc:Rc,nc=⟨aN (ab a) (ab b) x.id y.id,x.dim+y.dim,⟨q8,fl2.length,d8⟩⟩:=⟨_,rfl⟩;refine lU (fA fq I ek I) (lK (qL ii I (cO 2 I I)) (lK (qV 0 gJ aK I I I) (lW (bS sty28 I I I (ae sB) dC) ?_)));rintro _ _ _ ⟨b155,rfl,rfl,rfl⟩;refine lW (aP (e:=encCell) 1 nc sty28 I I I I (by rw[hnc]; rfl) oM oM) ?_;rintro v156 _ _ ⟨rfl,rfl⟩;refine zc9 fun ⟨w0,hw0⟩=>?_;obtain ⟨q9,d9,rfl⟩:=ah (i:=1) hw0 rfl;clear hw0 w0;refine lU (fA fq I ek I) (oZ (sK 2 ek I I I I I sB) ?_);refine nL (bN (tN (rG (lM I (yD I (lA I (nL (dR (s':=rowA encCell 78 (.slice q9 (rcs2++[nc]).length d9) (rcs2++[nc])::pt b10 (.cells #[(.slice q9 (rcs2++[nc]).length d9)] 30 (0,0))::pt b4 (.cells #[.slice none 0 0] 30 (0,0))::pt b3 (.cells #[u] 30 (0,0))::pt b2 (.cells #[v] 30 (0,0))::s) (.cons _ (.refl _)) ?_))))))));refine gA (g7,_,rcs2++[nc],k+1) sB I I ⟨hle6.trans hle7,lN,?_⟩ lN;dsimp only;rw[htk,← zg5];exact (hrcs2.mono fun _ _=>au.mono hle7).append ⟨(by rw[hpc,hnc]; exact⟨I,I,hsd⟩),trivial⟩
   ·have hkk:(ab b).take k=ab b:=tL oM;rw[hkk] at hrcs2;refine xI (tX (tX (bX (bN (tN (rG (lM I (yD I (lA I (nL ?_))))))))));exact gA (g6,ov2,rcs2,i+1) sB I I ⟨hle5.trans hle6,lN,by dsimp only; rw[hsucc]; exact hrcs2⟩ lN
  ·have hii:(ab a).take i=ab a:=tL oM;rw[hii,← hprod] at hrcs;have hpl:(de a b).length≤4000:=by
    rw[hprod,i5];have h4:(((ab a).length * (ab b).length:Nat):Int)≤4000:=by rw[Int.natCast_mul]; exact hsz
    omega
   have hfit:cZ (de a b):=by
    refine⟨oM,fun c hc=>?_⟩;rw[hprod] at hc;obtain ⟨x,hx,hc⟩:=List.mem_flatMap.1 hc;obtain ⟨y,hy,rfl⟩:=ze8.1 hc;have h1:=(jp (haf x hx)).1;have h2:=(jp (hbf y hy)).1;simp[di];omega
   refine xI (tX (tX (bX (tN (sQ (fS fun g6 hle6 hs6=>?_))))));have hov:am g6 ov (de a b):=⟨rcs,hs6,hrcs.mono fun _ _=>au.mono hle6⟩;refine rG (lK (qV 0 bq aw I I I) (lW (cL call106 I (jd E g6 _ _ (de a b) hov hfit)) ?_));rintro _ g7 _ ⟨rfl,rfl,hle7⟩;refine aT I (sQ (sW I (lU (SU.notP I) (tZ ?_))));refine iP I (fun hr=>?_) (fun hr=>?_)
   ·refine rZ (lU (za1 I (buildE30)) (oZ (sK 1 aw I I I I I sB) ?_));refine tZ (rE (tR ?_));exact ST.retCD 1 s (.inl I) results58 I bq aw I I uR ⟨I,hle1.trans (hle2.trans (hle3.trans (hle4.trans (hle5.trans (hle6.trans hle7))))),_,I,by unfold bM; rw[zf6 (by rw[hbad]; simp),zf6 hr]; exact⟨[],zb8 _ _,trivial⟩⟩
   ·refine kP (tN (rZ (lK (qV 0 bq aw I I I) (lW (cL call107 I (fN E g7 _ _ (de a b) (hov.mono hle7) hfit)) ?_))));rintro _ g8 _ ⟨rfl,hle8,x8,rfl,hx8⟩;obtain ⟨q8,d8,rfl⟩:=hx8.form;refine oZ (sK 1 aw I I I I I sB) ?_;refine tZ (rE ?_);exact ST.retCD 1 s (.inl I) results58 I bq aw I I uR ⟨I,hle1.trans (hle2.trans (hle3.trans (hle4.trans (hle5.trans (hle6.trans (hle7.trans hle8)))))),_,I,by unfold bM; rw[zf6 (by rw[hbad]; simp),zf7 (zg6 hr)]; exact hx8⟩
end Go.Proofs.YtkbagdedfdfjhaaGreatDoor
namespace Go.Sy
open Go
section
variable {P:Program}{N:Nat}{E:World}{ops:Array Oper}{Q:Exit→Act→World→Prop}{g0:PH}{s0:Own}{tail:List Nat}{f:Fr}{g g':PH}{s s':Own}{L:Array Bool}{n:Nat}
end
end Go.Sy
namespace Go.Sy
open Go
section
variable {P:Program}{N:Nat}{E:World}{ops:Array Oper}{Q:Exit→Act→World→Prop}{g0 g g':PH}{s0 s s':Own}{tail:List Nat}{L:Array Bool}{n:Nat}{f:Fr}
theorem SX.freeze {b:Nat}{o:Obj}(h:∀ g',Le g g'→g' b=some o→SX P N E ops Q g0 s0 tail L n f g' s):SX P N E ops Q g0 s0 tail L n f g (pt b o::s):=fun a w h1 hcl ha hw hb=>by
 have ho:w.heap[b]?=some o:=by have:=hw.own (pt b o) (by simp); simpa [pt] using this
 obtain ⟨h3,h4⟩:=hw.freeze (b:=b) rfl ho;exact h _ h4 (fw _ _ _) a w h1 hcl ha h3 hb
end
end Go.Sy
namespace Go.Proofs.YtkbagdedfdfjhaaGreatDoor
open _root_.Go.Proofs.Tryz _root_.Go.Proofs.YtkbagdedfdfjhaaGreatDoor.Tryz
open Go Go.Sy Go.Pl Go.Proofs
set_option maxRecDepth 100000
def m3 (ls:List (List Int)):List (List Int):=(ls.take 5).map fun l=>(l.take 4).map fun x=>bU x 7
theorem fQ {α β:Type}{l:List α}{i:Nat}(h:i<l.length)(f:α→β):(l.take (i+1)).map f=(l.take i).map f++[f l[i]]:=by
 rw[tS h,zg2]; rfl
theorem lD (E:World)(g:PH)(s:Own)(v:Value)(ls:List (List Int))(hv:aF g v ls) :
  Ctr Tryz.prog E 56 #[v] g s (fun r g' s'=>∃ rs,s'=rowA encSv 25 r rs::s∧Le g g'∧aB (bJ g') (m3 ls) rs):=by
 obtain ⟨rs0,hrs0,hall0⟩:=hv;have hlen0:=hall0.length;obtain ⟨p,c,rfl⟩:=za2 hrs0;refine za9 (args:=[.slice p rs0.length c]) func56 I ntmps56 (bE I) ?_;refine rZ (aT I (rZ (aT I (sQ (rZ (aT I (bK (zb4 25 1 ?_))))))));refine oP (ι:=PH×Value×List Sv×Nat) (fun i=>[(0,.slice p rs0.length c),(2,.slice none 0 0),(3,i.2.1),(4,vi i.2.2.2)]) (fun i=>i.1)
  (fun i=>rowA encSv 25 i.2.1 i.2.2.1::s)
  (fun i=>Le g i.1∧i.2.2.2≤rs0.length∧i.2.2.2≤5∧aB (bJ i.1) ((ls.take i.2.2.2).map fun l=>(l.take 4).map fun x=>bU x 7) i.2.2.1) (fun i=>rs0.length - i.2.2.2)
  (g,.slice none 0 0,[],0) sB rfl rfl ⟨zb7 g,zf3 _,zf3 _,trivial⟩ ?_
 rintro ⟨g1,ov,rs,i⟩ ⟨hle,hi,hi5,hrs⟩;dsimp only at hle hi hi5 hrs ⊢;have hrl:=hrs.length;rw[ze3,ze1] at hrl;have f1:(i:Int)<(rs0.length:Int)→(decide ((i:Int)<(rs0.length:Int))&&decide ((i:Int)<5))=decide ((i:Int)<5):=fun h=>by simp[h]
 have f2:¬ (i:Int)<(rs0.length:Int)→(decide ((i:Int)<(rs0.length:Int))&&decide ((i:Int)<5))=false:=fun h=>by simp only[h,decide_false,Bool.false_and]
 refine sQ ?_;refine SC.cutB 14 ((decide ((i:Int)<(rs0.length:Int))&&decide ((i:Int)<5))) ?_ ?_
 ·refine rG (lM I (lM I (lU (eN bH I) (yL I (lM I ?_)))));refine sP ?_ ?_
  ·intro h11;refine yC I (lY I I I (lS I I) (yP I (nL ?_)));exact za8 (by (rw[f1 h11]; rfl)) mI
  ·intro h11;refine yA I (yA I (yF I (nL ?_)));exact za8 (by (rw[f2 h11]; rfl)) mI
 refine iQ I (fun hc=>?_) (fun hc=>?_)
 ·rw[zi9,zj3,zj3] at hc;have hil:i<ls.length:=oM;have hir:i<rs0.length:=oM;have hb1:=hrs0.based oM;have hR:=(hall0.get (gE hil) (gE hir)).mono hle;have hRl:=hR.len;have hsucc:=fQ hil fun l=>(l.take 4).map fun x=>bU x 7;generalize hx:ls[i]=x at *;generalize hr:rs0[i]=r at *;obtain ⟨rp,rn,rc⟩:=r;dsimp only at hRl;subst hRl;have hxs:bT g1 (.slice rp x.length rc) x:=hR;have hgr:rs0[((i:Nat):Int).toNat]?=some ⟨rp,x.length,rc⟩:=by rw[← hr]; exact gE hir
  refine kP (tN (sQ (bK (rZ (aT I (sQ (rZ (aT I (bK (zb4 3 1 ?_))))))))));refine oP (ι:=Value×Nat) (fun k=>[(0,.slice p rs0.length c),(2,.slice none 0 0),(3,ov),(4,vi i),(5,k.1),(6,vi k.2)]) (fun _=>g1)
   (fun k=>rowA encInt 3 k.1 ((x.take k.2).map fun x=>bU x 7)::rowA encSv 25 ov rs::s)
   (fun k=>k.2≤x.length∧k.2≤4) (fun k=>x.length - k.2) (.slice none 0 0,0) sB rfl rfl ⟨zf3 _,zf3 _⟩ ?_
  rintro ⟨iv,k⟩ ⟨hk,hk4⟩;dsimp only at hk hk4 ⊢;have f3:(k:Int)<(x.length:Int)→(decide ((k:Int)<(x.length:Int))&&decide ((k:Int)<4))=decide ((k:Int)<4):=fun h=>by simp[h]
  have f4:¬ (k:Int)<(x.length:Int)→(decide ((k:Int)<(x.length:Int))&&decide ((k:Int)<4))=false:=fun h=>by simp only[h,decide_false,Bool.false_and]
  refine sQ ?_;refine SC.cutB 27 ((decide ((k:Int)<(x.length:Int))&&decide ((k:Int)<4))) ?_ ?_
  ·refine rG (lM I (lM I (lM I (lU (iA bH bZ I I hb1 oM sL) (lK (eB (u:=.slice rp x.length rc) dx I (hrs0.mono hle).rd hgr I) (lU (eN ak I) (yL I (lM I ?_))))))));refine sP ?_ ?_
   ·intro h24;refine yC I (lY I I I (lS I I) (yP I (nL ?_)));exact za8 (by (rw[f3 h24]; rfl)) mI
   ·intro h24;refine yA I (yA I (yF I (nL ?_)));exact za8 (by (rw[f4 h24]; rfl)) mI
  refine iQ I (fun hc2=>?_) (fun hc2=>?_)
  ·rw[zi9,zj3,zj3] at hc2;have hkl:k<x.length:=oM;have hb2:=za4 hxs oM;have hks:=fQ hkl fun x=>bU x 7;have hgk:x[((k:Nat):Int).toNat]?=some x[k]:=gE hkl;generalize x[k]=y at *;refine kP (tN (sQ (bK (rG (lM I (lM I (lM I (lU (iA bH bZ I I hb1 oM sL) (lK (eB (u:=.slice rp x.length rc) dx I (hrs0.mono hle).rd hgr I) (lM I (lU (iA ak zT3 I I hb2 oM sL) (lK (eB iT3 I (za5 hxs) hgk I) (lW (cL kT8 I (aW E g1 _ y 7 dC)) ?_)))))))))))));rintro _ _ _ ⟨rfl,rfl,rfl⟩;refine lW (bS sty25 I I I (ae sB) dC) ?_;rintro _ _ _ ⟨b39,rfl,rfl,rfl⟩;refine lW (aP (e:=encInt) 0 (bU y 7) sty25 I I I I I (by rw[ze3,ze1]; omega) (by rw[ze3,ze1]; omega)) ?_;rintro iv' _ _ ⟨rfl,rfl⟩;refine lA I (nL (bN (tN (rG (lM I (yD I (lA I (nL ?_))))))));refine ST.to (fun w hw=>?_) (g':=g1) (s':=rowA encInt 3 iv' ((x.take (k+1)).map fun x=>bU x 7)::rowA encSv 25 ov rs::s) ?_
   ·rw[hks]; exact hw
   exact gA (iv',k+1) sB I I ⟨lN,lN⟩ lN
  ·have hxk:x.take k=x.take 4:=by
    rw[Bool.and_eq_false_iff,decide_eq_false_iff_not,decide_eq_false_iff_not] at hc2;by_cases h4:k=4
    ·rw[h4]
    ·rw[tL oM,tL oM]
   rw[hxk];refine xI (tX (tX (bX (tN (fS fun g2 hle2 hs2=>?_)))));have hiv:bT g2 iv ((x.take 4).map fun x=>bU x 7):=hs2;obtain ⟨q2,d2,rfl⟩:=za2 hiv;obtain ⟨nl,hnl⟩:∃ nl,nl=((x.take 4).map fun x=>bU x 7).length:=⟨_,rfl⟩;refine rG (lM I (lM I (lW (bS sty22 I I I (ae sB) dC) ?_)));rintro _ _ _ ⟨b43,rfl,rfl,rfl⟩;refine lW (aP (e:=encSv) 0 ⟨q2,((x.take 4).map fun x=>bU x 7).length,d2⟩ sty22 I I I I I oM oM) ?_;rintro ov' _ _ ⟨rfl,rfl⟩;refine lA I (nL (bN (tN (rG (lM I (yD I (lA I (nL ?_))))))));refine gA (g2,ov',rs++[⟨q2,((x.take 4).map fun x=>bU x 7).length,d2⟩],i+1) sB I I ⟨hle.trans hle2,lN,lN,?_⟩ lN;dsimp only;rw[hsucc];exact (hrs.mono fun _ _=>bJ.mono hle2).append ⟨hiv,trivial⟩
 ·have hls:ls.take i=ls.take 5:=by
   rw[Bool.and_eq_false_iff,decide_eq_false_iff_not,decide_eq_false_iff_not] at hc;by_cases h5:i=5
   ·rw[h5]
   ·rw[tL oM,tL oM]
  rw[hls] at hrs;refine xI (tX (tX (bX (tN (sW I (aT I (rE ?_)))))));exact za6 (.inl I) results56 I ⟨rs,I,hle,hrs⟩
def dU (id k:Int):Int:=if k=1 then id else IntKind.i64.wrap ((IntKind.i64.wrap (id * k)).tmod 211+1)
theorem jZ (E:World)(g:PH)(s:Own)(a k:Int):Ctr Tryz.prog E 108 #[vi a,vi k] g s
  (fun r g' s'=>r=vi (dU a k)∧g=g'∧s=s'):=by
 refine za9 (args:=[vi a,vi k]) func108 I ntmps108 (bE I) ?_;refine rZ (aT I (sQ (sW I (yE I (tZ ?_)))));refine iP I (fun h1=>?_) (fun h1=>?_)
 ·refine sW I (aT I (rE (tR ?_)));exact za6 (.inl I) results108 I ⟨by simp[dU,h1],I,I⟩
 ·refine kP (tN (sW I (lM I (lU (SU.mulW I I) (lU (zd4 I I dC) (lU (zd6 I I) (aT I (rE ?_))))))));exact za6 (.inl I) results108 I ⟨by simp[dU,h1],I,I⟩
theorem pj (E:World)(g:PH)(s:Own)(a k:Int)(hk:k≠0):Ctr Tryz.prog E 109 #[vi a,vi k] g s
  (fun r g' s'=>r=vb (decide (a.tmod k=1))∧g=g'∧s=s'):=by
 refine za9 (args:=[vi a,vi k]) func109 I ntmps109 (bE I) ?_;refine rZ (aT I (sW I (lM I (lU (zd4 I I oM) (yE I (aT I (rE ?_)))))));exact za6 (.inl I) results109 I ⟨I,I,I⟩
theorem jb:∀ (all ls:List (List Int)),all.length≤4000→(∀ x∈all,x.length≤9)→∀ r,aG all ls=some r→r.length≤4000∧∀ x∈r,x.length≤9
 | all,[],h1,h2,r,h=>by cases h; exact⟨h1,h2⟩
 | all,t::ls,h1,h2,r,h=>by
  unfold aG at h;split at h
  ·exact jb all ls h1 h2 r h
  ·rename_i hb;split at h
   ·cases h
   ·rename_i hl;refine jb _ ls oM (fun x hx=>?_) r h
    rcases kY hx with hx | hx
    ·exact h2 x hx
    ·refine gU ?_ x hx;cases hT:ce t with
     | nil=>simp
     | cons a r =>
      rw[hT] at hb;simp only[jk,zj1,zj3,not_or] at hb;omega
theorem dI (ls:List (List Int)):cZ (bQ ls)∧(bQ ls).length≤4000:=by
 unfold bQ;cases h:aG [] ls with
 | none=>exact⟨⟨by simp,by simp⟩,by simp⟩
 | some all =>
  obtain ⟨h1,h2⟩:=jb [] ls (by simp) (by simp) all h;have h3:(aa (aU all)).length≤4000:=by rw[aq,bG]; exact h1
  exact⟨cJ (ku h1 h2),h3⟩
theorem eC (a b:List Cl):cZ (bM a b)∧(bM a b).length≤4000:=by
 unfold bM;split
 ·exact⟨⟨by simp,by simp⟩,by simp⟩
 ·rename_i hbad;split
  ·have ha:(aC a).2=0:=zg6 fun h=>hbad (by simp[cm,h]);have hb:(aC b).2=0:=zg6 fun h=>hbad (by simp[cm,h]);have hsz:((ab a).length:Int) * (ab b).length≤4000:=by
    refine zg6 fun h=>hbad ?_;have:((ab a).length:Int) * (ab b).length>4000:=oM;simp[cm,this]
   obtain ⟨_,_,hat,haf⟩:=dj ha;obtain ⟨_,_,hbt,hbf⟩:=dj hb;rw[← hat] at haf;rw[← hbt] at hbf;have hprod:de a b=(ab a).flatMap fun x=>(ab b).map (di (ab a) (ab b) x):=by unfold de; rw[← hat,← hbt]
   have hpl:(de a b).length≤4000:=by
    rw[hprod,i5];have h4:(((ab a).length * (ab b).length:Nat):Int)≤4000:=by rw[Int.natCast_mul]; exact hsz
    omega
   have hfit:cZ (de a b):=by
    refine⟨oM,fun c hc=>?_⟩;rw[hprod] at hc;obtain ⟨x,hx,hc⟩:=List.mem_flatMap.1 hc;obtain ⟨y,hy,rfl⟩:=ze8.1 hc;have h1:=(jp (haf x hx)).1;have h2:=(jp (hbf y hy)).1;simp[di];omega
   exact⟨cJ hfit,by rw[aq]; exact hpl⟩
  ·exact⟨⟨by simp,by simp⟩,by simp⟩
def qq:List Cl:=bM (bQ [[0,1],[1,2],[0,2]]) (bQ [[0,1],[1,2],[0,2]])
theorem ze (E:World)(g:PH)(s:Own):Ctr Tryz.prog E 60 #[] g s (fun r g' s'=>s=s'∧Le g g'∧∃ u,r = .agg #[u]∧am g' u qq):=by
 have hf:=(dI [[0,1],[1,2],[0,2]]).1;refine za9 (args:=[]) func60 I ntmps60 (bE I) ?_;refine rZ (bW (aL zl4) fun b0=>?_);refine tZ (rZ (lW (bS sty25 I I I (ae sB) dC) ?_));rintro _ _ _ ⟨b2,rfl,rfl,rfl⟩;refine zb3 fun g1 hle1 hb2=>?_;refine lW (bS sty25 I I I (ae sB) dC) ?_;rintro _ _ _ ⟨b3,rfl,rfl,rfl⟩;refine zb3 fun g2 hle2 hb3=>?_;refine lW (bS sty25 I I I (ae sB) dC) ?_;rintro _ _ _ ⟨b4,rfl,rfl,rfl⟩;refine zb3 fun g3 hle3 hb4=>?_;refine lW (bS sty22 I I I (ae sB) dC) ?_;rintro _ _ _ ⟨b5,rfl,rfl,rfl⟩;refine zb3 fun g4 hle4 hb5=>?_;have hlit:aF g4 (.slice (some ⟨b5,0,none⟩) 3 3) [[0,1],[1,2],[0,2]]:=⟨[eI (.slice (some ⟨b2,0,none⟩) 2 2),eI (.slice (some ⟨b3,0,none⟩) 2 2),eI (.slice (some ⟨b4,0,none⟩) 2 2)],SlA.lit hb5 rfl rfl,⟨SlA.lit (hle4 _ _ (hle3 _ _ (hle2 _ _ hb2))) rfl rfl,SlA.lit (hle4 _ _ (hle3 _ _ hb3)) rfl rfl,SlA.lit (hle4 _ _ hb4) rfl rfl,trivial⟩⟩;refine lW (cL call24 I (aI E g4 _ _ _ hlit dC dC)) ?_;rintro _ g5 _ ⟨rfl,hle5,u,rfl,hu⟩;obtain ⟨q,d,rfl⟩:=hu.form;refine bW (aL zl4) fun b1=>?_;refine oZ (sK 0 aw I I I I I sB) ?_;refine tZ (rZ (lK (qV 0 bq aw I I I) (lK (qV 0 bq aw I I I) (lW (cL call58 I (eF E g5 _ _ _ _ _ hu hu hf hf)) ?_))));rintro _ g6 _ ⟨rfl,hle6,x,rfl,hx⟩;obtain ⟨q6,d6,rfl⟩:=hx.form;refine oZ (sK 1 aw I I I I I sB) ?_;refine tZ (rE ?_);exact ST.retCD 1 s (.inl I) results60 I bq aw I I uR ⟨I,hle1.trans (hle2.trans (hle3.trans (hle4.trans (hle5.trans hle6)))),_,I,hx⟩
theorem zx (ls:List (List Int)):(m3 ls).length≤5∧∀ x∈m3 ls,x.length≤4:=by
 refine⟨by simp[m3]; omega,fun x hx=>?_⟩;obtain ⟨l,_,rfl⟩:=ze8.1 hx;simp;omega
def GQ:List (List Int):=[[0,1,2],[0,1,3],[0,2,3],[1,2,3]]
def GP:List (List Int):=[[0,1,2],[0,2,3],[0,3,4],[0,4,5],[0,1,5],[1,2,4],[2,3,5],[1,3,4],[2,4,5],[1,3,5]]
def uN (k:Nat):List (List Int):=(List.range k).flatMap fun (i:Nat)=>[[(i:Int),((i:Int)+1).tmod 7,((i:Int)+3).tmod 7],[(i:Int),((i:Int)+2).tmod 7,((i:Int)+3).tmod 7]]
def mZ (n:Int):List (List Int):=if bU n 3=0 then GQ else if bU n 3=1 then GP else uN 7
theorem qN (k:Nat):uN (k+1)=uN k++[[(k:Int),((k:Int)+1).tmod 7,((k:Int)+3).tmod 7],[(k:Int),((k:Int)+2).tmod 7,((k:Int)+3).tmod 7]]:=by
 simp[uN,List.range_succ,List.flatMap_append]
theorem jN (k:Nat):(uN k).length=2 * k:=by
 induction k with
 | zero=>rfl
 | succ k ih=>rw[qN,ze2,ih]; simp; omega
theorem nb (E:World)(g:PH)(s:Own)(n:Int):Ctr Tryz.prog E 57 #[vi n] g s (fun r g' s'=>s=s'∧Le g g'∧aF g' r (mZ n)):=by
 refine za9 (args:=[vi n]) func57 I ntmps57 (bE I) ?_;refine rZ (aT I (sQ (sW I (lW (cL kT8 I (aW E g _ n 3 dC)) ?_))));rintro _ _ _ ⟨rfl,rfl,rfl⟩;refine tZ (bK (rZ (yE I (aT I ?_))));refine iP I (fun h0=>?_) (fun h0=>?_)
 ·refine rZ (lW (bS sty25 I I I (ae sB) dC) ?_);rintro _ _ _ ⟨b9,rfl,rfl,rfl⟩;refine zb3 fun g1 hle1 hb9=>?_;refine lW (bS sty25 I I I (ae sB) dC) ?_;rintro _ _ _ ⟨b10,rfl,rfl,rfl⟩;refine zb3 fun g2 hle2 hb10=>?_;refine lW (bS sty25 I I I (ae sB) dC) ?_;rintro _ _ _ ⟨b11,rfl,rfl,rfl⟩;refine zb3 fun g3 hle3 hb11=>?_;refine lW (bS sty25 I I I (ae sB) dC) ?_;rintro _ _ _ ⟨b12,rfl,rfl,rfl⟩;refine zb3 fun g4 hle4 hb12=>?_;refine lW (bS sty22 I I I (ae sB) dC) ?_;rintro _ _ _ ⟨b13,rfl,rfl,rfl⟩;refine zb3 fun g5 hle5 hb13=>?_;have hlit:aF g5 (.slice (some ⟨b13,0,none⟩) 4 4) GQ:=⟨[eI (.slice (some ⟨b9,0,none⟩) 3 3),eI (.slice (some ⟨b10,0,none⟩) 3 3),eI (.slice (some ⟨b11,0,none⟩) 3 3),eI (.slice (some ⟨b12,0,none⟩) 3 3)],SlA.lit hb13 rfl rfl,⟨SlA.lit (hle5 _ _ (hle4 _ _ (hle3 _ _ (hle2 _ _ hb9)))) rfl rfl,SlA.lit (hle5 _ _ (hle4 _ _ (hle3 _ _ hb10))) rfl rfl,SlA.lit (hle5 _ _ (hle4 _ _ hb11)) rfl rfl,SlA.lit (hle5 _ _ hb12) rfl rfl,trivial⟩⟩;refine aT I (rE (bR (tR ?_)));exact za6 (.inl I) results57 I ⟨I,(hle1.trans (hle2.trans (hle3.trans (hle4.trans hle5)))),by unfold mZ; rw[zf7 h0]; exact hlit⟩
 ·refine rZ (yE I (aT I ?_));refine iP I (fun h1=>?_) (fun h1=>?_)
  ·refine rZ (lW (bS sty25 I I I (ae sB) dC) ?_);rintro _ _ _ ⟨b16,rfl,rfl,rfl⟩;refine zb3 fun g1 hle1 hb16=>?_;refine lW (bS sty25 I I I (ae sB) dC) ?_;rintro _ _ _ ⟨b17,rfl,rfl,rfl⟩;refine zb3 fun g2 hle2 hb17=>?_;refine lW (bS sty25 I I I (ae sB) dC) ?_;rintro _ _ _ ⟨b18,rfl,rfl,rfl⟩;refine zb3 fun g3 hle3 hb18=>?_;refine lW (bS sty25 I I I (ae sB) dC) ?_;rintro _ _ _ ⟨b19,rfl,rfl,rfl⟩;refine zb3 fun g4 hle4 hb19=>?_;refine lW (bS sty25 I I I (ae sB) dC) ?_;rintro _ _ _ ⟨b20,rfl,rfl,rfl⟩;refine zb3 fun g5 hle5 hb20=>?_;refine lW (bS sty25 I I I (ae sB) dC) ?_;rintro _ _ _ ⟨b21,rfl,rfl,rfl⟩;refine zb3 fun g6 hle6 hb21=>?_;refine lW (bS sty25 I I I (ae sB) dC) ?_;rintro _ _ _ ⟨b22,rfl,rfl,rfl⟩;refine zb3 fun g7 hle7 hb22=>?_;refine lW (bS sty25 I I I (ae sB) dC) ?_;rintro _ _ _ ⟨b23,rfl,rfl,rfl⟩;refine zb3 fun g8 hle8 hb23=>?_;refine lW (bS sty25 I I I (ae sB) dC) ?_;rintro _ _ _ ⟨b24,rfl,rfl,rfl⟩;refine zb3 fun g9 hle9 hb24=>?_;refine lW (bS sty25 I I I (ae sB) dC) ?_;rintro _ _ _ ⟨b25,rfl,rfl,rfl⟩;refine zb3 fun g10 hle10 hb25=>?_;refine lW (bS sty22 I I I (ae sB) dC) ?_;rintro _ _ _ ⟨b26,rfl,rfl,rfl⟩;refine zb3 fun g11 hle11 hb26=>?_;have hlit:aF g11 (.slice (some ⟨b26,0,none⟩) 10 10) GP:=⟨[eI (.slice (some ⟨b16,0,none⟩) 3 3),eI (.slice (some ⟨b17,0,none⟩) 3 3),eI (.slice (some ⟨b18,0,none⟩) 3 3),eI (.slice (some ⟨b19,0,none⟩) 3 3),eI (.slice (some ⟨b20,0,none⟩) 3 3),eI (.slice (some ⟨b21,0,none⟩) 3 3),eI (.slice (some ⟨b22,0,none⟩) 3 3),eI (.slice (some ⟨b23,0,none⟩) 3 3),eI (.slice (some ⟨b24,0,none⟩) 3 3),eI (.slice (some ⟨b25,0,none⟩) 3 3)],SlA.lit hb26 rfl rfl,⟨SlA.lit (hle11 _ _ (hle10 _ _ (hle9 _ _ (hle8 _ _ (hle7 _ _ (hle6 _ _ (hle5 _ _ (hle4 _ _ (hle3 _ _ (hle2 _ _ hb16)))))))))) rfl rfl,SlA.lit (hle11 _ _ (hle10 _ _ (hle9 _ _ (hle8 _ _ (hle7 _ _ (hle6 _ _ (hle5 _ _ (hle4 _ _ (hle3 _ _ hb17))))))))) rfl rfl,SlA.lit (hle11 _ _ (hle10 _ _ (hle9 _ _ (hle8 _ _ (hle7 _ _ (hle6 _ _ (hle5 _ _ (hle4 _ _ hb18)))))))) rfl rfl,SlA.lit (hle11 _ _ (hle10 _ _ (hle9 _ _ (hle8 _ _ (hle7 _ _ (hle6 _ _ (hle5 _ _ hb19))))))) rfl rfl,SlA.lit (hle11 _ _ (hle10 _ _ (hle9 _ _ (hle8 _ _ (hle7 _ _ (hle6 _ _ hb20)))))) rfl rfl,SlA.lit (hle11 _ _ (hle10 _ _ (hle9 _ _ (hle8 _ _ (hle7 _ _ hb21))))) rfl rfl,SlA.lit (hle11 _ _ (hle10 _ _ (hle9 _ _ (hle8 _ _ hb22)))) rfl rfl,SlA.lit (hle11 _ _ (hle10 _ _ (hle9 _ _ hb23))) rfl rfl,SlA.lit (hle11 _ _ (hle10 _ _ hb24)) rfl rfl,SlA.lit (hle11 _ _ hb25) rfl rfl,trivial⟩⟩;refine aT I (rE (bR (tR ?_)));exact za6 (.inl I) results57 I ⟨I,(hle1.trans (hle2.trans (hle3.trans (hle4.trans (hle5.trans (hle6.trans (hle7.trans (hle8.trans (hle9.trans (hle10.trans hle11)))))))))),by unfold mZ; rw[zf6 h0,zf7 h1]; exact hlit⟩
  ·refine kP (bN (tN (rZ (aT I (sQ (rZ (aT I (bK (zb4 25 1 ?_)))))))));refine oP (ι:=PH×Value×List Sv×Nat) (fun i=>[(3,i.2.1),(4,vi i.2.2.2)]) (fun i=>i.1)
    (fun i=>rowA encSv 25 i.2.1 i.2.2.1::s)
    (fun i=>Le g i.1∧i.2.2.2≤7∧aB (bJ i.1) (uN i.2.2.2) i.2.2.1) (fun i=>7 - i.2.2.2)
    (g,.slice none 0 0,[],0) sB rfl rfl ⟨zb7 g,zf3 _,trivial⟩ ?_
   rintro ⟨g1,ov,rs,i⟩ ⟨hle,hi,hrs⟩;dsimp only at hle hi hrs ⊢;have hrl:=hrs.length;rw[jN] at hrl;refine sQ (sW I (yL I (tZ ?_)));refine iP I (fun hlt=>?_) (fun hlt=>?_)
   ·have hi7:i<7:=oM;refine kP (tN (sQ (bK (rG (lM I (lM I (lM I (yD I (lU (zd4 I I dC) (lM I (yD I (lU (zd4 I I dC) (lW (bS sty25 I I I (ae sB) dC) ?_)))))))))))));rintro _ _ _ ⟨b39,rfl,rfl,rfl⟩;refine zb3 fun g2 hle2 hb39=>?_;refine lM I (lM I (yD I (lU (zd4 I I dC) (lM I (yD I (lU (zd4 I I dC) (lW (bS sty25 I I I (ae sB) dC) ?_)))))));rintro _ _ _ ⟨b47,rfl,rfl,rfl⟩;refine zb3 fun g3 hle3 hb47=>?_;refine lW (bS sty22 I I I (ae sB) dC) ?_;rintro _ _ _ ⟨b48,rfl,rfl,rfl⟩;refine zb3 fun g4 hle4 hb48=>?_;have hlit:SlA encSv g4 (.slice (some ⟨b48,0,none⟩) 2 2) [⟨some ⟨b39,0,none⟩,3,3⟩,⟨some ⟨b47,0,none⟩,3,3⟩]:=SlA.lit hb48 rfl rfl;refine lW (aQ (e:=encSv) 0 sty22 I I I hlit lN lN) ?_;rintro ov' _ _ ⟨rfl,rfl⟩;refine lA I (nL (bN (tN (rG (lM I (yD I (lA I (nL ?_))))))));refine gA (g4,ov',rs++[⟨some ⟨b39,0,none⟩,3,3⟩,⟨some ⟨b47,0,none⟩,3,3⟩],i+1) sB I I ⟨hle.trans (hle2.trans (hle3.trans hle4)),lN,?_⟩ lN;dsimp only;rw[qN];exact (hrs.mono fun _ _=>bJ.mono (hle2.trans (hle3.trans hle4))).append ⟨SlA.lit (hle4 _ _ (hle3 _ _ hb39)) I I,SlA.lit (hle4 _ _ hb47) I I,trivial⟩
   ·have hi7:i=7:=oM;subst hi7;refine xI (tX (tX (bX (tN (sQ (fS fun g2 hle2 hs2=>?_))))));have hov:aF g2 ov (uN 7):=⟨rs,hs2,hrs.mono fun _ _=>bJ.mono hle2⟩;refine rG (lM I (aT I (rE ?_)));exact za6 (.inl I) results57 I ⟨I,hle.trans hle2,by unfold mZ; rw[zf6 h0,zf6 h1]; exact hov⟩
set_option maxHeartbeats 1000000
def l5 (k:Nat):List Cl:=(List.range k).map fun (i:Nat)=>⟨(i:Int)+1,0,[]⟩
def m6 (n k:Nat):List Cl:=(List.range k).map fun (i:Nat)=>⟨(n:Int)+i+1,1,[⟨(i:Int)+1,-1⟩,⟨((i:Int)+1).tmod n+1,1⟩]⟩
def fI (n k:Nat):List ai:=(List.range k).map fun (i:Nat)=>⟨(n:Int)+i+1,1⟩
def dP (n:Nat):List Cl:=l5 n++m6 n n++[⟨2 * (n:Int)+1,2,fI n n⟩]++(if (n:Int).tmod 2=0 then [⟨2 * (n:Int)+2,2,fI n n⟩] else [])
def uP (n:Nat):List Cl:=aa (dP n)
theorem zG (k:Nat):l5 (k+1)=l5 k++[⟨(k:Int)+1,0,[]⟩]:=by simp[l5,List.range_succ]
theorem zI (n k:Nat):m6 n (k+1)=m6 n k++[⟨(n:Int)+k+1,1,[⟨(k:Int)+1,-1⟩,⟨((k:Int)+1).tmod n+1,1⟩]⟩]:=by simp[m6,List.range_succ]
theorem zH (n k:Nat):fI n (k+1)=fI n k++[⟨(n:Int)+k+1,1⟩]:=by simp[fI,List.range_succ]
theorem jQ (n k:Nat):(fI n k).length=k:=by simp[fI]
theorem nf {n:Nat}(h:n≤6):cZ (dP n)∧(dP n).length≤14:=by
 have hl:(dP n).length≤14:=by
  unfold dP;split <;> simp[l5,m6] <;> omega
 refine⟨⟨oM,fun c hc=>?_⟩,hl⟩;unfold dP at hc
 rcases ze9.1 hc with hc | hc
 ·rcases ze9.1 hc with hc | hc
  ·rcases ze9.1 hc with hc | hc
   ·obtain ⟨i,_,rfl⟩:=ze8.1 hc;simp
   ·obtain ⟨i,_,rfl⟩:=ze8.1 hc;simp
  ·simp at hc;subst hc;simp[jQ];omega
 ·split at hc
  ·simp at hc;subst hc;simp[jQ];omega
  ·simp at hc
theorem Tryz.buildD78 (x:Int)(w:World):(Instr.build 78 #[(0,vi x)]).run Tryz.prog w = .ok (.agg #[vi x,vi 0,.slice none 0 0]) w:=by
 have hz:(Value.agg #[vi 0,vi 0,Value.slice none 0 0]).cells = #[vi 0,vi 0,.slice none 0 0]:=rfl;have h1:∀ z:Int,(vi z).cells = #[vi z]:=fun _=>rfl;simp[Instr.build,Instr.fill,hz,h1]
theorem vd (E:World)(g:PH)(s:Own)(n:Nat)(h2:2≤n)(h6:n≤6) :
  Ctr Tryz.prog E 59 #[vi n] g s (fun r g' s'=>s=s'∧Le g g'∧∃ x,r = .agg #[x]∧am g' x (uP n)):=by
 have hnn:((n:Nat):Int)≠0:=oM;refine za9 (args:=[vi n]) func59 I ntmps59 (bE I) ?_;refine rZ (bW (aL zl4) fun b2=>?_);refine tZ (rZ (bW (aL zl4) fun b3=>?_));refine tZ (sQ (rZ (aT I (bK (zb4 78 3 ?_)))));refine oP (ι:=Value×List Rc×Nat) (fun i=>[(0,vi n),(2,pp b2 0),(3,pp b3 0),(4,vi i.2.2)]) (fun _=>g)
  (fun i=>rowA encCell 78 i.1 i.2.1::pt b3 (.cells #[i.1] 30 (0,0))::pt b2 (.cells #[.slice none 0 0] 30 (0,0))::s)
  (fun i=>i.2.2≤n∧aB (au g) (l5 i.2.2) i.2.1) (fun i=>n - i.2.2)
  (.slice none 0 0,[],0) sB rfl rfl ⟨zf3 _,trivial⟩ ?_
 rintro ⟨ov,rcs,i⟩ ⟨hi,hrcs⟩;dsimp only at hi hrcs ⊢;have hrl:=hrcs.length;simp only[l5,ze3,zi1] at hrl;refine sQ (sW I (lM I (yL I (tZ ?_))));refine iP I (fun hlt=>?_) (fun hlt=>?_)
 ·refine kP (tN (sQ (bK (rG (lU (fA fq I ek I) (lK (qL (v:=ov) ii I (cO 1 I I)) (lM I (yD I (lU (za1 I (buildD78 _)) (lW (bS sty28 I I I (ae sB) dC) ?_))))))))));rintro _ _ _ ⟨b19,rfl,rfl,rfl⟩;refine lW (aP (e:=encCell) 0 ⟨(i:Int)+1,0,⟨none,0,0⟩⟩ sty28 I I I I I oM oM) ?_;rintro v20 _ _ ⟨rfl,rfl⟩;refine zc9 fun ⟨w0,hw0⟩=>?_;obtain ⟨q9,d9,rfl⟩:=ah (i:=0) hw0 rfl;clear hw0 w0;refine lU (fA fq I ek I) (oZ (sK 1 ek I I I I I sB) ?_);refine nL (bN (tN (rG (lM I (yD I (lA I (nL ?_)))))));refine gA (_,rcs++[⟨(i:Int)+1,0,⟨none,0,0⟩⟩],i+1) sB I I ⟨lN,?_⟩ lN;dsimp only;rw[zG];exact hrcs.append ⟨⟨I,I,zb8 _ _⟩,trivial⟩
 ·have hin:i=n:=oM;subst hin;refine xI (tX (tX (bX (tN (rZ (aT I (sQ (rZ (aT I (bK (zb4 94 2 ?_)))))))))));refine oP (ι:=PH×Value×List Rc×Value×Nat) (fun k=>[(0,vi i),(2,pp b2 0),(3,pp b3 0),(5,k.2.2.2.1),(6,vi k.2.2.2.2)]) (fun k=>k.1)
   (fun k=>rowA encSide 94 k.2.2.2.1 (fI i k.2.2.2.2)::rowA encCell 78 k.2.1 k.2.2.1::pt b3 (.cells #[k.2.1] 30 (0,0))::pt b2 (.cells #[.slice none 0 0] 30 (0,0))::s)
   (fun k=>Le g k.1∧k.2.2.2.2≤i∧aB (au k.1) (l5 i++m6 i k.2.2.2.2) k.2.2.1) (fun k=>i - k.2.2.2.2)
   (g,ov,rcs,.slice none 0 0,0) sB rfl rfl ⟨zb7 g,zf3 _,by simpa [m6] using hrcs⟩ ?_
  rintro ⟨g1,ov1,rcs1,sv,k⟩ ⟨hle1,hk,hrcs1⟩;dsimp only at hle1 hk hrcs1 ⊢;have hrl1:=hrcs1.length;simp only[l5,m6,ze2,ze3,zi1] at hrl1;have hsl:=jQ i k;refine sQ (sW I (lM I (yL I (tZ ?_))));refine iP I (fun hlt2=>?_) (fun hlt2=>?_)
  ·have hkm:0≤((k:Int)+1).tmod i∧((k:Int)+1).tmod i<i:=by
    rw[Int.tmod_eq_emod_of_nonneg oM];exact⟨zk5 _ hnn,zk4 _ oM⟩
   refine kP (tN (sQ (bK (sW I (yD I (lU (za1 I (buildS94 _ _)) (bW (aL zk9) fun b7=>?_)))))));refine oZ (sK 0 cq I I I I I sB) ?_;refine tZ (sW I (yD I (lM I (lU (zd4 I I hnn) (yD I (lU (za1 I (buildS94 _ _)) (bW (aL zk9) fun b8=>?_)))))));refine oZ (sK 0 cq I I I I I sB) ?_;refine tZ (sQ ?_);refine SC.to (fun w hw=>hw) (g':=g1) (s':=pt b8 (.cells #[vi (((k:Int)+1).tmod i+1),vi 1] 94 (0,0))::pt b7 (.cells #[vi ((k:Int)+1),vi (-1)] 94 (0,0))::rowA encSide 94 sv (fI i k)::rowA encCell 78 ov1 rcs1::pt b3 (.cells #[ov1] 30 (0,0))::pt b2 (.cells #[.slice none 0 0] 30 (0,0))::s) ?_;refine rG (lU (fA fq I ek I) (lK (qL (v:=ov1) ii I (cO 4 I I)) (lM I (lM I (yD I (yD I (lK (qV 1 mT cq I I I) (lK (qV 0 mT cq I I I) (lW (bS sty76 I I I (ae sB) dC) ?_)))))))));rintro _ _ _ ⟨b44,rfl,rfl,rfl⟩;refine zb3 fun g2 hle2 hb44=>?_;have hsd:SlA encSide g2 (.slice (some ⟨b44,0,none⟩) 2 2) [⟨(k:Int)+1,-1⟩,⟨((k:Int)+1).tmod i+1,1⟩]:=SlA.lit hb44 rfl rfl;refine lU (za1 I (buildF78 _ _ _ I)) (lW (bS sty28 I I I (ae sB) dC) ?_);rintro _ _ _ ⟨b46,rfl,rfl,rfl⟩;refine lW (aP (e:=encCell) 3 ⟨(i:Int)+k+1,1,⟨some ⟨b44,0,none⟩,2,2⟩⟩ sty28 I I I I I oM oM) ?_;rintro v47 _ _ ⟨rfl,rfl⟩;refine zc9 fun ⟨w0,hw0⟩=>?_;obtain ⟨q9,d9,rfl⟩:=ah (i:=3) hw0 rfl;clear hw0 w0;refine lU (fA fq I ek I) (oZ (sK 4 ek I I I I I sB) ?_);refine tZ (rG (lM I (lM I (lM I (yD I (yD I (lU (za1 I (buildS94 _ _)) (lW (bS sty76 I I I (ae sB) dC) ?_))))))));rintro _ _ _ ⟨b55,rfl,rfl,rfl⟩;refine lW (aP (e:=encSide) 2 ⟨(i:Int)+k+1,1⟩ sty76 I I I I I oM oM) ?_;rintro v56 _ _ ⟨rfl,rfl⟩;refine lA I (nL (bN (tN (rG (lM I (yD I (lA I (nL (dR (s':=rowA encSide 94 v56 (fI i k++[⟨(i:Int)+k+1,1⟩])::rowA encCell 78 (.slice q9 (rcs1++[(⟨(i:Int)+k+1,1,⟨some ⟨b44,0,none⟩,2,2⟩⟩:Rc)]).length d9) (rcs1++[⟨(i:Int)+k+1,1,⟨some ⟨b44,0,none⟩,2,2⟩⟩])::pt b3 (.cells #[.slice q9 (rcs1++[(⟨(i:Int)+k+1,1,⟨some ⟨b44,0,none⟩,2,2⟩⟩:Rc)]).length d9] 30 (0,0))::pt b2 (.cells #[.slice none 0 0] 30 (0,0))::s) (.cons _ (.cons _ (.refl _))) ?_)))))))));rw[← zH];refine gA (g2,_,rcs1++[⟨(i:Int)+k+1,1,⟨some ⟨b44,0,none⟩,2,2⟩⟩],v56,k+1) sB I I ⟨hle1.trans hle2,lN,?_⟩ lN;dsimp only;rw[zI,← zg5];exact (hrcs1.mono fun _ _=>au.mono hle2).append ⟨⟨I,I,hsd⟩,trivial⟩
  ·have hki:k=i:=oM;subst hki;refine xI (tX (tX (bX (tN (sQ (fS fun g2 hle2 hs2=>?_))))));have hsd:SlA encSide g2 sv (fI k k):=hs2;obtain ⟨qs,ds,rfl⟩:=za2 hsd;have hrcs2:=hrcs1.mono fun _ _=>au.mono hle2;refine rG (lU (fA fq I ek I) (lK (qL (v:=ov1) ii I (cO 1 I I)) (lM I (lU (SU.mul I I oM) (yD I (lM I (lU (za1 I (buildF78 _ _ _ I)) (lW (bS sty28 I I I (ae sB) dC) ?_))))))));rintro _ _ _ ⟨b64,rfl,rfl,rfl⟩;refine lW (aP (e:=encCell) 0 ⟨2 * (k:Int)+1,2,⟨qs,(fI k k).length,ds⟩⟩ sty28 I I I I I oM oM) ?_;rintro v65 _ _ ⟨rfl,rfl⟩;refine zc9 fun ⟨w0,hw0⟩=>?_;obtain ⟨q9,d9,rfl⟩:=ah (i:=0) hw0 rfl;clear hw0 w0;refine lU (fA fq I ek I) (oZ (sK 1 ek I I I I I sB) ?_);refine tZ (sQ (sW I (lU (zd4 I I dC) (yE I (tZ ?_)))));have hrcs3:aB (au g2) (l5 k++m6 k k++[⟨2 * (k:Int)+1,2,fI k k⟩]) (rcs1++[⟨2 * (k:Int)+1,2,⟨qs,(fI k k).length,ds⟩⟩]):=hrcs2.append ⟨⟨rfl,rfl,hsd⟩,trivial⟩;obtain ⟨rc3,hrc3⟩:∃ rc3,rc3=rcs1++[(⟨2 * (k:Int)+1,2,⟨qs,(fI k k).length,ds⟩⟩:Rc)]:=⟨_,rfl⟩;have hrc3l:rc3.length=rcs1.length+1:=by rw[hrc3]; simp
   rw[← hrc3] at hrcs3 ⊢;have hfit:=(nf h6).1;refine iP I (fun hev=>?_) (fun hev=>?_)
   ·have hall:dP k=l5 k++m6 k k++[⟨2 * (k:Int)+1,2,fI k k⟩]++[⟨2 * (k:Int)+2,2,fI k k⟩]:=by unfold dP; rw[zf7 hev]
    refine dW [10,11,12] [(0,2),(1,1),(2,2),(3,2),(4,2),(6,2),(5,0),(7,0),(8,2),(9,0),(10,0),(11,0),(12,0)] zd9 kR ?_;refine pU I (fA fq I ek I) (pK I (qL (v:=.slice q9 rc3.length d9) ii I (cO 1 I I)) (yM I (pU I (SU.mul I I oM) (pU I (aD I I oM) (yM I (SP.o I (bS sty76 I I I (ae trivial) dC) dC (.inr iR) ?_))))));rintro _ _ _ ⟨b75,rfl,rfl,rfl⟩;refine SP.to (fun w hw=>(hw.sublist (List.Sublist.cons _ (.refl _))).emptyRow 94 2 (some ⟨b75,0,none⟩)) ?_;refine SP.o I (aQ (e:=encSide) (l:=[]) 0 sty76 I I I hsd lN lN) dC (.inr iR) ?_;rintro v77 _ _ ⟨rfl,rfl⟩;refine SP.freezeRow fun g77 hle77 hs77=>?_;have hsd2:SlA encSide g77 v77 ([]++fI k k):=hs77;rw[List.nil_append] at hsd2;obtain ⟨q77,d77,rfl⟩:=za2 hsd2;refine pU I (za1 I (buildF78 _ _ _ I)) (SP.o I (bS sty28 I I I (ae sB) dC) dC (.inr iR) ?_);rintro _ _ _ ⟨b79,rfl,rfl,rfl⟩;refine SP.o I (aP (e:=encCell) (l:=rc3) 0 ⟨2 * (k:Int)+2,2,⟨q77,(fI k k).length,d77⟩⟩ sty28 I I I I I oM oM) dC (.inl dC) ?_;rintro v80 _ _ ⟨rfl,rfl⟩;refine zc8 fun ⟨w0,hw0⟩=>?_;obtain ⟨q10,d10,rfl⟩:=ah (i:=0) hw0 rfl;clear hw0 w0;refine oU I (fA fq I ek I) dC (.inl dC) (SP.on I (sK 1 ek I I I I I sB) (.inl dC) ?_);rintro _ _ _ ⟨rfl,rfl⟩;refine pN (tN (sQ (fS fun g78 hle78 hs78=>?_)));have hov:am g78 (.slice q10 (rc3++[(⟨2 * (k:Int)+2,2,⟨q77,(fI k k).length,d77⟩⟩:Rc)]).length d10) (dP k):=(by rw[hall]; exact⟨_,hs78,(hrcs3.mono fun _ _=>au.mono (hle77.trans hle78)).append ⟨⟨I,I,hsd2.mono hle78⟩,trivial⟩⟩);refine rG (lK (qV 0 bq aw I I I) (lW (cL call107 I (fN E g78 _ _ (dP k) hov hfit)) ?_));rintro _ g79 _ ⟨rfl,hle79,x79,rfl,hx79⟩;obtain ⟨q79,d79,rfl⟩:=hx79.form;refine oZ (sK 1 aw I I I I I sB) ?_;refine tZ (rE ?_);exact ST.retCD 1 s (.inl I) results59 I bq aw I I uR ⟨I,hle1.trans (hle2.trans (hle77.trans (hle78.trans hle79))),_,I,hx79⟩
   ·have hall:dP k=l5 k++m6 k k++[⟨2 * (k:Int)+1,2,fI k k⟩]:=by unfold dP; rw[zf6 hev,zc3]
    refine kP (tN (sQ (fS fun g78 hle78 hs78=>?_)));have hov:am g78 (.slice q9 rc3.length d9) (dP k):=(by rw[hall]; exact⟨_,hs78,hrcs3.mono fun _ _=>au.mono hle78⟩);refine rG (lK (qV 0 bq aw I I I) (lW (cL call107 I (fN E g78 _ _ (dP k) hov hfit)) ?_));rintro _ g79 _ ⟨rfl,hle79,x79,rfl,hx79⟩;obtain ⟨q79,d79,rfl⟩:=hx79.form;refine oZ (sK 1 aw I I I I I sB) ?_;refine tZ (rE ?_);exact ST.retCD 1 s (.inl I) results59 I bq aw I I uR ⟨I,hle1.trans (hle2.trans (hle78.trans hle79)),_,I,hx79⟩
theorem aV (a b:Int)(h0:0<b)(h1:b≤1000):0≤bU a b∧bU a b<b:=by
 have h2:a.tmod b<b:=Int.tmod_lt_of_pos a h0;have h3 : -b<a.tmod b:=by
  have:=Int.lt_tmod_of_pos a h0;omega
 unfold bU;rw[zk8 _ oM,Int.tmod_eq_emod_of_nonneg oM];exact⟨zk5 _ oM,zk4 _ h0⟩
def As (y:Int):Int:=1+2 * bU (IntKind.i64.wrap (y.tdiv 7)) 3
def Fy (y:Int):Int:=bU (IntKind.i64.wrap (y.tdiv 5)) 4
def jf (t:Int)(x:Cl):Bool:=decide (t>1)&&decide (x.id.tmod t=1)
def iV (t:Int)(x:Cl)(q:Int):Bool:=(decide (t>1)&&decide (x.dim>1))&&decide (q.tmod t=1)
def uQ (b:Bool)(a:Int):Int:=if b then IntKind.i64.wrap (0 - a) else a
def be (k t:Int)(x:Cl)(q:ai):ai:=⟨dU q.cell k,uQ (iV t x q.cell) (uQ (jf t x) q.sign)⟩
def aH (k t:Int)(x:Cl):Cl:=⟨dU x.id k,x.dim,x.sides.map (be k t x)⟩
def Hw (l:List Cl)(y:Int):List Cl:=aa (l.map (aH (As y) (Fy y)))
theorem xP {l:List Cl}(h:cZ l)(k t:Int):cZ (l.map (aH k t)):=by
 refine⟨by simpa using h.1,fun c hc=>?_⟩;obtain ⟨x,hx,rfl⟩:=ze8.1 hc;simpa [aH] using h.2 x hx
theorem jW (E:World)(g:PH)(s:Own)(v:Value)(l:List Cl)(y:Int)(hv:am g v l)(hf:cZ l) :
  Ctr Tryz.prog E 61 #[.agg #[v],vi y] g s (fun r g' s'=>s=s'∧Le g g'∧∃ x,r = .agg #[x]∧am g' x (Hw l y)):=by
 obtain ⟨rs,hrs,hall⟩:=hv;have el:=hall.length;obtain ⟨p,c,rfl⟩:=hrs.form;have hll:=hf.1;have hk3:=aV (IntKind.i64.wrap (y.tdiv 7)) 3 dC dC;have ht4:=aV (IntKind.i64.wrap (y.tdiv 5)) 4 dC dC;refine za9 (args:=[.agg #[.slice p rs.length c],vi y]) func61 I ntmps61 (bE I) ?_;refine rZ (bW (bO I) fun b2=>?_);refine bW (aL zl4) fun b4=>?_;refine tZ (sW I (lU (SU.quo I I dC) (lW (cL kT8 I (aW E g _ _ 3 dC)) ?_)));rintro _ _ _ ⟨rfl,rfl,rfl⟩;refine lU (SU.mul I I oM) (yD I (aT I (sW I (lU (SU.quo I I dC) (lW (cL kT8 I (aW E g _ _ 4 dC)) ?_)))));rintro _ _ _ ⟨rfl,rfl,rfl⟩;refine aT I (rZ (bW (aL zl4) fun b7=>?_));refine tZ (sQ (rZ (aT I (bK (zb4 78 3 ?_)))));have hke:1+2 * bU (IntKind.i64.wrap (y.tdiv 7)) 3=As y:=rfl;have hte:bU (IntKind.i64.wrap (y.tdiv 5)) 4=Fy y:=rfl;rw[hte] at ht4;unfold Hw;simp only[hke,hte];generalize As y=k at *;generalize Fy y=t at *;refine oP (ι:=PH×Value×List Rc×Nat) (fun i=>[(2,pp b2 0),(4,pp b4 0),(5,vi k),(6,vi t),(7,pp b7 0),(8,vi i.2.2.2)]) (fun i=>i.1) (fun i=>rowA encCell 78 i.2.1 i.2.2.1::pt b7 (.cells #[i.2.1] 30 (0,0))::pt b4 (.cells #[.slice none 0 0] 30 (0,0))::pt b2 (.cells #[.slice p rs.length c] 30 (0,0))::s)
  (fun i=>Le g i.1∧i.2.2.2≤rs.length∧aB (au i.1) ((l.take i.2.2.2).map (aH k t)) i.2.2.1) (fun i=>rs.length - i.2.2.2)
  (g,.slice none 0 0,[],0) sB rfl rfl ⟨zb7 g,zf3 _,trivial⟩ ?_
 rintro ⟨g1,ov,rcs,i⟩ ⟨hle,hi,hrcs⟩;dsimp only at hle hi hrcs ⊢;have hrl:=hrcs.length;rw[ze3,ze1] at hrl;refine sQ (sW I (lU (fA fq I ek I) (lK (qL (v:=.slice p rs.length c) ii I (cO 3 I I)) (lU (eN aO I) (yL I (tZ ?_))))));refine iP I (fun hlt=>?_) (fun hlt=>?_)
 ·have hil:i<l.length:=oM;have hir:i<rs.length:=oM;have hb1:=hrs.based oM;have hxr:=(hall.get (gE hil) (gE hir)).mono hle;have hgx:rs[((i:Nat):Int).toNat]?=some rs[i]:=gE hir;have hsucc:=fQ hil (aH k t);have hxl:=hf.2 _ (gM hil);generalize hxe:l[i]=x at *;obtain ⟨xp,xcap,hrx,hxs⟩:=eo hxr;rw[hrx] at hgx;refine kP (tN (sQ (bK (rZ (lU (fA fq I ek I) (lK (qL (v:=.slice p rs.length c) ii I (cO 3 I I)) (lM I (lU (iA aO aK I I hb1 oM sL) (lK (eA gJ aK I (hrs.mono hle).rd hgx) (bW (aL zl1) fun b9=>?_))))))))));refine oZ (sK 0 aK I I I I I sB) ?_;refine tZ ?_;refine SC.to (fun w hw=>hw) (g':=g1) (s':=pt b9 (.cells #[vi x.id,vi x.dim,.slice xp x.sides.length xcap] 78 (0,0))::rowA encCell 78 ov rcs::pt b7 (.cells #[ov] 30 (0,0))::pt b4 (.cells #[.slice none 0 0] 30 (0,0))::pt b2 (.cells #[.slice p rs.length c] 30 (0,0))::s) ?_;refine SC.cut (ι:=Nat) (fun b10=>[(2,pp b2 0),(4,pp b4 0),(5,vi k),(6,vi t),(7,pp b7 0),(8,vi i),(9,pp b9 0),(10,pp b10 0)]) (fun _=>g1) (fun b10=>pt b10 (.cells #[vi (dU x.id k),vi x.dim,.slice none 0 0] 78 (0,0))::pt b9 (.cells #[vi x.id,vi x.dim,.slice xp x.sides.length xcap] 78 (0,0))::rowA encCell 78 ov rcs::pt b7 (.cells #[ov] 30 (0,0))::pt b4 (.cells #[.slice none 0 0] 30 (0,0))::pt b2 (.cells #[.slice p rs.length c] 30 (0,0))::s) (fun _=>True) ?_ ?_
  ·refine SC.drawX [] zd9 kR ?_;refine SX.u (i:=0) I kR (fA ar I zT3 I) dC (SX.q (i:=1) I kR (qL (v:=vi x.id) iT3 I (cO 0 I I)) dC (SX.u (i:=2) I kR (mV I) dC (SX.u (i:=4) I kR (fA ar I zT3 I) dC (SX.q (i:=5) I kR (qL (v:=vi x.dim) iT3 I (cO 0 I I)) dC ?_))))
   repeat' (first
    | (refine SB.o (i:=3) I (cL call108 I (jZ E g1 _ x.id k)) dC (.inr iR) ?_; rintro _ _ _ ⟨rfl,rfl,rfl⟩; refine SX.u (i:=6) I kD (za1 I (buildC78 _ _)) dC ?_)
    | (refine SB.o (i:=3) I (cL call108 I (jZ E g1 _ x.id k)) dC (.inr iR) ?_; rintro _ _ _ ⟨rfl,rfl,rfl⟩; refine SX.u (i:=6) I kD (za1 I (buildC78 _ _)) dC ?_)
    | (refine SB.o (i:=7) I (aL zl1) dC (.inr iR) ?_; rintro _ _ _ ⟨b10,rfl,rfl,rfl⟩)
    | (refine SB.on (i:=8) I (sK 0 aK I I I I I sB) (.inr iR) ?_; rintro _ _ _ ⟨rfl,rfl⟩)
    | refine zd3 3 7 kD ?_ ?_
    | refine zd2 7 kD ?_
    | refine zd2 8 kD ?_
    | refine zd2 3 kD ?_
    | (refine SX.nil kD ?_; exact za7 b10 sB I I trivial))
  rintro b10 -;try dsimp only
  refine zb4 94 2 (sQ (rZ (aT I (bK ?_))));refine oP (ι:=Value×Nat) (fun j=>[(2,pp b2 0),(4,pp b4 0),(5,vi k),(6,vi t),(7,pp b7 0),(8,vi i),(9,pp b9 0),(10,pp b10 0),(11,vi j.2)]) (fun _=>g1) (fun j=>rowA encSide 94 j.1 ((x.sides.take j.2).map (be k t x))::pt b10 (.cells #[vi (dU x.id k),vi x.dim,j.1] 78 (0,0))::pt b9 (.cells #[vi x.id,vi x.dim,.slice xp x.sides.length xcap] 78 (0,0))::rowA encCell 78 ov rcs::pt b7 (.cells #[ov] 30 (0,0))::pt b4 (.cells #[.slice none 0 0] 30 (0,0))::pt b2 (.cells #[.slice p rs.length c] 30 (0,0))::s)
   (fun j=>j.2≤x.sides.length) (fun j=>x.sides.length - j.2) (.slice none 0 0,0) sB rfl rfl (zf3 _) ?_
  rintro ⟨sv,j⟩ hj;dsimp only at hj ⊢;refine sQ (sW I (lU (fA ar I cA I) (lK (qL (v:=.slice xp x.sides.length xcap) dE I (cO 2 I I)) (lU (eN cM I) (yL I (tZ ?_))))));refine iP I (fun hlt2=>?_) (fun hlt2=>?_)
  ·have hjl:j<x.sides.length:=oM;have hb3:=hxs.based oM;have hjx:x.sides[((j:Nat):Int).toNat]?=some x.sides[j]:=gE hjl;have hjs:=fQ hjl (be k t x);generalize x.sides[j]=z at *;refine kP (tN (sQ (bK ?_)));refine SC.cut (ι:=Nat) (fun b12=>[(2,pp b2 0),(4,pp b4 0),(5,vi k),(6,vi t),(7,pp b7 0),(8,vi i),(9,pp b9 0),(10,pp b10 0),(11,vi j),(12,pp b12 0)]) (fun _=>g1) (fun b12=>pt b12 (.cells #[vi (dU z.cell k),vi z.sign] 94 (0,0))::rowA encSide 94 sv ((x.sides.take j).map (be k t x))::pt b10 (.cells #[vi (dU x.id k),vi x.dim,sv] 78 (0,0))::pt b9 (.cells #[vi x.id,vi x.dim,.slice xp x.sides.length xcap] 78 (0,0))::rowA encCell 78 ov rcs::pt b7 (.cells #[ov] 30 (0,0))::pt b4 (.cells #[.slice none 0 0] 30 (0,0))::pt b2 (.cells #[.slice p rs.length c] 30 (0,0))::s) (fun _=>True) ?_ ?_
   ·refine SC.drawX [] zd9 kR ?_;refine SX.u (i:=0) I kR (fA ar I cA I) dC (SX.q (i:=1) I kR (qL (v:=.slice xp x.sides.length xcap) dE I (cO 2 I I)) dC (SX.u (i:=2) I kR (mV I) dC (SX.u (i:=3) I kR (iA cM cq I I hb3 oM sL) dC (SX.u (i:=4) I kR (fC dK I zT3 I hb3) dC (SX.q (i:=5) I kR (aZ (e:=encSide) (o:=0) (u:=vi z.cell) iT3 I hxs.rd hjx I) dC (SX.u (i:=6) I kR (mV I) dC (SX.u (i:=8) I kR (fA ar I cA I) dC (SX.q (i:=9) I kR (qL (v:=.slice xp x.sides.length xcap) dE I (cO 2 I I)) dC (SX.u (i:=10) I kR (mV I) dC (SX.u (i:=11) I kR (iA cM cq I I hb3 oM sL) dC (SX.u (i:=12) I kR (fC dK I zT3 I hb3) dC (SX.q (i:=13) I kR (aZ (e:=encSide) (o:=1) (u:=vi z.sign) iT3 I hxs.rd hjx I) dC ?_))))))))))))
    repeat' (first
     | (refine SB.o (i:=7) I (cL call108 I (jZ E g1 _ z.cell k)) dC (.inr iR) ?_; rintro _ _ _ ⟨rfl,rfl,rfl⟩; refine SX.u (i:=14) I kD (za1 I (buildS94 _ _)) dC ?_)
     | (refine SB.o (i:=7) I (cL call108 I (jZ E g1 _ z.cell k)) dC (.inr iR) ?_; rintro _ _ _ ⟨rfl,rfl,rfl⟩; refine SX.u (i:=14) I kD (za1 I (buildS94 _ _)) dC ?_)
     | (refine SB.o (i:=15) I (aL zk9) dC (.inr iR) ?_; rintro _ _ _ ⟨b12,rfl,rfl,rfl⟩)
     | (refine SB.on (i:=16) I (sK 0 cq I I I I I sB) (.inr iR) ?_; rintro _ _ _ ⟨rfl,rfl⟩)
     | refine zd3 7 15 kD ?_ ?_
     | refine zd2 15 kD ?_
     | refine zd2 16 kD ?_
     | refine zd2 7 kD ?_
     | (refine SX.nil kD ?_; exact za7 b12 sB I I trivial))
   rintro b12 -;try dsimp only
   have e1:t>1→jf t x=decide (x.id.tmod t=1):=fun h=>by simp[jf,h]
   have e2:¬ t>1→jf t x=false:=fun h=>by simp only[jf,h,decide_false,Bool.false_and]
   have e3:t>1→x.dim>1→iV t x z.cell=decide (z.cell.tmod t=1):=fun h h'=>by simp[iV,h,h']
   have e4:t>1→¬ x.dim>1→iV t x z.cell=false:=fun h h'=>by simp only[iV,h',decide_false,Bool.and_false,Bool.false_and]
   have e5:¬ t>1→iV t x z.cell=false:=fun h=>by simp only[iV,h,decide_false,Bool.false_and]
   refine SC.cut (ι:=Int) (fun _=>[(2,pp b2 0),(4,pp b4 0),(5,vi k),(6,vi t),(7,pp b7 0),(8,vi i),(9,pp b9 0),(10,pp b10 0),(11,vi j),(12,pp b12 0)]) (fun _=>g1) (fun sg=>pt b12 (.cells #[vi (dU z.cell k),vi sg] 94 (0,0))::rowA encSide 94 sv ((x.sides.take j).map (be k t x))::pt b10 (.cells #[vi (dU x.id k),vi x.dim,sv] 78 (0,0))::pt b9 (.cells #[vi x.id,vi x.dim,.slice xp x.sides.length xcap] 78 (0,0))::rowA encCell 78 ov rcs::pt b7 (.cells #[ov] 30 (0,0))::pt b4 (.cells #[.slice none 0 0] 30 (0,0))::pt b2 (.cells #[.slice p rs.length c] 30 (0,0))::s) (fun sg=>sg=uQ (jf t x) z.sign) ?_ ?_
   ·refine SC.cutB 69 ((jf t x)) ?_ ?_
    ·refine rG (lM I (lU (gR I I) (lM I ?_)));refine sP ?_ ?_
     ·intro h64;refine lY I I I (fA ar I zT3 I) (SL.gq (gT I I I dC) (qL (v:=vi x.id) iT3 I (cO 3 I I)) dC (yC I (zd7 (gT I I I dC) (cL call109 I (pj E g1 _ x.id t oM)) dC ?_)));rintro _ _ _ ⟨rfl,rfl,rfl⟩;refine yP I (nL ?_);exact za8 (by (rw[e1 h64]; rfl)) mI
     ·intro h64;refine yA I (yA I (yA I (yA I (yF I (nL ?_)))));exact za8 (by (rw[e2 h64]; rfl)) mI
    refine iQ I (fun hq1=>?_) (fun hq1=>?_)
    ·refine rG (lU (fA dK rfl zT3 rfl) (lK (qL (v:=vi z.sign) iT3 rfl (cO 0 rfl rfl)) (lU (SU.neg rfl) (lU (fA dK rfl zT3 rfl) (oZ (SO.store1 0 zT3 rfl rfl rfl rfl (bE rfl) (by rfl)) ?_)))));refine nL ?_;exact za7 (IntKind.i64.wrap (0 - z.sign)) sB I I (by rw[hq1]; rfl)
    ·refine kP ?_;exact za7 z.sign sB I I (by rw[hq1]; rfl)
   rintro s1 hs1;try dsimp only
   refine SC.cut (ι:=Int) (fun _=>[(2,pp b2 0),(4,pp b4 0),(5,vi k),(6,vi t),(7,pp b7 0),(8,vi i),(9,pp b9 0),(10,pp b10 0),(11,vi j),(12,pp b12 0)]) (fun _=>g1) (fun sg=>pt b12 (.cells #[vi (dU z.cell k),vi sg] 94 (0,0))::rowA encSide 94 sv ((x.sides.take j).map (be k t x))::pt b10 (.cells #[vi (dU x.id k),vi x.dim,sv] 78 (0,0))::pt b9 (.cells #[vi x.id,vi x.dim,.slice xp x.sides.length xcap] 78 (0,0))::rowA encCell 78 ov rcs::pt b7 (.cells #[ov] 30 (0,0))::pt b4 (.cells #[.slice none 0 0] 30 (0,0))::pt b2 (.cells #[.slice p rs.length c] 30 (0,0))::s) (fun sg=>sg=uQ (iV t x z.cell) s1) ?_ ?_
   ·refine SC.cutB 90 ((iV t x z.cell)) ?_ ?_
    ·refine rG (lM I (lU (gR I I) (lM I ?_)));refine sP ?_ ?_
     ·intro h76;refine lY I I I (fA ar I zT3 I) (SL.gq (gT I I I dC) (qL (v:=vi x.dim) iT3 I (cO 3 I I)) dC (lY I I I (gR I I) (yP I (lM I ?_))));refine sP ?_ ?_
      ·intro h81;refine lY I I I (fA ar I cA I) (SL.gq (gT I I I dC) (qL (v:=.slice xp x.sides.length xcap) dE I (cO 3 I I)) dC (yC I (lY I I I (iA cM cq I I hb3 oM sL) (lY I I I (fC dK I zT3 I hb3) (SL.gq (gT I I I dC) (aZ (e:=encSide) (o:=0) (u:=vi z.cell) iT3 I hxs.rd hjx I) dC (yC I (zd7 (gT I I I dC) (cL call109 I (pj E g1 _ z.cell t oM)) dC ?_)))))));rintro _ _ _ ⟨rfl,rfl,rfl⟩;refine yP I (nL ?_);exact za8 (by (rw[e3 h76 h81]; rfl)) mI
      ·intro h81;refine yA I (yA I (yA I (yA I (yA I (yA I (yA I (yA I (yF I (nL ?_)))))))));exact za8 (by (rw[e4 h76 h81]; rfl)) mI
     ·intro h76;refine yA I (yA I (yA I (yF I (lM I (yA I (yA I (yA I (yA I (yA I (yA I (yA I (yA I (yF I (nL ?_))))))))))))));exact za8 (by (rw[e5 h76]; rfl)) mI
    refine iQ I (fun hq2=>?_) (fun hq2=>?_)
    ·refine rG (lU (fA dK rfl zT3 rfl) (lK (qL (v:=vi s1) iT3 rfl (cO 0 rfl rfl)) (lU (SU.neg rfl) (lU (fA dK rfl zT3 rfl) (oZ (SO.store1 0 zT3 rfl rfl rfl rfl (bE rfl) (by rfl)) ?_)))));refine nL ?_;exact za7 (IntKind.i64.wrap (0 - s1)) sB I I (by rw[hq2]; rfl)
    ·refine kP ?_;exact za7 s1 sB I I (by rw[hq2]; rfl)
   rintro s2 hs2;try dsimp only
   have hrz:be k t x z=⟨dU z.cell k,s2⟩:=by unfold be; rw[hs2,hs1]
   rw[hrz] at hjs;have hml:((x.sides.take j).map (be k t x)).length=j:=by rw[ze3,ze1]; omega
   refine rG (lU (fA ar I cA I) (lK (qL (v:=sv) dE I (cO 2 I I)) (lK (qV 0 mT cq I I I) (lW (bS sty76 I I I (ae sB) dC) ?_))));rintro _ _ _ ⟨b98,rfl,rfl,rfl⟩;refine lW (aP (e:=encSide) 1 ⟨dU z.cell k,s2⟩ sty76 I I I I I oM oM) ?_;rintro sv' _ _ ⟨rfl,rfl⟩;rw[← hjs];refine zc9 fun ⟨w0,hw0⟩=>?_;obtain ⟨q6,d6,rfl⟩:=ah (i:=1) hw0 rfl;clear hw0 w0;refine lU (fA ar rfl cA rfl) (oZ (SO.store1 2 cA rfl rfl rfl rfl (bE rfl) (by rfl)) ?_);refine nL (bN (tN (rG (lM I (yD I (lA I (nL (dR (s':=rowA encSide 94 (.slice q6 ((x.sides.take (j+1)).map (be k t x)).length d6) ((x.sides.take (j+1)).map (be k t x))::pt b10 (.cells #[vi (dU x.id k),vi x.dim,(.slice q6 ((x.sides.take (j+1)).map (be k t x)).length d6)] 78 (0,0))::pt b9 (.cells #[vi x.id,vi x.dim,.slice xp x.sides.length xcap] 78 (0,0))::rowA encCell 78 ov rcs::pt b7 (.cells #[ov] 30 (0,0))::pt b4 (.cells #[.slice none 0 0] 30 (0,0))::pt b2 (.cells #[.slice p rs.length c] 30 (0,0))::s) (.cons _ (.refl _)) ?_))))))));exact gA (_,j+1) sB I I lN lN
  ·have hjj:x.sides.take j=x.sides:=tL oM;rw[hjj];refine xI (tX (tX (bX (tN (fS fun g2 hle2 hs2=>?_)))));have hsd:SlA encSide g2 sv (x.sides.map (be k t x)):=hs2;obtain ⟨q8,d8,rfl⟩:=za2 hsd;obtain ⟨nc,hnc⟩:∃ nc:Rc,nc=⟨dU x.id k,x.dim,⟨q8,(x.sides.map (be k t x)).length,d8⟩⟩:=⟨_,rfl⟩;refine rG (lU (fA fq I ek I) (lK (qL (v:=ov) ii I (cO 3 I I)) (lK (qV 0 gJ aK I I I) (lW (bS sty28 I I I (ae sB) dC) ?_))));rintro _ _ _ ⟨b104,rfl,rfl,rfl⟩;refine lW (aP (e:=encCell) 2 nc sty28 I I I I (by rw[hnc]; rfl) oM oM) ?_;rintro v105 _ _ ⟨rfl,rfl⟩;refine zc9 fun ⟨w0,hw0⟩=>?_;obtain ⟨q9,d9,rfl⟩:=ah (i:=2) hw0 rfl;clear hw0 w0;refine lU (fA fq I ek I) (oZ (sK 3 ek I I I I I sB) ?_);refine nL (bN (tN (rG (lM I (yD I (lA I (nL (dR (s':=rowA encCell 78 (.slice q9 (rcs++[nc]).length d9) (rcs++[nc])::pt b7 (.cells #[(.slice q9 (rcs++[nc]).length d9)] 30 (0,0))::pt b4 (.cells #[.slice none 0 0] 30 (0,0))::pt b2 (.cells #[.slice p rs.length c] 30 (0,0))::s) (.cons _ (.cons _ (.refl _))) ?_))))))));refine gA (g2,_,rcs++[nc],i+1) sB I I ⟨hle.trans hle2,lN,?_⟩ lN;dsimp only;rw[hsucc];exact (hrcs.mono fun _ _=>au.mono hle2).append ⟨(by rw[hnc]; exact⟨I,I,hsd⟩),trivial⟩
 ·have hii:l.take i=l:=tL oM;rw[hii] at hrcs;refine xI (tX (tX (bX (tN (sQ (fS fun g2 hle2 hs2=>?_))))));have hov:am g2 ov (l.map (aH k t)):=⟨rcs,hs2,hrcs.mono fun _ _=>au.mono hle2⟩;obtain ⟨qo,do_,rfl⟩:=hov.form;refine rG (lK (qV 0 bq aw I I I) (lW (cL call107 I (fN E g2 _ _ _ hov (xP hf k t))) ?_));rintro _ g3 _ ⟨rfl,hle3,x3,rfl,hx3⟩;obtain ⟨q3,d3,rfl⟩:=hx3.form;refine oZ (sK 1 aw I I I I I sB) ?_;refine tZ (rE ?_);exact ST.retCD 1 s (.inl I) results61 I bq aw I I uR ⟨I,hle.trans (hle2.trans hle3),_,I,hx3⟩
def wa (j:Int):List (List Int):=if j=0 then [[0,1]] else if j=1 then [[0,1],[1,2]] else [[0,1],[1,2],[0,2]]
def G1 (j:Int)(a b c:Value):Value:=if j=0 then a else if j=1 then b else c
theorem xM {j:Int}(h:0≤j∧j<3)(a b c:Value) : #[a,b,c][0+j.toNat * 1]?=some (G1 j a b c):=by
 rcases (by omega:j=0∨j=1∨j=2) with rfl | rfl | rfl <;> rfl
theorem pk {g:PH}{j:Int}(h:0≤j∧j<3){a b c:Value}(ha:aF g a [[0,1]])(hb:aF g b [[0,1],[1,2]])(hc:aF g c [[0,1],[1,2],[0,2]]):aF g (G1 j a b c) (wa j):=by
 rcases (by omega:j=0∨j=1∨j=2) with rfl | rfl | rfl
 ·exact ha
 ·exact hb
 ·exact hc
theorem eU (j:Int):(wa j).length≤3∧∀ x∈wa j,x.length≤2:=by
 unfold wa;split
 ·exact⟨by decide,by decide⟩
 ·split
  ·exact⟨by decide,by decide⟩
  ·exact⟨by decide,by decide⟩
theorem qM (y:Int):4≤(mZ y).length∧(mZ y).length≤14∧∀ x∈mZ y,x.length≤3:=by
 unfold mZ;split
 ·exact⟨by decide,by decide,by decide⟩
 ·split
  ·exact⟨by decide,by decide,by decide⟩
  ·refine⟨by rw[jN]; decide,by rw[jN]; decide,fun x hx=>?_⟩;obtain ⟨i,_,hx⟩:=List.mem_flatMap.1 hx;simp at hx
   rcases hx with rfl | rfl <;> simp
def oA (m:Int)(ls:List (List Int))(y:Int):List Cl :=
 if m=3 then bQ (mZ y) else if m=4 then bM (bQ (wa (bU y 3))) (bQ (wa (bU (IntKind.i64.wrap (y.tdiv 3)) 3)))
 else if m=5 then uP (2+bU y 5).toNat else if m=6 then bM (bM (bQ [[0,1]]) (bQ [[0,1]])) (bQ [[0,1]])
 else if m=7 then bQ (m3 ls++(mZ y).take (2+bU y 2).toNat) else bQ (m3 ls)
theorem rH (m:Int)(ls:List (List Int))(y:Int):cZ (oA m ls y):=by
 unfold oA;have h5:=aV y 5 dC dC
 repeat' split
 ·exact (dI _).1
 ·exact (eC _ _).1
 ·exact cJ (nf oM).1
 ·exact (eC _ _).1
 ·exact (dI _).1
 ·exact (dI _).1
def qI (b:List Cl):List Cl:=if (b.length:Int)>45 then qq else b
def j8 (kd:Int)(ls:List (List Int))(y:Int):List Cl:=Hw (qI (oA (bU kd 8) ls y)) y
theorem C3 {b:List Cl}(h:cZ b):cZ (qI b):=by
 unfold qI;split
 ·exact (eC _ _).1
 ·exact h
theorem mL (kd:Int)(ls:List (List Int))(y:Int):cZ (j8 kd ls y):=cJ (xP (C3 (rH _ _ _)) _ _)
theorem Tryz.build105 (p1:Option Addr)(n1 c1:Nat)(p2:Option Addr)(n2 c2:Nat)(p3:Option Addr)(n3 c3:Nat)(w:World):(Instr.build 105 #[(0,.slice p1 n1 c1),(1,.slice p2 n2 c2),(2,.slice p3 n3 c3)]).run Tryz.prog w = .ok (.agg #[.slice p1 n1 c1,.slice p2 n2 c2,.slice p3 n3 c3]) w:=by
 have hz:(Value.agg #[Value.slice none 0 0,Value.slice none 0 0,Value.slice none 0 0]).cells = #[.slice none 0 0,.slice none 0 0,.slice none 0 0]:=rfl;have h1:(Value.slice p1 n1 c1).cells = #[.slice p1 n1 c1]:=rfl;have h2:(Value.slice p2 n2 c2).cells = #[.slice p2 n2 c2]:=rfl;have h3:(Value.slice p3 n3 c3).cells = #[.slice p3 n3 c3]:=rfl;simp[Instr.build,Instr.fill,hz,h1,h2,h3]
theorem ud (E:World)(g:PH)(s:Own)(v:Value)(kd y:Int)(ls:List (List Int))(hv:aF g v ls) :
  Ctr Tryz.prog E 23 #[.agg #[vi kd,v,vi y]] g s (fun r g' s'=>s=s'∧Le g g'∧∃ x,r = .agg #[x]∧am g' x (j8 kd ls y)):=by
 obtain ⟨p,n,c,rfl⟩:∃ p n c,v = .slice p n c:=by
  obtain ⟨rs0,hrs0,_⟩:=hv;obtain ⟨p,c,rfl⟩:=za2 hrs0;exact⟨_,_,_,I⟩
 have hm8:=aV kd 8 dC dC;have hy3:=aV y 3 dC dC;have hy33:=aV (IntKind.i64.wrap (y.tdiv 3)) 3 dC dC;have hy5:=aV y 5 dC dC;have hy2:=aV y 2 dC dC;have hss:=zx ls;have hsf:=qM y;unfold j8;have hfit:=rH (bU kd 8) ls y;refine za9 (args:=[.agg #[vi kd,.slice p n c,vi y]]) func23 I ntmps23 (bE I) ?_;refine rZ (bW (bO I) fun b1=>?_);refine bW (aL zl4) fun b2=>?_;refine tZ (rZ (bW (aL zl4) fun b3=>?_));refine tZ ?_;refine SC.to (fun w hw=>hw) (g':=g) (s':=pt b3 (.cells #[.slice none 0 0] 30 (0,0))::pt b2 (.cells #[.slice none 0 0] 30 (0,0))::pt b1 (.cells #[vi kd,.slice p n c,vi y] 24 (0,0))::s) ?_;refine SC.cut (ι:=PH×Value) (fun _=>[(1,pp b1 0),(2,pp b2 0),(3,pp b3 0)]) (fun i=>i.1) (fun i=>pt b3 (.cells #[i.2] 30 (0,0))::pt b2 (.cells #[.slice none 0 0] 30 (0,0))::pt b1 (.cells #[vi kd,.slice p n c,vi y] 24 (0,0))::s) (fun i=>Le g i.1∧am i.1 i.2 (oA (bU kd 8) ls y)) ?_ ?_
 ·rcases (by omega:(bU kd 8=0∨bU kd 8=1∨bU kd 8=2)∨bU kd 8=3∨bU kd 8=4∨bU kd 8=5∨bU kd 8=6∨bU kd 8=7) with (hm | hm | hm) | hm | hm | hm | hm | hm
  ·refine rZ (lU (fA kZ I zT3 I) (lK (qL (v:=vi kd) iT3 I (cO 2 I I)) (lW (cL kT8 I (aW E g _ _ 8 dC)) ?_)));rintro _ _ _ ⟨rfl,rfl,rfl⟩;rw[hm];refine tZ (bK (sQ (rZ (yE I (aT I (cT I (kP (tN (cT I (rG (lU (fA kZ I sV I) (lK (qL (v:=.slice p n c) isAgg22 I (cO 2 I I)) (lW (cL call56 I (lD E g _ _ ls hv)) ?_)))))))))))));rintro v16 g1 _ ⟨rs1,rfl,hle1,hall1⟩;refine fR fun g2 hle2 hs2=>?_;have hls:aF g2 v16 (m3 ls):=⟨rs1,hs2,hall1.mono fun _ _=>bJ.mono hle2⟩;refine lW (cL call24 I (aI E g2 _ _ _ hls oM (fun x hx=>by have:=hss.2 x hx; omega))) ?_;rintro _ g3 _ ⟨rfl,hle3,u,rfl,hu⟩;obtain ⟨q,d,rfl⟩:=hu.form;refine oZ (sK 0 aw I I I I I sB) ?_;refine nL (bN ?_);exact za7 (g3,_) sB I I ⟨hle1.trans (hle2.trans hle3),hu⟩
  ·refine rZ (lU (fA kZ I zT3 I) (lK (qL (v:=vi kd) iT3 I (cO 2 I I)) (lW (cL kT8 I (aW E g _ _ 8 dC)) ?_)));rintro _ _ _ ⟨rfl,rfl,rfl⟩;rw[hm];refine tZ (bK (sQ (rZ (yE I (aT I (cF I (rZ (yE I (aT I (cT I (kP (tN (cT I (rG (lU (fA kZ I sV I) (lK (qL (v:=.slice p n c) isAgg22 I (cO 2 I I)) (lW (cL call56 I (lD E g _ _ ls hv)) ?_)))))))))))))))));rintro v16 g1 _ ⟨rs1,rfl,hle1,hall1⟩;refine fR fun g2 hle2 hs2=>?_;have hls:aF g2 v16 (m3 ls):=⟨rs1,hs2,hall1.mono fun _ _=>bJ.mono hle2⟩;refine lW (cL call24 I (aI E g2 _ _ _ hls oM (fun x hx=>by have:=hss.2 x hx; omega))) ?_;rintro _ g3 _ ⟨rfl,hle3,u,rfl,hu⟩;obtain ⟨q,d,rfl⟩:=hu.form;refine oZ (sK 0 aw I I I I I sB) ?_;refine nL (bN ?_);exact za7 (g3,_) sB I I ⟨hle1.trans (hle2.trans hle3),hu⟩
  ·refine rZ (lU (fA kZ I zT3 I) (lK (qL (v:=vi kd) iT3 I (cO 2 I I)) (lW (cL kT8 I (aW E g _ _ 8 dC)) ?_)));rintro _ _ _ ⟨rfl,rfl,rfl⟩;rw[hm];refine tZ (bK (sQ (rZ (yE I (aT I (cF I (rZ (yE I (aT I (cF I (rG (yE I (aT I (cT I (rG (lU (fA kZ I sV I) (lK (qL (v:=.slice p n c) isAgg22 I (cO 2 I I)) (lW (cL call56 I (lD E g _ _ ls hv)) ?_))))))))))))))))));rintro v16 g1 _ ⟨rs1,rfl,hle1,hall1⟩;refine fR fun g2 hle2 hs2=>?_;have hls:aF g2 v16 (m3 ls):=⟨rs1,hs2,hall1.mono fun _ _=>bJ.mono hle2⟩;refine lW (cL call24 I (aI E g2 _ _ _ hls oM (fun x hx=>by have:=hss.2 x hx; omega))) ?_;rintro _ g3 _ ⟨rfl,hle3,u,rfl,hu⟩;obtain ⟨q,d,rfl⟩:=hu.form;refine oZ (sK 0 aw I I I I I sB) ?_;refine nL (bN ?_);exact za7 (g3,_) sB I I ⟨hle1.trans (hle2.trans hle3),hu⟩
  ·refine rZ (lU (fA kZ I zT3 I) (lK (qL (v:=vi kd) iT3 I (cO 2 I I)) (lW (cL kT8 I (aW E g _ _ 8 dC)) ?_)));rintro _ _ _ ⟨rfl,rfl,rfl⟩;rw[hm];refine tZ (bK (sQ (rZ (yE I (aT I (cF I (rZ (yE I (aT I (cF I (rG (yE I (aT I (cF I (rZ (yE I (aT I ?_)))))))))))))))));refine cT I (rG (lU (fA kZ I zT3 I) (lK (qL (v:=vi y) iT3 I (cO 2 I I)) (lW (cL call57 I (nb E g _ y)) ?_))));rintro v22 g1 _ ⟨rfl,hle1,hls⟩;refine lW (cL call24 I (aI E g1 _ _ _ hls oM (fun x hx=>by have:=hsf.2.2 x hx; omega))) ?_;rintro _ g3 _ ⟨rfl,hle3,u,rfl,hu⟩;obtain ⟨q,d,rfl⟩:=hu.form;refine oZ (sK 0 aw I I I I I sB) ?_;refine nL (bN ?_);exact za7 (g3,_) sB I I ⟨hle1.trans hle3,hu⟩
  ·refine rZ (lU (fA kZ I zT3 I) (lK (qL (v:=vi kd) iT3 I (cO 2 I I)) (lW (cL kT8 I (aW E g _ _ 8 dC)) ?_)));rintro _ _ _ ⟨rfl,rfl,rfl⟩;rw[hm];refine tZ (bK (sQ (rZ (yE I (aT I (cF I (rZ (yE I (aT I (cF I (rG (yE I (aT I (cF I (rZ (yE I (aT I ?_)))))))))))))))));refine cF I (rZ (yE I (aT I (cT I (rZ (lU (fA kZ I zT3 I) (lK (qL (v:=vi y) iT3 I (cO 2 I I)) (lW (cL kT8 I (aW E g _ _ 3 dC)) ?_))))))));rintro _ _ _ ⟨rfl,rfl,rfl⟩;refine aT I (rZ (lW (bS sty25 I I I (ae sB) dC) ?_));rintro _ _ _ ⟨b29,rfl,rfl,rfl⟩;refine zb3 fun g1 hle1 hb29=>?_;refine lW (bS sty22 I I I (ae ⟨I,trivial⟩) dC) ?_;rintro _ _ _ ⟨b30,rfl,rfl,rfl⟩;refine zb3 fun g2 hle2 hb30=>?_;have hlit30:aF g2 (.slice (some ⟨b30,0,none⟩) 1 1) [[0,1]]:=⟨[eI (.slice (some ⟨b29,0,none⟩) 2 2)],SlA.lit hb30 rfl rfl,⟨SlA.lit (hle2 _ _ hb29) rfl rfl,trivial⟩⟩;refine lW (bS sty25 I I I (ae sB) dC) ?_;rintro _ _ _ ⟨b31,rfl,rfl,rfl⟩;refine zb3 fun g3 hle3 hb31=>?_;refine lW (bS sty25 I I I (ae sB) dC) ?_;rintro _ _ _ ⟨b32,rfl,rfl,rfl⟩;refine zb3 fun g4 hle4 hb32=>?_;refine lW (bS sty22 I I I (ae sB) dC) ?_;rintro _ _ _ ⟨b33,rfl,rfl,rfl⟩;refine zb3 fun g5 hle5 hb33=>?_;have hlit33:aF g5 (.slice (some ⟨b33,0,none⟩) 2 2) [[0,1],[1,2]]:=⟨[eI (.slice (some ⟨b31,0,none⟩) 2 2),eI (.slice (some ⟨b32,0,none⟩) 2 2)],SlA.lit hb33 rfl rfl,⟨SlA.lit (hle5 _ _ (hle4 _ _ hb31)) rfl rfl,SlA.lit (hle5 _ _ hb32) rfl rfl,trivial⟩⟩;refine lW (bS sty25 I I I (ae sB) dC) ?_;rintro _ _ _ ⟨b34,rfl,rfl,rfl⟩;refine zb3 fun g6 hle6 hb34=>?_;refine lW (bS sty25 I I I (ae sB) dC) ?_;rintro _ _ _ ⟨b35,rfl,rfl,rfl⟩;refine zb3 fun g7 hle7 hb35=>?_;refine lW (bS sty25 I I I (ae sB) dC) ?_;rintro _ _ _ ⟨b36,rfl,rfl,rfl⟩;refine zb3 fun g8 hle8 hb36=>?_;refine lW (bS sty22 I I I (ae sB) dC) ?_;rintro _ _ _ ⟨b37,rfl,rfl,rfl⟩;refine zb3 fun g9 hle9 hb37=>?_;have hlit37:aF g9 (.slice (some ⟨b37,0,none⟩) 3 3) [[0,1],[1,2],[0,2]]:=⟨[eI (.slice (some ⟨b34,0,none⟩) 2 2),eI (.slice (some ⟨b35,0,none⟩) 2 2),eI (.slice (some ⟨b36,0,none⟩) 2 2)],SlA.lit hb37 rfl rfl,⟨SlA.lit (hle9 _ _ (hle8 _ _ (hle7 _ _ hb34))) rfl rfl,SlA.lit (hle9 _ _ (hle8 _ _ hb35)) rfl rfl,SlA.lit (hle9 _ _ hb36) rfl rfl,trivial⟩⟩;refine lU (za1 I (build105 _ _ _ _ _ _ _ _ _)) (bW (aL zeroValue105) fun b5=>?_);refine oZ (sK 0 sizeOf105 I I I I I sB) ?_;refine tZ ?_;have hl1:=pk hy3 (hlit30.mono (hle3.trans (hle4.trans (hle5.trans (hle6.trans (hle7.trans (hle8.trans hle9))))))) (hlit33.mono (hle6.trans (hle7.trans (hle8.trans hle9)))) hlit37;have hl2:=pk hy33 (hlit30.mono (hle3.trans (hle4.trans (hle5.trans (hle6.trans (hle7.trans (hle8.trans hle9))))))) (hlit33.mono (hle6.trans (hle7.trans (hle8.trans hle9)))) hlit37;refine SC.to (fun w hw=>hw) (g':=g9) (s':=pt b5 (.cells #[.slice (some ⟨b30,0,none⟩) 1 1,.slice (some ⟨b33,0,none⟩) 2 2,.slice (some ⟨b37,0,none⟩) 3 3] 105 (0,0))::pt b3 (.cells #[.slice none 0 0] 30 (0,0))::pt b2 (.cells #[.slice none 0 0] 30 (0,0))::pt b1 (.cells #[vi kd,.slice p n c,vi y] 24 (0,0))::s) ?_;refine dW [12] [(0,2),(1,2),(2,1),(4,2),(5,1),(6,2),(3,0),(7,0),(8,2),(9,1),(10,0),(11,0),(12,0)] zd9 kR ?_;refine yM I (pU I (SU.indexAddrA underlying105 sV I I oM oM) (pK I (qL (v:=G1 (bU y 3) (.slice (some ⟨b30,0,none⟩) 1 1) (.slice (some ⟨b33,0,none⟩) 2 2) (.slice (some ⟨b37,0,none⟩) 3 3)) isAgg22 I (cO 0 I (xM hy3 _ _ _))) (pU I (fA kZ I zT3 I) (pK I (qL (v:=vi y) iT3 I (cO 3 I I)) (pU I (SU.quo I I dC) (SP.o I (cL call24 I (aI E g9 _ _ _ hl1 (by have:=(eU (bU y 3)).1; omega) (fun x hx=>by have:=(eU (bU y 3)).2 x hx; omega))) dC (.inr iR) ?_))))));rintro _ ga _ ⟨rfl,hlea,ua,rfl,hua⟩;obtain ⟨qa,da,rfl⟩:=hua.form;refine SP.o I (cL kT8 I (aW E ga _ _ 3 dC)) dC (.inr iR) ?_;rintro _ _ _ ⟨rfl,rfl,rfl⟩;refine pU I (SU.indexAddrA underlying105 sV I I oM oM) (pK I (qL (v:=G1 (bU (IntKind.i64.wrap (y.tdiv 3)) 3) (.slice (some ⟨b30,0,none⟩) 1 1) (.slice (some ⟨b33,0,none⟩) 2 2) (.slice (some ⟨b37,0,none⟩) 3 3)) isAgg22 I (cO 0 I (xM hy33 _ _ _))) (SP.o I (cL call24 I (aI E ga _ _ _ (hl2.mono hlea) (by have:=(eU (bU (IntKind.i64.wrap (y.tdiv 3)) 3)).1; omega) (fun x hx=>by have:=(eU (bU (IntKind.i64.wrap (y.tdiv 3)) 3)).2 x hx; omega))) dC (.inr (by rintro _ gb _ ⟨rfl,hleb,ub,rfl,hub⟩; exact⟨by exact Le.trans (by assumption) (by assumption),(by exact .refl _)⟩)) ?_));rintro _ gb _ ⟨rfl,hleb,ub,rfl,hub⟩;obtain ⟨qb,db,rfl⟩:=hub.form;have hleab:=hlea.trans hleb;refine SP.o rfl (cL call58 rfl (eF E gb _ _ _ _ _ (hua.mono hleb) hub (dI _).1 (dI _).1)) dC (.inr (by rintro _ gc _ ⟨rfl,hlec,uc,rfl,huc⟩; exact⟨by exact Le.trans (by assumption) (by assumption),(by exact .refl _)⟩)) ?_;rintro _ gc _ ⟨rfl,hlec,uc,rfl,huc⟩;obtain ⟨qc,dc,rfl⟩:=huc.form;refine SP.on I (sK 1 aw I I I I I sB) (.inl dC) ?_;rintro _ _ _ ⟨rfl,rfl⟩;refine pN (bN (dR (s':=pt b3 (.cells #[(Value.slice qc _ dc)] 30 (0,0))::pt b2 (.cells #[.slice none 0 0] 30 (0,0))::pt b1 (.cells #[vi kd,.slice p n c,vi y] 24 (0,0))::s) (.cons _ (.refl _)) ?_));exact za7 (gc,_) sB I I ⟨(hle1.trans (hle2.trans (hle3.trans (hle4.trans (hle5.trans (hle6.trans (hle7.trans (hle8.trans hle9)))))))).trans (hlea.trans (hleb.trans hlec)),huc⟩
  ·refine rZ (lU (fA kZ I zT3 I) (lK (qL (v:=vi kd) iT3 I (cO 2 I I)) (lW (cL kT8 I (aW E g _ _ 8 dC)) ?_)));rintro _ _ _ ⟨rfl,rfl,rfl⟩;rw[hm];refine tZ (bK (sQ (rZ (yE I (aT I (cF I (rZ (yE I (aT I (cF I (rG (yE I (aT I (cF I (rZ (yE I (aT I ?_)))))))))))))))));refine cF I (rZ (yE I (aT I (cF I (rZ (yE I (aT I (cT I (rG (lU (fA kZ I zT3 I) (lK (qL (v:=vi y) iT3 I (cO 2 I I)) (lW (cL kT8 I (aW E g _ _ 5 dC)) ?_))))))))))));rintro _ _ _ ⟨rfl,rfl,rfl⟩;refine lU (SU.eq (v':=vi (((2+bU y 5).toNat:Nat):Int)) (aD I I oM) (zd8 vi oM)) (lW (cL call59 I (vd E g _ (2+bU y 5).toNat oM oM)) ?_);rintro _ g3 _ ⟨rfl,hle3,u,rfl,hu⟩;obtain ⟨q,d,rfl⟩:=hu.form;refine oZ (sK 0 aw I I I I I sB) ?_;refine nL (bN ?_);exact za7 (g3,_) sB I I ⟨hle3,hu⟩
  ·refine rZ (lU (fA kZ I zT3 I) (lK (qL (v:=vi kd) iT3 I (cO 2 I I)) (lW (cL kT8 I (aW E g _ _ 8 dC)) ?_)));rintro _ _ _ ⟨rfl,rfl,rfl⟩;rw[hm];refine tZ (bK (sQ (rZ (yE I (aT I (cF I (rZ (yE I (aT I (cF I (rG (yE I (aT I (cF I (rZ (yE I (aT I ?_)))))))))))))))));refine cF I (rZ (yE I (aT I (cF I (rZ (yE I (aT I (cF I (rZ (yE I (aT I (cT I (rZ (lW (bS sty25 I I I (ae sB) dC) ?_))))))))))))));rintro _ _ _ ⟨b60,rfl,rfl,rfl⟩;refine zb3 fun g1 hle1 hb60=>?_;refine lW (bS sty22 I I I (ae ⟨I,trivial⟩) dC) ?_;rintro _ _ _ ⟨b61,rfl,rfl,rfl⟩;refine zb3 fun g2 hle2 hb61=>?_;have hlit61:aF g2 (.slice (some ⟨b61,0,none⟩) 1 1) [[0,1]]:=⟨[eI (.slice (some ⟨b60,0,none⟩) 2 2)],SlA.lit hb61 rfl rfl,⟨SlA.lit (hle2 _ _ hb60) rfl rfl,trivial⟩⟩;refine lW (cL call24 I (aI E g2 _ _ _ hlit61 dC dC)) ?_;rintro _ ga _ ⟨rfl,hlea,ua,rfl,hua⟩;obtain ⟨qa,da,rfl⟩:=hua.form;refine bW (aL zl4) fun b6=>?_;refine oZ (sK 0 aw I I I I I sB) ?_;refine tZ ?_;refine SC.to (fun w hw=>hw) (g':=ga) (s':=pt b6 (.cells #[.slice qa (bQ [[0,1]]).length da] 30 (0,0))::pt b3 (.cells #[.slice none 0 0] 30 (0,0))::pt b2 (.cells #[.slice none 0 0] 30 (0,0))::pt b1 (.cells #[vi kd,.slice p n c,vi y] 24 (0,0))::s) ?_;refine dW [5] [(0,1),(1,1),(3,1),(2,0),(4,0),(5,0)] zd9 kR ?_;refine pK I (qV 0 bq aw I I I) (pK I (qV 0 bq aw I I I) (pK I (qV 0 bq aw I I I) (SP.o I (cL call58 I (eF E ga _ _ _ _ _ hua hua (dI _).1 (dI _).1)) dC (.inr iR) ?_)));rintro _ gb _ ⟨rfl,hleb,ub,rfl,hub⟩;obtain ⟨qb,db,rfl⟩:=hub.form;refine SP.o rfl (cL call58 rfl (eF E gb _ _ _ _ _ hub (hua.mono hleb) (eC _ _).1 (dI _).1)) dC (.inr (by rintro _ gc _ ⟨rfl,hlec,uc,rfl,huc⟩; exact⟨by exact Le.trans (by assumption) (by assumption),(by exact .refl _)⟩)) ?_;rintro _ gc _ ⟨rfl,hlec,uc,rfl,huc⟩;obtain ⟨qc,dc,rfl⟩:=huc.form;refine SP.on I (sK 1 aw I I I I I sB) (.inl dC) ?_;rintro _ _ _ ⟨rfl,rfl⟩;refine pN (bN (dR (s':=pt b3 (.cells #[(Value.slice qc _ dc)] 30 (0,0))::pt b2 (.cells #[.slice none 0 0] 30 (0,0))::pt b1 (.cells #[vi kd,.slice p n c,vi y] 24 (0,0))::s) (.cons _ (.refl _)) ?_));exact za7 (gc,_) sB I I ⟨(hle1.trans hle2).trans (hlea.trans (hleb.trans hlec)),huc⟩
  ·refine rZ (lU (fA kZ I zT3 I) (lK (qL (v:=vi kd) iT3 I (cO 2 I I)) (lW (cL kT8 I (aW E g _ _ 8 dC)) ?_)));rintro _ _ _ ⟨rfl,rfl,rfl⟩;rw[hm];refine tZ (bK (sQ (rZ (yE I (aT I (cF I (rZ (yE I (aT I (cF I (rG (yE I (aT I (cF I (rZ (yE I (aT I ?_)))))))))))))))));refine cF I (rZ (yE I (aT I (cF I (rZ (yE I (aT I (cF I (rZ (yE I (aT I (cF I (rZ (yE I (aT I (cT I ?_))))))))))))))));refine dW [13] [(0,2),(1,1),(3,2),(4,1),(6,2),(7,1),(2,0),(5,0),(8,0),(9,2),(10,2),(11,0),(12,0),(13,0)] zd9 kR ?_;refine pU I (fA kZ I sV I) (pK I (qL (v:=.slice p n c) isAgg22 I (cO 2 I I)) (pU I (fA kZ I zT3 I) (pK I (qL (v:=vi y) iT3 I (cO 2 I I)) (pU I (fA kZ I zT3 I) (pK I (qL (v:=vi y) iT3 I (cO 2 I I)) (SP.o I (cL call56 I (lD E g _ _ ls hv)) dC (.inr iR) ?_))))));rintro v72 g1 _ ⟨rs1,rfl,hle1,hall1⟩;refine SP.o rfl (cL call57 rfl (nb E g1 _ y)) dC (.inr (by rintro v75 g2 _ ⟨rfl,hle2,hsv⟩; exact⟨by exact Le.trans (by assumption) (by assumption),(by exact .cons _ (.refl _))⟩)) ?_;rintro v75 g2 _ ⟨rfl,hle2,hsv⟩;obtain ⟨rs2,hrs2,hall2⟩:=hsv;have hrl2:=hall2.length;have hrl1:=hall1.length;obtain ⟨q2,d2,rfl⟩:=za2 hrs2;have hcap2:=(SlA.cap hrs2).2;have hcut:=SlA.cut hrs2 (l:=0) (m:=(2+bU y 2).toNat) (zf3 _) oM;rw[List.drop_zero,Nat.sub_zero] at hcut;refine SP.o rfl (cL kT8 rfl (aW E g2 _ _ 2 dC)) dC (.inr (by rintro _ _ _ ⟨rfl,rfl,rfl⟩; exact⟨by exact Le.trans (by assumption) (by assumption),(by exact .cons _ (.refl _))⟩)) ?_;rintro _ _ _ ⟨rfl,rfl,rfl⟩;refine pU I (aD I I oM) (pU I (SU.sliceH bH bZ I I oM oM) (SP.o I (aQ (e:=encSv) 0 sty22 I I I hcut (by rw[ze1]; omega) (by rw[ze1]; omega)) dC (.inr (by rintro v81 _ _ ⟨rfl,rfl⟩; exact⟨by exact Le.trans (by assumption) (by assumption),(by exact .cons _ (.refl _))⟩)) ?_));rintro v81 _ _ ⟨rfl,rfl⟩;refine SP.freezeRow fun g3 hle3 hs3=>?_;have hls:aF g3 v81 (m3 ls++(mZ y).take (2+bU y 2).toNat):=⟨_,hs3,(hall1.mono fun _ _=>bJ.mono (hle2.trans hle3)).append ((aB.take _ hall2).mono fun _ _=>bJ.mono hle3)⟩;have hle13:=hle1.trans (hle2.trans hle3);refine SP.o I (cL call24 I (aI E g3 _ _ _ hls (by rw[ze2,ze1]; omega) (fun x hx=>by rcases ze9.1 hx with h | h; (have:=hss.2 x h; omega); (have:=hsf.2.2 x (List.mem_of_mem_take h); omega)))) dC (.inr (by rintro _ g4 _ ⟨rfl,hle4,u,rfl,hu⟩; exact⟨by exact Le.trans (by assumption) (by assumption),(by exact .refl _)⟩)) ?_;rintro _ g4 _ ⟨rfl,hle4,u,rfl,hu⟩;obtain ⟨q,d,rfl⟩:=hu.form;refine SP.on I (sK 0 aw I I I I I sB) (.inl dC) ?_;rintro _ _ _ ⟨rfl,rfl⟩;refine pN (bN ?_);exact za7 (g4,_) sB I I ⟨hle1.trans (hle2.trans (hle3.trans hle4)),hu⟩
 rintro ⟨g1,bv⟩ ⟨hle1,hbv⟩;dsimp only at hle1 hbv ⊢;generalize hB:oA (bU kd 8) ls y=B at *;obtain ⟨qb,db,rfl⟩:=hbv.form;refine sQ (rZ (lU (fA fq I ek I) (lK (qL (v:=.slice qb B.length db) ii I (cO 0 I I)) (lU (eN aO I) (lU (gR I I) (tZ ?_))))));refine iP I (fun hbig=>?_) (fun hbig=>?_)
 ·refine rG (lW (cL call60 I (ze E g1 _)) ?_);rintro _ g2 _ ⟨rfl,hle2,ut,rfl,hut⟩;obtain ⟨qt,dt,rfl⟩:=hut.form;refine oZ (sK 0 aw I I I I I sB) ?_;refine tZ (sQ ?_);refine SC.to (fun w hw=>hw) (g':=g2) (s':=pt b3 (.cells #[(Value.slice qt qq.length dt)] 30 (0,0))::pt b2 (.cells #[.slice none 0 0] 30 (0,0))::pt b1 (.cells #[vi kd,.slice p n c,vi y] 24 (0,0))::s) ?_;refine rG (lK (qV 0 bq aw I I I) (lU (fA kZ I zT3 I) (lK (qL (v:=vi y) iT3 I (cO 2 I I)) (lW (cL call61 I (jW E g2 _ _ qq y hut (eC _ _).1)) ?_))));rintro _ g3 _ ⟨rfl,hle3,x3,rfl,hx3⟩;obtain ⟨q3,d3,rfl⟩:=hx3.form;refine oZ (sK 1 aw I I I I I sB) ?_;refine tZ (rE ?_);exact ST.retCD 1 s (.inl I) results23 I bq aw I I uR ⟨I,hle1.trans (hle2.trans hle3),_,I,by unfold qI; rw[zf7 hbig]; exact hx3⟩
 ·refine kP (tN (sQ ?_));refine SC.to (fun w hw=>hw) (g':=g1) (s':=pt b3 (.cells #[(Value.slice qb B.length db)] 30 (0,0))::pt b2 (.cells #[.slice none 0 0] 30 (0,0))::pt b1 (.cells #[vi kd,.slice p n c,vi y] 24 (0,0))::s) ?_;refine rG (lK (qV 0 bq aw I I I) (lU (fA kZ I zT3 I) (lK (qL (v:=vi y) iT3 I (cO 2 I I)) (lW (cL call61 I (jW E g1 _ _ B y hbv hfit)) ?_))));rintro _ g3 _ ⟨rfl,hle3,x3,rfl,hx3⟩;obtain ⟨q3,d3,rfl⟩:=hx3.form;refine oZ (sK 1 aw I I I I I sB) ?_;refine tZ (rE ?_);exact ST.retCD 1 s (.inl I) results23 I bq aw I I uR ⟨I,hle1.trans hle3,_,I,by unfold qI; rw[zf6 hbig]; exact hx3⟩
set_option maxHeartbeats 2000000
open Go.ChangeShapes Go.WideShapes Go.ChangeAt Go.RowKit
set_option maxRecDepth 100000
def xm (W:World):PH:=fun b=>W.heap[b]?
def E0 (W:World):World:={ W with drawn:=0 }
theorem EO (W:World):At (E0 W) (xm W) [] W:=⟨rfl,⟨rfl,zf3 _⟩,rfl,fun _ _ h=>h,by simp,by simp,List.Pairwise.nil⟩
theorem EQ {W W':World}{g:PH}{s:Own}(h:At (E0 W) g s W')(hl:Le (xm W) g):Below W.heap.size W W':=by
 have hb:∀ k,k<W.heap.size→W'.heap[k]?=W.heap[k]?:=fun k hk=>by
  have h1:W.heap[k]?=some W.heap[k]:=Array.getElem?_eq_getElem hk;rw[h1];exact h.known k _ (hl k _ h1)
 refine⟨h.os,h.tape.1,h.output,?_,hb⟩;refine zg6 fun hc=>?_;have h1:=hb W'.heap.size oM;rw[Array.getElem?_eq_none (lR _),Array.getElem?_eq_getElem oM] at h1;cases h1
theorem E6 {W:World}{a:Addr}{len cap:Nat}{xs:List Value}(hl:len≤cap)(hx:xs.length=len)(hc:∀ i x,xs[i]?=some x→W.cell? (a.add i)=some x):Sl (xm W) 1 (.slice (some a) len cap) len xs:=by
 refine⟨some a,cap,I,⟨oM,hl⟩,fun hne=>?_⟩;obtain ⟨b,o,sp⟩:=a;have h0:0<xs.length:=List.length_pos_iff.2 hne;have hc0:=hc 0 xs[0] (gE h0);have hsp:sp=none:=by simpa [Addr.add] using World.cell?_spot hc0
 subst hsp;have hadd:∀ i,(⟨b,o,none⟩:Addr).add i=⟨b,o+i,none⟩:=fun i=>by unfold Addr.add; split <;> simp_all
 simp only[hadd] at hc;have hcell:∀ i x,xs[i]?=some x→∃ cs T fr,W.heap[b]?=some (.cells cs T fr)∧cs[o+i]?=some x:=fun i x hi=>by
  have h1:=hc i x hi;unfold World.cell? at h1;split at h1
  ·rename_i cs T fr hh;exact⟨cs,T,fr,hh,by simpa using h1⟩
  ·cases h1
 obtain ⟨cs,T,fr,hb,_⟩:=hcell 0 xs[0] (gE h0);refine⟨b,o,cs,T,fr,I,hb,fun j x hj=>?_⟩;obtain ⟨cs',T',fr',hb',h2⟩:=hcell j x hj;rw[hb] at hb';cases hb';exact h2
section
variable {H:Type}{enc:TypeId×Value→H}{W:World}{base:Nat}{spare:Nat→Bool}{hd:Bool}
theorem Tryz.cells3:Tryz.prog.cellsOf 3=1:=by kernel_rfl
theorem Tryz.cells25:Tryz.prog.cellsOf 25=1:=by kernel_rfl
theorem Tryz.cells24:Tryz.prog.cellsOf 24=3:=by kernel_rfl
theorem Bh {fuel:Nat}{v:Value}{x:DataW H×List MemPlace}(h:DataW.trod enc Tryz.prog W base spare hd fuel 25 [v]=some x):∃ (l:List Int) (r:Sv),v = .slice r.p r.n r.c∧bT (xm W) v l:=by
 rcases open_ints ak uT3 cells3 h with ⟨hcs,_⟩ | ⟨a,len,cap,zs,hcs,_,hl,_,hz,_,hcell,_⟩
 ·simp at hcs;subst hcs;exact⟨[],⟨none,0,0⟩,I,zb8 _ _⟩
 ·simp at hcs;subst hcs;have hlz:len≤zs.length:=by rw[hz]; split <;> omega
  have hlen:(zs.take len).length=len:=by rw[ze1]; omega
  have he:(zs.take len).flatMap encInt.enc=(zs.take len).map vi:=by
   rw[List.flatMap_def];induction zs.take len with
   | nil=>rfl
   | cons y t ih=>simp[encInt] at ih ⊢; exact ih
  refine⟨zs.take len,⟨some a,len,cap⟩,I,?_⟩;show Sl (xm W) 1 _ (zs.take len).length ((zs.take len).flatMap encInt.enc);rw[he,hlen];refine E6 hl (by rw[ze3,hlen]) fun i y hi=>?_;rw[zh6] at hi;cases hc:(zs.take len)[i]? with
  | none=>rw[hc] at hi; cases hi
  | some z =>
   rw[hc] at hi;cases hi;have hil:i<(zs.take len).length:=(zf2.1 hc).1;have hi2:i<zs.length:=oM;rw[hcell i hi2];have:zs.getD i 0=z:=by
    rw[zh7] at hc;split at hc
    ·rw[zg7,hc]; rfl
    ·cases hc
   rw[this]
theorem yS {α β γ:Type}{R:α→β→Prop}{f:γ→α}{k:γ→β}:∀ {l:List γ},(∀ i∈l,R (f i) (k i))→aB R (l.map f) (l.map k)
 | [],_=>trivial
 | x::l,h=>⟨h x (by simp),yS fun i hi=>h i (by simp[hi])⟩
instance:Inhabited (List Int×Sv):=⟨([],⟨none,0,0⟩)⟩
theorem Ej {fuel:Nat}{v:Value}{x:DataW H×List MemPlace}(h:DataW.trod enc Tryz.prog W base spare hd fuel 22 [v]=some x):∃ ls,aF (xm W) v ls:=by
 rcases Go.Deep.open_slice1 bH cells25 h with ⟨hcs,_⟩ | ⟨a,len,cap,m,n,V,D,Pl,hcs,_,hl,_,hmm,_,hx⟩
 ·simp at hcs;subst hcs;exact⟨[],[],zb8 _ _,trivial⟩
 ·simp at hcs;subst hcs;have hlm:len≤m:=by rw[hmm]; split <;> omega
  obtain ⟨f,hf⟩:=Go.Deep.choose_lt (α:=List Int×Sv) (n:=len) (p:=fun i y=>V i = .slice y.2.p y.2.n y.2.c∧bT (xm W) (V i) y.1) fun i hi=>by
   obtain ⟨l,r,h1,h2⟩:=Bh (hx i oM).2;exact⟨(l,r),h1,h2⟩
  refine⟨(List.range len).map fun i=>(f i).1,(List.range len).map fun i=>(f i).2,?_,yS fun i hi=>?_⟩
  ·show Sl (xm W) 1 _ ((List.range len).map fun i=>(f i).2).length (((List.range len).map fun i=>(f i).2).flatMap encSv.enc);have he:((List.range len).map fun i=>(f i).2).flatMap encSv.enc=(List.range len).map fun i=>V i:=by
    have:∀ l:List Nat,(∀ i∈l,i<len)→(l.map fun i=>(f i).2).flatMap encSv.enc=l.map fun i=>V i:=by
     intro l;induction l with
     | nil=>intro _; rfl
     | cons y t ih =>
      intro hy;rw[zg1,zh2,ih fun i hi=>hy i (by simp[hi]),zg1,(hf y (hy y (by simp))).1];rfl
    exact this _ fun i hi=>List.mem_range.1 hi
   rw[he,ze3,zi1];refine E6 hl (by simp) fun i y hi=>?_;rw[zh6] at hi;cases hc:(List.range len)[i]? with
   | none=>rw[hc] at hi; cases hi
   | some z =>
    rw[hc] at hi;cases hi;obtain ⟨h1,h2⟩:=zf2.1 hc;simp at h1 h2;subst h2;exact (hx i oM).1
  ·have:=hf i (List.mem_range.1 hi);unfold bJ;rw[← this.1];exact this.2
theorem vh {r:Reach}{b0:Nat}{P:Program}{w:World}{t e:TypeId}{n:Nat}{v:Value}(ht:P.underlying t=some (.array n e))(h:Value.okWide P w r b0 t v):∃ cs,v = .agg cs∧cs.size=P.cellsOf t:=by
 simp only[Value.okWide,ht] at h;obtain ⟨cs,h1,h2,_⟩:=h;exact⟨cs,h1,h2⟩
theorem DE {r:Reach}{b0:Nat}{v:Value}{d:DataW H}{p:List MemPlace}(hv:Value.okWide Tryz.prog W r b0 24 v)(h:DataW.Trod enc Tryz.prog W base spare hd 24 v d p):∃ (k y:Int) (u:Value) (ls:List (List Int)),v = .agg #[vi k,u,vi y]∧aF (xm W) u ls:=by
 obtain ⟨c0,c1,c2,y0,y1,y2,n,rfl,_,_,h0,h1,h2⟩:=Go.Joins.open_agg3 kZ kR cells24 hv h;obtain ⟨a,e0,_,_⟩:=DataW.trod_int uT3 h0;obtain ⟨c,e2,_,_⟩:=DataW.trod_int uT3 h2;obtain ⟨ls,hls⟩:=Ej h1;simp at e0 e2;subst e0;subst e2;exact⟨a,c,c1,ls,I,hls⟩
end
end Go.Proofs.YtkbagdedfdfjhaaGreatDoor
namespace Go.Sy
open Go
section
variable {P:Program}{N:Nat}{E:World}{f:Fr}{g:PH}{s s1:Own}{dst:Option Tmp}{ty:TypeId}{pos:String}{af:Array Edge}{gd:Option (Nat×Bool)}{α:Type}{k:Nat}{e:Enc α k}
end
end Go.Sy
namespace Go.Proofs.YtkbagdedfdfjhaaGreatDoor
open _root_.Go.Proofs.Tryz _root_.Go.Proofs.YtkbagdedfdfjhaaGreatDoor.Tryz
open Go Go.Sy Go.Pl Go.Proofs
def ju (A:List Cl)(k:Int):Option (List Int):=(az A k).map fun c=>c.sides.map ai.cell
theorem qU (A:List Cl):∀ (n:Nat) (id:Int) (vis:List Int),ci A n id vis=dfs (ju A) n id vis
 | 0,_,_=>rfl
 | n+1,id,vis=>by
  rw[pC,jJ];unfold ju;cases az A id with
  | none=>rfl
  | some c =>
   simp only[Option.map_some,List.foldl_map];congr 2;funext v x;exact qU A n x.cell v
theorem uJ {A:List Cl}{k:Int}{l:List Int}(h:ju A k=some l):∃ c,az A k=some c∧c.sides.map ai.cell=l:=by
 unfold ju at h;cases hf:az A k with
 | none=>rw[hf] at h; cases h
 | some c=>rw[hf] at h; injection h with h; exact⟨c,I,h⟩
theorem wW (A:List Cl):∀ v k l,ju A k=some l→l≠[]→v.contains k=false→p8 A (v++[k])<p8 A v:=by
 intro v k l hl _ hv;obtain ⟨c,hf,_⟩:=uJ hl;obtain ⟨hm,rfl⟩:=bF hf;exact Bt hm hv
def vO (A:List Cl)(v:List Int):Prop:=∀ x∈v,∀ l,ju A x=some l→∀ y∈l,ju A y≠none→y∈v
theorem ux (A:List Cl):∀ (ids v:List Int),vO A v→vO A (ids.foldl (fun v id=>ci A (A.length+1) id v) v)∧(∀ x∈v,x∈ids.foldl (fun v id=>ci A (A.length+1) id v) v) ∧
  (∀ id∈ids,ju A id≠none→id∈ids.foldl (fun v id=>ci A (A.length+1) id v) v)∧∀ x∈ids.foldl (fun v id=>ci A (A.length+1) id v) v,x∈v∨∃ id∈ids,Rch (ju A) id x
 | [],v,h=>⟨h,fun _ h=>h,by simp,fun _ h=>.inl h⟩
 | id::ids,v,h=>by
  have hc:=jT (ju A) (p8 A) (fun v v' h=>o0 h) (wW A) (A.length+1) id v (zk7 (Bu _ _));have hs:=rS (ju A) (A.length+1) id v;have hd:=oX (ju A) (A.length+1) id v;rw[← qU] at hc hs hd;have hcl:vO A (ci A (A.length+1) id v):=by
   intro x hx l hl y hy hn;by_cases hv:x∈v
   ·exact hs y (h x hv l hl y hy hn)
   ·exact hc.2 x hx hv l hl y hy hn
  obtain ⟨h1,h2,h3,h4⟩:=ux A ids _ hcl;simp only[zi5];refine⟨h1,fun x hx=>h2 x (hs x hx),fun q hq hn=>?_,fun x hx=>?_⟩
  ·rcases ze7.1 hq with rfl | hq
   ·exact h2 _ (hc.1 hn)
   ·exact h3 q hq hn
  ·rcases h4 x hx with h5 | ⟨q,hq,h5⟩
   ·rcases hd x h5 with h6 | h6
    ·exact .inl h6
    ·exact .inr ⟨id,by simp,h6⟩
   ·exact .inr ⟨q,by simp[hq],h5⟩
theorem ia (A:List Cl)(ids:List Int)(x:Int):x∈cu A ids↔∃ id∈ids,Rch (ju A) id x:=by
 obtain ⟨h1,_,h3,h4⟩:=ux A ids [] (fun x hx=>absurd hx (by simp));refine⟨fun h=>(h4 x h).resolve_left (by simp),fun ⟨id,hid,hr⟩=>?_⟩;have key:∀ a b,Rch (ju A) a b→a∈cu A ids→b∈cu A ids:=by
  intro a b hr;induction hr with
  | refl a _=>exact fun h=>h
  | step a b c l hl hb r ih=>exact fun h=>ih (h1 a h l hl b hb r.node)
 exact key id x hr (h3 id hid hr.node)
def GW (A:List Cl)(m:List Int):Nat:=((A.filter fun c=>!m.contains c.id).map fun c=>c.sides.length).sum
structure Wide (A:List Cl)(ids left m:List Int):Prop where
 sound:∀ x∈m,∃ id∈ids,Rch (ju A) id x
 todo:∀ x∈left,ju A x≠none→∃ id∈ids,Rch (ju A) id x
 start:∀ x∈ids,ju A x≠none→x∈left∨x∈m
 sides:∀ x∈m,∀ l,ju A x=some l→∀ y∈l,ju A y≠none→y∈left∨y∈m
 few:left.length+GW A m≤ids.length+GW A []
theorem Rch.snoc {adj:Int→Option (List Int)}{a b c:Int}{l:List Int}(h:Rch adj a b)(hl:adj b=some l)(hc:c∈l)(hn:adj c≠none):Rch adj a c:=by
 induction h with
 | refl a _=>exact .step a c c l hl hc (.refl c hn)
 | step a b' c' l' h' hb' _ ih=>exact .step a b' c l' h' hb' (ih hl)
def sO (A B:List Cl)(id:Int):Bool:=match az B id with
 | some y=>decide ((az A id).getD gt=y)
 | none=>false
def ox (A B:List Cl)(c:Cl):Bool:=(cu A [c.id]).all (sO A B)
def An (A B:List Cl):List Cl:=A.filter (ox A B)
theorem Rch.last {adj:Int→Option (List Int)}{a b:Int}(h:Rch adj a b):adj b≠none:=by
 induction h with
 | refl _ h=>exact h
 | step _ _ _ _ _ _ _ ih=>exact ih
theorem yw {A:List Cl}{ids:List Int}{x:Int}(h:x∈cu A ids):∃ c,az A x=some c:=by
 obtain ⟨id,_,hr⟩:=(ia A ids x).1 h;have:=hr.last;unfold ju at this;cases hf:az A x with
 | none=>rw[hf] at this; simp at this
 | some c=>exact⟨c,rfl⟩
end Go.Proofs.YtkbagdedfdfjhaaGreatDoor
