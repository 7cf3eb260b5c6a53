/- Prr SyQ Mad1 Mad2 Mad3 Mad4 Mad5 Spo1 Frm FndS SyR Mee1 Mee3 Rgt1 Rgt2 Rgt3 Frm2 -/
import Derived.Test.YtackilpikhkijaaGreatDoorAl07
import Derived.Test.YtackilpikhkijaaGreatDoorAl03
import Derived.Test.YtackilpikhkijaaGreatDoorAl06
import Derived.Test.YtackilpikhkijaaGreatDoorAl05
import Derived.Test.YtackilpikhkijaaGreatDoorRows
import Derived.WalkKit
import Derived.ProofKit
import Derived.OpenShut
import Derived.ShutString
import Derived.ChangeOld
import Derived.Below
import Derived.Deep.Slices
import Derived.Lib.SmallJoins
import Derived.Laws.IdiomArrays
import Derived.Test.YtackilpikhkijaaGreatDoorAl04
import Derived.SizedLaws
set_option linter.unusedSimpArgs false
set_option linter.unusedVariables false
namespace Go.Proofs.YtackilpikhkijaaGreatDoor
open _root_.Go.Proofs.Tryz _root_.Go.Proofs.YtackilpikhkijaaGreatDoor.Tryz
open Go Go.Sy Go.Pl Go.Proofs
set_option maxRecDepth 100000
set_option maxHeartbeats 2000000
theorem dF {l:List Cl}(h:(aM l).2=0):l.length≤4000∧(aa l).Pairwise (fun a b=>a.id<b.id)∧am l=aa l∧∀ x∈aa l,cN (am l) x=0:=by
 unfold aM at h;split at h
 ·exact absurd h dC
 ·rename_i hl;cases hc:fV (am l) (aa l) 0 with
  | some p=>rw[hc] at h; exact absurd h (sD hc)
  | none =>
   have hst:=(j6 hc).2;exact⟨oM,hst,dN hst,kE hc⟩
theorem uo:∀ {l:List Int} {k:Nat} (h:k<l.length),l.Pairwise (· < ·)→lbI l l[k]=k:=by
 intro l;induction l with
 | nil=>intro k h; simp at h
 | cons a r ih =>
  intro k h hs;obtain ⟨h1,h2⟩:=List.pairwise_cons.1 hs;cases k with
  | zero =>
   unfold lbI;rw[List.length_eq_zero_iff,List.filter_eq_nil_iff];intro y hy
   rcases List.mem_cons.1 hy with rfl | hy
   ·simp
   ·have:=h1 y hy; simp; omega
  | succ k =>
   have hk:k<r.length:=by simpa using h
   have hlt:=h1 r[k] (gM hk);have:=ih hk h2;unfold lbI at this ⊢;simp[hlt,this]
theorem uE {tl:List Cl}(hs:(tl.map Cl.id).Pairwise (· ≤ ·)){id:Int}(h:(aA tl id).isSome=true):atC tl id=lbI (tl.map Cl.id) id:=by
 obtain ⟨c,hc⟩:=Option.isSome_iff_exists.1 h;have hm:(tl.map Cl.id).contains id=true:=by
  obtain ⟨h1,h2⟩:=gv hc;simp;exact⟨c,h1,h2⟩
 unfold atC;rw[if_pos hm]
def dq (a b:List Cl):Bool:=!decide ((aM a).2=0) || !decide ((aM b).2=0)||decide (((am a).length:Int) * (am b).length>4000)
def eS (a b:List Cl):List Cl:=if dq a b then [] else if (aM (e6 a b)).2=0 then aa (e6 a b) else []
theorem lr {α β:Type}{l:List α}{i:Nat}(h:i<l.length)(f:α→List β):(l.take (i+1)).flatMap f=(l.take i).flatMap f++f l[i]:=by
 rw[tS h,List.flatMap_append];simp
theorem eX (E:World)(g:PH)(s:Own)(v u:Value)(a b:List Cl)(hv:ao g v a)(hu:ao g u b)(ha:be a)(hb:be b) :
  Ctr Tryz.prog E 33 #[.agg #[v],.agg #[u]] g s (fun r g' s'=>s=s'∧Le g g'∧∃ x,r = .agg #[x]∧ao g' x (eS a b)):=by
 obtain ⟨vp0,vc0,hvf⟩:=hv.form;obtain ⟨up0,uc0,huf⟩:=hu.form;have hbadA:¬ (aM a).2=0→dq a b=true:=fun h=>by simp[dq,h]
 have hbadB:(aM a).2=0→¬ (aM b).2=0→dq a b=true:=fun h h2=>by simp[dq,h2]
 have hbadC:(aM a).2=0→(aM b).2=0→dq a b=decide (((am a).length:Int) * (am b).length>4000):=fun h h2=>by simp[dq,h,h2]
 have hta:=m8 a;have htb:=m8 b;have hmul:(aM a).2=0→(aM b).2=0→((am a).length:Int) * (am b).length≤16000000∧0≤((am a).length:Int) * (am b).length:=fun h h2=>tt (Nat.le_trans hta (dF h).1) (Nat.le_trans htb (dF h2).1);refine Ctr.of (args:=[.agg #[v],.agg #[u]]) func33 I ntmps33 (bE I) ?_;refine rZ (bW (bO I) fun b2=>?_);refine bW (bO I) fun b3=>?_;refine bW (aL zeroValue29) fun b4=>?_;refine tZ (rZ (lK (qV 2 ar ag I I I) (lW (cL call65 I (dv E g _ _ a hv ha)) ?_)));rintro _ g1 _ ⟨rfl,rfl,hle1⟩;refine aT I (rZ (lK (qV 1 ar ag I I I) (lW (cL call65 I (dv E g1 _ _ b (hu.mono hle1) hb)) ?_)));rintro _ g2 _ ⟨rfl,rfl,hle2⟩;refine aT I (rZ (lK (qV 2 ar ag I I I) (lW (cL call66 I (df E g2 _ _ a (hv.mono (hle1.trans hle2)) ha)) ?_)));rintro v24 g3 _ ⟨rfl,hle3,hA⟩;refine aT I (rZ (lK (qV 1 ar ag I I I) (lW (cL call66 I (df E g3 _ _ b (hu.mono (hle1.trans (hle2.trans hle3))) hb)) ?_)));rintro v26 g4 _ ⟨rfl,hle4,hB⟩;obtain ⟨ra,hra0,halla0⟩:=hA;have hra:=hra0.mono hle4;have halla:=halla0.mono fun _ _=>aw.mono hle4;obtain ⟨rb,hrb,hallb⟩:=hB;have eal:=halla.length;have ebl:=hallb.length;obtain ⟨pa,ca,rfl⟩:=hra.form;obtain ⟨pb,cb,rfl⟩:=hrb.form;refine aT I (sQ ?_);refine SC.cutB 40 ((dq a b)) ?_ ?_
 ·refine rG (lM I (lU (SU.notP I) (lM I ?_)));refine sP ?_ ?_
  ·intro h29;refine lZ I I I (lZ I I I (lU (wT I I) (lM I (lZ I I I (lZ I I I (lZ I I I (lZ I I I (lZ I I I (lZ I I I (lU (wT I I) (nL ?_)))))))))));exact ST.mid1 (by (rw[hbadA h29]; rfl)) mI
  ·intro h29;refine lY I I I (mV I) (lY I I I (SU.notP I) (lU (wF I I) (lM I ?_)));refine sP ?_ ?_
   ·intro h33;refine lZ I I I (lZ I I I (lZ I I I (lZ I I I (lZ I I I (lZ I I I (lU (wT I I) (nL ?_)))))));exact ST.mid1 (by (rw[hbadB (Decidable.of_not_not h29) h33]; rfl)) mI
   ·intro h33;refine lY I I I (mV I) (lY I I I (eN aH I) (lY I I I (mV I) (lY I I I (eN aH I) (lY I I I (SU.mul I I (by have:=hmul (Decidable.of_not_not h29) (Decidable.of_not_not h33); rw[eal,ebl] at this; omega)) ?_))));refine lY I I I (gR I I) (lU (wF I I) (nL ?_));exact ST.mid1 (by (rw[hbadC (Decidable.of_not_not h29) (Decidable.of_not_not h33),eal,ebl]; rfl)) mI
 refine iQ I (fun hbad=>?_) (fun hbad=>?_)
 ·refine rZ (lU (SU.build I (buildE29)) (oZ (sK 0 ag I I I I I sB) ?_));refine tZ (rE (tR ?_));exact ST.retCD 0 s (.inl I) results33 I ar ag I I uR ⟨I,hle1.trans (hle2.trans (hle3.trans hle4)),_,I,by unfold eS; rw[if_pos hbad]; exact⟨[],Sl.nil _ _,trivial⟩⟩
 ·have hra0:(aM a).2=0:=Decidable.of_not_not fun h=>by rw[hbadA h] at hbad; cases hbad
  have hrb0:(aM b).2=0:=Decidable.of_not_not fun h=>by rw[hbadB hra0 h] at hbad; cases hbad
  have hsz:((am a).length:Int) * (am b).length≤4000:=by rw[hbadC hra0 hrb0] at hbad; simp at hbad; omega
  obtain ⟨hal,hastr,hat,haf⟩:=dF hra0;obtain ⟨hbl,hbstr,hbt,hbf⟩:=dF hrb0;rw[← hat] at hastr haf;rw[← hbt] at hbstr hbf;have hats:=gC a;have hbts:=gC b;have hai:((am a).map Cl.id).Pairwise (· < ·):=List.pairwise_map.2 hastr;have hbi:((am b).map Cl.id).Pairwise (· < ·):=List.pairwise_map.2 hbstr;have hall4:am a=aa a→am b=aa b→e6 a b=(am a).flatMap fun x=>(am b).map (dE (am a) (am b) x):=fun h h2=>by unfold e6; rw[← h,← h2]
  have hprod:=hall4 hat hbt;have hCa:ao g4 (.slice pa ra.length ca) (am a):=⟨ra,hra,halla⟩;have hCb:ao g4 (.slice pb rb.length cb) (am b):=⟨rb,hrb,hallb⟩;refine kP (tN (sW I (lU (eN aH I) (aT I (rZ (bW (aL zeroValue29) fun b10=>?_))))));refine tZ (sQ (rZ (aT I (bK (SC.nilRow 53 3 ?_)))));refine oP (ι:=PH×Value×List Rc×Nat) (fun i=>[(2,pp b2 0),(3,pp b3 0),(4,pp b4 0),(7,.slice pa ra.length ca),(8,.slice pb rb.length cb),(9,vi rb.length),(10,pp b10 0),(11,vi i.2.2.2)]) (fun i=>i.1) (fun i=>rowA encCell 53 i.2.1 i.2.2.1::pt b10 (.cells #[i.2.1] 29 (0,0))::pt b4 (.cells #[.slice none 0 0] 29 (0,0))::pt b3 (.cells #[u] 29 (0,0))::pt b2 (.cells #[v] 29 (0,0))::s)
   (fun i=>Le g4 i.1∧i.2.2.2≤ra.length∧aC (aw i.1) (((am a).take i.2.2.2).flatMap fun x=>(am b).map (dE (am a) (am b) x)) i.2.2.1) (fun i=>ra.length - i.2.2.2)
   (g4,.slice none 0 0,[],0) sB rfl rfl ⟨Le.refl g4,Nat.zero_le _,trivial⟩ ?_
  rintro ⟨g5,ov,rcs,i⟩ ⟨hle5,hi,hrcs⟩;dsimp only at hle5 hi hrcs ⊢;refine sQ (sW I (lM I (lU (eN aH I) (lU (lS I I) (tZ ?_)))));refine iP I (fun hlt=>?_) (fun hlt=>?_)
  ·have hil:i<(am a).length:=oM;have hir:i<ra.length:=oM;have hb1:=hra.based oM;have hxr:=halla.get (gE hil) (gE hir);have hgx0:ra[((i:Nat):Int).toNat]?=some ra[i]:=gE hir;have hxm:=gM hil;have hxi:lbI ((am a).map Cl.id) (am a)[i].id=i:=by
    have:=uo (l:=(am a).map Cl.id) (k:=i) (by simpa using hil) hai;simpa using this
   have hsucc:=lr hil fun x=>(am b).map (dE (am a) (am b) x);generalize hxe:(am a)[i]=x at *;obtain ⟨xp,xcap,hrx,hxs⟩:=ee hxr;rw[hrx] at hgx0;have hgx:=hgx0;have hxf:=haf x hxm;have hxd:=uw hxf;have hxo:=iw hxf;have hxfd:=lj hxf;refine kP (tN (sQ (bK (rZ (aT I (bK ?_))))));refine oP (ι:=PH×Value×List Rc×Nat) (fun k=>[(2,pp b2 0),(3,pp b3 0),(4,pp b4 0),(7,.slice pa ra.length ca),(8,.slice pb rb.length cb),(9,vi rb.length),(10,pp b10 0),(11,vi i),(12,vi k.2.2.2)]) (fun k=>k.1) (fun k=>rowA encCell 53 k.2.1 k.2.2.1::pt b10 (.cells #[k.2.1] 29 (0,0))::pt b4 (.cells #[.slice none 0 0] 29 (0,0))::pt b3 (.cells #[u] 29 (0,0))::pt b2 (.cells #[v] 29 (0,0))::s)
    (fun k=>Le g5 k.1∧k.2.2.2≤rb.length∧aC (aw k.1) ((((am a).take i).flatMap fun x=>(am b).map (dE (am a) (am b) x))++((am b).take k.2.2.2).map (dE (am a) (am b) x)) k.2.2.1) (fun k=>rb.length - k.2.2.2)
    (g5,ov,rcs,0) sB rfl rfl ⟨Le.refl g5,Nat.zero_le _,by simpa using hrcs⟩ ?_
   rintro ⟨g6,ov2,rcs2,k⟩ ⟨hle6,hk,hrcs2⟩;dsimp only at hle6 hk hrcs2 ⊢;refine sQ (sW I (lM I (lU (lS I I) (tZ ?_))));refine iP I (fun hlt2=>?_) (fun hlt2=>?_)
   ·have hkl:k<(am b).length:=oM;have hkr:k<rb.length:=oM;have hb2:=hrb.based oM;have hyr:=hallb.get (gE hkl) (gE hkr);have hgy0:rb[((k:Nat):Int).toNat]?=some rb[k]:=gE hkr;have hym:=gM hkl;have hyi:lbI ((am b).map Cl.id) (am b)[k].id=k:=by
     have:=uo (l:=(am b).map Cl.id) (k:=k) (by simpa using hkl) hbi;simpa using this
    have htk:((am b).take (k+1)).map (dE (am a) (am b) x)=((am b).take k).map (dE (am a) (am b) x)++[dE (am a) (am b) x (am b)[k]]:=by rw[tS hkl,List.map_append]; rfl
    generalize hye:(am b)[k]=y at *;obtain ⟨yp,ycap,hry,hys⟩:=ee hyr;rw[hry] at hgy0;have hgy:=hgy0;have hyf:=hbf y hym;have hyd:=uw hyf;have hyo:=iw hyf;have hyfd:=lj hyf;have hlenr:=hrcs2.length;have hbnd:(i:Int) * rb.length≤4000:=by
     have h1:(i:Int) * rb.length≤(ra.length:Int) * rb.length:=Int.mul_le_mul_of_nonneg_right oM oM;rw[eal,ebl] at hsz;omega
    have hbnd0:0≤(i:Int) * rb.length:=Int.mul_nonneg oM oM;have hrcl:rcs2.length≤4000:=by
     have h1:rcs2.length=i * rb.length+k:=by
      rw[← hlenr,List.length_append,List.length_map,List.length_take,jY,List.length_take,← ebl];rw[Nat.min_eq_left oM,Nat.min_eq_left oM]
     have h2:i * rb.length+k≤ra.length * rb.length:=by
      have h3:(i+1) * rb.length≤ra.length * rb.length:=Nat.mul_le_mul_right _ oM;rw[Nat.succ_mul] at h3;omega
     have h4:((ra.length * rb.length:Nat):Int)≤4000:=by rw[eal,ebl] at hsz; rw[Int.natCast_mul]; exact hsz
     omega
    have hid:bh (am a) (am b) x.id y.id=(i:Int) * rb.length+k+1:=by unfold bh; rw[hxi,hyi,ebl]
    have hra6:=hra.mono (hle5.trans hle6);have hrb6:=hrb.mono (hle5.trans hle6);have hxs6:=hxs.mono (hle5.trans hle6);have hys6:=hys.mono (hle5.trans hle6);refine kP (tN (sQ (bK (sQ ?_))));refine dW [] [(0,2),(1,2),(2,2),(3,2),(4,2),(5,2),(6,2),(7,2),(8,2),(9,2),(10,1),(11,2),(12,2),(13,2),(14,2),(15,1),(16,2),(17,2),(18,0),(19,0)] Tryz.mixed kR ?_;refine pU I (mV I) (pU I (mV I) (pU I (SU.mul I I oM) (pU I (mV I) (pU I (aD I I oM) (pU I (aD I I oM) (pU I (mV I) (pU I (mV I) (pU I (iA aH au I I hb1 oM sL) (pU I (fC aq I zT3 I hb1) (pK I (aZ (e:=encCell) (o:=1) (u:=vi x.dim) iT3 I hra6.rd hgx I) (pU I (mV I) (pU I (mV I) (pU I (iA aH au I I hb2 oM sL) (pU I (fC aq I zT3 I hb2) (pK I (aZ (e:=encCell) (o:=1) (u:=vi y.dim) iT3 I hrb6.rd hgy I) (pU I (aD I I oM) (pU I (SU.build I (buildC53 _ _)) (SP.o I (aL zeroValue53) dC (.inr iR) ?_))))))))))))))))));rintro _ _ _ ⟨b13,rfl,rfl,rfl⟩;refine SP.on I (sK 0 au I I I I I sB) (.inr iR) ?_;rintro _ _ _ ⟨rfl,rfl⟩;refine pN (tN (sQ (rZ (aT I (bK ?_)))));refine SC.to (fun w hw=>?_) (g':=g6) (s':=pt b13 (.cells #[vi (bh (am a) (am b) x.id y.id),vi (x.dim+y.dim),.slice none 0 0] 53 (0,0))::rowA encCell 53 ov2 rcs2::pt b10 (.cells #[ov2] 29 (0,0))::pt b4 (.cells #[.slice none 0 0] 29 (0,0))::pt b3 (.cells #[u] 29 (0,0))::pt b2 (.cells #[v] 29 (0,0))::s) ?_
    ·rw[hid]; exact hw
    refine SC.nilRow 55 2 ?_;refine oP (ι:=Value×Nat) (fun j=>[(2,pp b2 0),(3,pp b3 0),(4,pp b4 0),(7,.slice pa ra.length ca),(8,.slice pb rb.length cb),(9,vi rb.length),(10,pp b10 0),(11,vi i),(12,vi k),(13,pp b13 0),(14,vi j.2)]) (fun _=>g6)
     (fun j=>rowA encSide 55 j.1 ((x.sides.take j.2).map fun q=>(⟨bh (am a) (am b) q.cell y.id,q.sign⟩:Side))::pt b13 (.cells #[vi (bh (am a) (am b) x.id y.id),vi (x.dim+y.dim),j.1] 53 (0,0))::rowA encCell 53 ov2 rcs2::pt b10 (.cells #[ov2] 29 (0,0))::pt b4 (.cells #[.slice none 0 0] 29 (0,0))::pt b3 (.cells #[u] 29 (0,0))::pt b2 (.cells #[v] 29 (0,0))::s)
     (fun j=>j.2≤x.sides.length) (fun j=>x.sides.length - j.2) (.slice none 0 0,0) sB rfl rfl (Nat.zero_le _) ?_
    rintro ⟨sv,j⟩ hj;dsimp only at hj ⊢;refine sQ (sW I (lM I (lM I (lU (iA aH au I I hb1 oM sL) (lU (fC aq I aU I hb1) (lK (aZ (e:=encCell) (o:=2) (u:=.slice xp x.sides.length xcap) bw I hra6.rd hgx I) (lU (eN aN I) (lU (lS I I) (tZ ?_)))))))));refine iP I (fun hlt3=>?_) (fun hlt3=>?_)
    ·have hjl:j<x.sides.length:=oM;have hb3:=hxs6.based oM;have hjx:x.sides[((j:Nat):Int).toNat]?=some x.sides[j]:=gE hjl;have htj:(x.sides.take (j+1)).map (fun q=>(⟨bh (am a) (am b) q.cell y.id,q.sign⟩:Side))=(x.sides.take j).map (fun q=>(⟨bh (am a) (am b) q.cell y.id,q.sign⟩:Side))++[⟨bh (am a) (am b) x.sides[j].cell y.id,x.sides[j].sign⟩]:=by rw[tS hjl,List.map_append]; rfl
     have hqf:=hxfd _ (gM hjl);generalize x.sides[j]=z at *;have hatz:=uE hats hqf;have hlbz:=z7 ((am a).map Cl.id) z.cell;rw[List.length_map] at hlbz;have hidz:bh (am a) (am b) z.cell y.id=((lbI ((am a).map Cl.id) z.cell:Nat):Int) * rb.length+k+1:=by unfold bh; rw[hyi,ebl]
     have hbz:((lbI ((am a).map Cl.id) z.cell:Nat):Int) * rb.length≤4000:=by
      have h1:((lbI ((am a).map Cl.id) z.cell:Nat):Int) * rb.length≤(ra.length:Int) * rb.length:=Int.mul_le_mul_of_nonneg_right oM oM;rw[eal,ebl] at hsz;omega
     have hbz0:0≤((lbI ((am a).map Cl.id) z.cell:Nat):Int) * rb.length:=Int.mul_nonneg oM oM;refine kP (tN (sQ (bK (sW I (lM I (lU (iA aH au I I hb1 oM sL) (lU (fC aq I aU I hb1) (lK (aZ (e:=encCell) (o:=2) (u:=.slice xp x.sides.length xcap) bw I hra6.rd hgx I) (lM I (lU (iA aN aG I I hb3 oM sL) (lK (eA eu aG I hxs6.rd hjx) (bW (aL zeroValue55) fun b15=>?_))))))))))));refine oZ (sK 0 aG I I I I I sB) ?_;refine tZ ?_;refine SC.to (fun w hw=>hw) (g':=g6) (s':=pt b15 (.cells #[vi z.cell,vi z.sign] 55 (0,0))::rowA encSide 55 sv ((x.sides.take j).map fun q=>(⟨bh (am a) (am b) q.cell y.id,q.sign⟩:Side))::pt b13 (.cells #[vi (bh (am a) (am b) x.id y.id),vi (x.dim+y.dim),sv] 53 (0,0))::rowA encCell 53 ov2 rcs2::pt b10 (.cells #[ov2] 29 (0,0))::pt b4 (.cells #[.slice none 0 0] 29 (0,0))::pt b3 (.cells #[u] 29 (0,0))::pt b2 (.cells #[v] 29 (0,0))::s) ?_;refine dW [15,16,17] [(0,2),(1,1),(2,2),(3,2),(4,1),(6,2),(8,2),(11,2),(12,1),(5,0),(7,2),(9,2),(10,2),(13,2),(14,0),(15,0),(16,0),(17,0)] Tryz.mixed kR ?_;refine pU I (fA aq I aU I) (pK I (qL (v:=sv) bw I (cO 2 I I)) (pU I (mV I) (pU I (fA cl I zT3 I) (pK I (qL (v:=vi z.cell) iT3 I (cO 0 I I)) (pU I (mV I) (pU I (mV I) (pU I (fA cl I zT3 I) (pK I (qL (v:=vi z.sign) iT3 I (cO 0 I I)) (SP.o I (cL call67 I (gL E g6 _ _ (am a) z.cell (hCa.mono (hle5.trans hle6)) oM hats)) dC (.inr iR) ?_)))))))));rintro _ _ _ ⟨rfl,rfl,rfl⟩;rw[hatz];refine pU I (SU.mul I I oM) (pU I (aD I I oM) (pU I (SU.eq (v':=vi (bh (am a) (am b) z.cell y.id)) (aD I I oM) (congrArg vi hidz.symm)) (pU I (SU.build I (buildS55 _ _)) (SP.o I (bS sty32 I I I (ae sB) dC) dC (.inr iR) ?_))));rintro _ _ _ ⟨b105,rfl,rfl,rfl⟩;refine SP.o I (aP (e:=encSide) 1 ⟨bh (am a) (am b) z.cell y.id,z.sign⟩ sty32 I I I I I (by simp; omega) (by simp; omega)) dC (.inl dC) ?_;rintro sv' _ _ ⟨rfl,rfl⟩;rw[← htj];refine SP.facts fun ⟨w0,hw0⟩=>?_;obtain ⟨q6,d6,rfl⟩:=ah (i:=1) hw0 rfl;clear hw0 w0;refine oU rfl (fA aq rfl aU rfl) dC (.inl dC) (SP.on rfl (SO.store1 2 aU rfl rfl rfl rfl (bE rfl) (by rfl)) (.inl dC) ?_);rintro _ _ _ ⟨rfl,rfl⟩;refine pN (bN (tN (rG (lM I (lU (aD I I oM) (lA I (nL (dR (s':=rowA encSide 55 (.slice q6 ((x.sides.take (j+1)).map fun q=>(⟨bh (am a) (am b) q.cell y.id,q.sign⟩:Side)).length d6) ((x.sides.take (j+1)).map fun q=>(⟨bh (am a) (am b) q.cell y.id,q.sign⟩:Side))::pt b13 (.cells #[vi (bh (am a) (am b) x.id y.id),vi (x.dim+y.dim),.slice q6 ((x.sides.take (j+1)).map fun q=>(⟨bh (am a) (am b) q.cell y.id,q.sign⟩:Side)).length d6] 53 (0,0))::rowA encCell 53 ov2 rcs2::pt b10 (.cells #[ov2] 29 (0,0))::pt b4 (.cells #[.slice none 0 0] 29 (0,0))::pt b3 (.cells #[u] 29 (0,0))::pt b2 (.cells #[v] 29 (0,0))::s) (.cons _ (.refl _)) ?_))))))));exact gA (_,j+1) sB I I lN lN
    ·have hjj:x.sides.take j=x.sides:=tL oM;rw[hjj];generalize hfl1:x.sides.map (fun q=>(⟨bh (am a) (am b) q.cell y.id,q.sign⟩:Side))=fl1 at *;have hfl1l:fl1.length=x.sides.length:=by rw[← hfl1,List.length_map]
     refine xI (tX (tX (bX (tN (sQ (rZ (aT I (bK ?_))))))));refine oP (ι:=Value×Nat) (fun m=>[(2,pp b2 0),(3,pp b3 0),(4,pp b4 0),(7,.slice pa ra.length ca),(8,.slice pb rb.length cb),(9,vi rb.length),(10,pp b10 0),(11,vi i),(12,vi k),(13,pp b13 0),(16,vi m.2)]) (fun _=>g6)
      (fun m=>rowA encSide 55 m.1 (fl1++(y.sides.take m.2).map fun q=>(⟨bh (am a) (am b) x.id q.cell,eh x.dim * q.sign⟩:Side))::pt b13 (.cells #[vi (bh (am a) (am b) x.id y.id),vi (x.dim+y.dim),m.1] 53 (0,0))::rowA encCell 53 ov2 rcs2::pt b10 (.cells #[ov2] 29 (0,0))::pt b4 (.cells #[.slice none 0 0] 29 (0,0))::pt b3 (.cells #[u] 29 (0,0))::pt b2 (.cells #[v] 29 (0,0))::s)
      (fun m=>m.2≤y.sides.length) (fun m=>y.sides.length - m.2) (sv,0) sB rfl (by simp) (Nat.zero_le _) ?_
     rintro ⟨sv2,m⟩ hm;dsimp only at hm ⊢;refine sQ (sW I (lM I (lM I (lU (iA aH au I I hb2 oM sL) (lU (fC aq I aU I hb2) (lK (aZ (e:=encCell) (o:=2) (u:=.slice yp y.sides.length ycap) bw I hrb6.rd hgy I) (lU (eN aN I) (lU (lS I I) (tZ ?_)))))))));refine iP I (fun hlt4=>?_) (fun hlt4=>?_)
     ·have hml:m<y.sides.length:=oM;have hb3:=hys6.based oM;have hmx:y.sides[((m:Nat):Int).toNat]?=some y.sides[m]:=gE hml;have htm:fl1++(y.sides.take (m+1)).map (fun q=>(⟨bh (am a) (am b) x.id q.cell,eh x.dim * q.sign⟩:Side))=fl1++(y.sides.take m).map (fun q=>(⟨bh (am a) (am b) x.id q.cell,eh x.dim * q.sign⟩:Side))++[⟨bh (am a) (am b) x.id y.sides[m].cell,eh x.dim * y.sides[m].sign⟩]:=by rw[tS hml,List.map_append]; simp
      have hqf:=hyfd _ (gM hml);have hqs:=hyo.2 _ (gM hml);generalize y.sides[m]=z at *;have hatz:=uE hbts hqf;have hlbz:=z7 ((am b).map Cl.id) z.cell;rw[List.length_map] at hlbz;have hidz:bh (am a) (am b) x.id z.cell=(i:Int) * rb.length+((lbI ((am b).map Cl.id) z.cell:Nat):Int)+1:=by unfold bh; rw[hxi,ebl]
      have hsgn:z.sign * eh x.dim=eh x.dim * z.sign:=Int.mul_comm _ _;have hsgc:=s7 x.dim;have htmod:x.dim.tmod 2=x.dim % 2:=Int.tmod_eq_emod_of_nonneg hxd.1;have hmulb : -1≤z.sign * eh x.dim∧z.sign * eh x.dim≤1:=by rcases hqs with h | h <;> rcases hsgc with h2 | h2 <;> rw[h,h2] <;> decide
      refine kP (tN (sQ (bK (sW I (lM I (lU (iA aH au I I hb2 oM sL) (lU (fC aq I aU I hb2) (lK (aZ (e:=encCell) (o:=2) (u:=.slice yp y.sides.length ycap) bw I hrb6.rd hgy I) (lM I (lU (iA aN aG I I hb3 oM sL) (lK (eA eu aG I hys6.rd hmx) (bW (aL zeroValue55) fun b17=>?_))))))))))));refine oZ (sK 0 aG I I I I I sB) ?_;refine tZ ?_;refine SC.to (fun w hw=>hw) (g':=g6) (s':=pt b17 (.cells #[vi z.cell,vi z.sign] 55 (0,0))::rowA encSide 55 sv2 (fl1++(y.sides.take m).map fun q=>(⟨bh (am a) (am b) x.id q.cell,eh x.dim * q.sign⟩:Side))::pt b13 (.cells #[vi (bh (am a) (am b) x.id y.id),vi (x.dim+y.dim),sv2] 53 (0,0))::rowA encCell 53 ov2 rcs2::pt b10 (.cells #[ov2] 29 (0,0))::pt b4 (.cells #[.slice none 0 0] 29 (0,0))::pt b3 (.cells #[u] 29 (0,0))::pt b2 (.cells #[v] 29 (0,0))::s) ?_;refine dW [24,25,26] [(0,2),(1,1),(2,2),(3,2),(4,2),(5,2),(6,2),(7,1),(11,2),(12,1),(13,2),(14,2),(15,2),(16,2),(17,1),(18,2),(19,2),(20,2),(21,2),(8,0),(9,2),(10,2),(22,2),(23,0),(24,0),(25,0),(26,0)] Tryz.mixed kR ?_;refine pU I (fA aq I aU I) (pK I (qL (v:=sv2) bw I (cO 2 I I)) (pU I (mV I) (pU I (mV I) (pU I (SU.mul I I oM) (pU I (mV I) (pU I (fA cl I zT3 I) (pK I (qL (v:=vi z.cell) iT3 I (cO 0 I I)) (pU I (fA cl I zT3 I) (pK I (qL (v:=vi z.sign) iT3 I (cO 0 I I)) (pU I (mV I) (pU I (mV I) (pU I (iA aH au I I hb1 oM sL) (pU I (fC aq I zT3 I hb1) (pK I (aZ (e:=encCell) (o:=1) (u:=vi x.dim) iT3 I hra6.rd hgx I) (pU I (SU.eq (v':=vi (x.dim % 2)) (SU.rem I I dC) (congrArg vi htmod)) (pU I (SU.mul I I oM) (pU I (SU.eq (v':=vi (eh x.dim)) (sU I I oM) I) (pU I (SU.eq (v':=vi (eh x.dim * z.sign)) (SU.mul I I oM) (congrArg vi hsgn)) (SP.o I (cL call67 I (gL E g6 _ _ (am b) z.cell (hCb.mono (hle5.trans hle6)) oM hbts)) dC (.inr iR) ?_)))))))))))))))))));rintro _ _ _ ⟨rfl,rfl,rfl⟩;rw[hatz];refine pU I (aD I I oM) (pU I (SU.eq (v':=vi (bh (am a) (am b) x.id z.cell)) (aD I I oM) (congrArg vi hidz.symm)) (pU I (SU.build I (buildS55 _ _)) (SP.o I (bS sty32 I I I (ae sB) dC) dC (.inr iR) ?_)));rintro _ _ _ ⟨b149,rfl,rfl,rfl⟩;refine SP.o I (aP (e:=encSide) 1 ⟨bh (am a) (am b) x.id z.cell,eh x.dim * z.sign⟩ sty32 I I I I I (by simp; omega) (by simp; omega)) dC (.inl dC) ?_;rintro sv3 _ _ ⟨rfl,rfl⟩;rw[← htm];refine SP.facts fun ⟨w0,hw0⟩=>?_;obtain ⟨q7,d7,rfl⟩:=ah (i:=1) hw0 rfl;clear hw0 w0;refine oU rfl (fA aq rfl aU rfl) dC (.inl dC) (SP.on rfl (SO.store1 2 aU rfl rfl rfl rfl (bE rfl) (by rfl)) (.inl dC) ?_);rintro _ _ _ ⟨rfl,rfl⟩;refine pN (bN (tN (rG (lM I (lU (aD I I oM) (lA I (nL (dR (s':=rowA encSide 55 (.slice q7 (fl1++(y.sides.take (m+1)).map fun q=>(⟨bh (am a) (am b) x.id q.cell,eh x.dim * q.sign⟩:Side)).length d7) (fl1++(y.sides.take (m+1)).map fun q=>(⟨bh (am a) (am b) x.id q.cell,eh x.dim * q.sign⟩:Side))::pt b13 (.cells #[vi (bh (am a) (am b) x.id y.id),vi (x.dim+y.dim),.slice q7 (fl1++(y.sides.take (m+1)).map fun q=>(⟨bh (am a) (am b) x.id q.cell,eh x.dim * q.sign⟩:Side)).length d7] 53 (0,0))::rowA encCell 53 ov2 rcs2::pt b10 (.cells #[ov2] 29 (0,0))::pt b4 (.cells #[.slice none 0 0] 29 (0,0))::pt b3 (.cells #[u] 29 (0,0))::pt b2 (.cells #[v] 29 (0,0))::s) (.cons _ (.refl _)) ?_))))))));exact gA (_,m+1) sB I I lN lN
     ·have hmm:y.sides.take m=y.sides:=tL oM;rw[hmm];have hpc:dE (am a) (am b) x y=⟨bh (am a) (am b) x.id y.id,x.dim+y.dim,fl1++y.sides.map fun q=>(⟨bh (am a) (am b) x.id q.cell,eh x.dim * q.sign⟩:Side)⟩:=by unfold dE; rw[hfl1]
      generalize hfl2:(fl1++y.sides.map fun q=>(⟨bh (am a) (am b) x.id q.cell,eh x.dim * q.sign⟩:Side))=fl2 at *;refine xI (tX (tX (bX (tN (rG (fR fun g7 hle7 hs7=>?_))))));have hsd:SlA encSide g7 sv2 fl2:=hs7;obtain ⟨q8,d8,rfl⟩:=SlA.form hsd;obtain ⟨nc,hnc⟩:∃ nc:Rc,nc=⟨bh (am a) (am b) x.id y.id,x.dim+y.dim,⟨q8,fl2.length,d8⟩⟩:=⟨_,rfl⟩;refine lU (fA c8 I cj I) (lK (qL dS I (cO 2 I I)) (lK (qV 0 du au I I I) (lW (bS sty27 I I I (ae sB) dC) ?_)));rintro _ _ _ ⟨b155,rfl,rfl,rfl⟩;refine lW (aP (e:=encCell) 1 nc sty27 rfl rfl rfl rfl (by rw[hnc]; rfl) oM oM) ?_;rintro v156 _ _ ⟨rfl,rfl⟩;refine SL.facts fun ⟨w0,hw0⟩=>?_;obtain ⟨q9,d9,rfl⟩:=ah (i:=1) hw0 rfl;clear hw0 w0;refine lU (fA c8 I cj I) (oZ (sK 2 cj I I I I I sB) ?_);refine nL (bN (tN (rG (lM I (lU (aD I I oM) (lA I (nL (dR (s':=rowA encCell 53 (.slice q9 (rcs2++[nc]).length d9) (rcs2++[nc])::pt b10 (.cells #[(.slice q9 (rcs2++[nc]).length d9)] 29 (0,0))::pt b4 (.cells #[.slice none 0 0] 29 (0,0))::pt b3 (.cells #[u] 29 (0,0))::pt b2 (.cells #[v] 29 (0,0))::s) (.cons _ (.refl _)) ?_))))))));refine gA (g7,_,rcs2++[nc],k+1) sB I I ⟨hle6.trans hle7,lN,?_⟩ lN;dsimp only;rw[htk,← List.append_assoc];exact (hrcs2.mono fun _ _=>aw.mono hle7).append ⟨(by rw[hpc,hnc]; exact⟨I,I,hsd⟩),trivial⟩
   ·have hkk:(am b).take k=am b:=tL oM;rw[hkk] at hrcs2;refine xI (tX (tX (bX (bN (tN (rG (lM I (lU (aD I I oM) (lA I (nL ?_))))))))));exact gA (g6,ov2,rcs2,i+1) sB I I ⟨hle5.trans hle6,lN,by dsimp only; rw[hsucc]; exact hrcs2⟩ lN
  ·have hii:(am a).take i=am a:=tL oM;rw[hii,← hprod] at hrcs;have hpl:(e6 a b).length≤4000:=by
    rw[hprod,jY];have h4:(((am a).length * (am b).length:Nat):Int)≤4000:=by rw[Int.natCast_mul]; exact hsz
    omega
   have hfit:be (e6 a b):=by
    refine⟨oM,fun c hc=>?_⟩;rw[hprod] at hc;obtain ⟨x,hx,hc⟩:=List.mem_flatMap.1 hc;obtain ⟨y,hy,rfl⟩:=List.mem_map.1 hc;have h1:=(iw (haf x hx)).1;have h2:=(iw (hbf y hy)).1;simp[dE];omega
   refine xI (tX (tX (bX (tN (sQ (fS fun g6 hle6 hs6=>?_))))));have hov:ao g6 ov (e6 a b):=⟨rcs,hs6,hrcs.mono fun _ _=>aw.mono hle6⟩;refine rG (lK (qV 0 ar ag I I I) (lW (cL call65 I (dv E g6 _ _ (e6 a b) hov hfit)) ?_));rintro _ g7 _ ⟨rfl,rfl,hle7⟩;refine aT I (sQ (sW I (lU (SU.notP I) (tZ ?_))));refine iP I (fun hr=>?_) (fun hr=>?_)
   ·refine rZ (lU (SU.build I (buildE29)) (oZ (sK 1 ag I I I I I sB) ?_));refine tZ (rE (tR ?_));exact ST.retCD 1 s (.inl I) results33 I ar ag I I uR ⟨I,hle1.trans (hle2.trans (hle3.trans (hle4.trans (hle5.trans (hle6.trans hle7))))),_,I,by unfold eS; rw[if_neg (by rw[hbad]; simp),if_neg hr]; exact⟨[],Sl.nil _ _,trivial⟩⟩
   ·refine kP (tN (rZ (lK (qV 0 ar ag I I I) (lW (cL call59 I (bT E g7 _ _ (e6 a b) (hov.mono hle7) hfit)) ?_))));rintro _ g8 _ ⟨rfl,hle8,x8,rfl,hx8⟩;obtain ⟨q8,d8,rfl⟩:=hx8.form;refine oZ (sK 1 ag I I I I I sB) ?_;refine tZ (rE ?_);exact ST.retCD 1 s (.inl I) results33 I ar ag I I uR ⟨I,hle1.trans (hle2.trans (hle3.trans (hle4.trans (hle5.trans (hle6.trans (hle7.trans hle8)))))),_,I,by unfold eS; rw[if_neg (by rw[hbad]; simp),if_pos (Decidable.of_not_not hr)]; exact hx8⟩
end Go.Proofs.YtackilpikhkijaaGreatDoor
namespace Go.Sy
open Go
section
variable {P:Program}{N:Nat}{E:World}{ops:Array Oper}{Q:Exit→Act→World→Prop}{g0:PH}{s0:Own}{tail:List Nat}{f:Fr}{g g':PH}{s s':Own}{L:Array Bool}{n:Nat}
theorem SX.to (h:∀ w,At E g s w→At E g' s' w)(hc:SX P N E ops Q g0 s0 tail L n f g' s'):SX P N E ops Q g0 s0 tail L n f g s:=fun a w h1 hcl ha hw hb=>hc a w h1 hcl ha (h w hw) hb
theorem SX.facts (h:(∃ w,At E g s w)→SX P N E ops Q g0 s0 tail L n f g s):SX P N E ops Q g0 s0 tail L n f g s:=fun a w h1 hcl ha hw hb=>h ⟨w,hw⟩ a w h1 hcl ha hw hb
theorem SX.freezeRow {T:TypeId}{k m:Nat}{v:Value}{xs:List Value}(h:∀ g',Le g g'→Sl g' k v m xs→SX P N E ops Q g0 s0 tail L n f g' s):SX P N E ops Q g0 s0 tail L n f g (row T k v m xs::s):=fun a w h1 hcl ha hw hb=>by
 obtain ⟨g',h3,h4,h5⟩:=hw.freezeRow;exact h g' h3 h5 a w h1 hcl ha h4 hb
end
end Go.Sy
namespace Go.Proofs.YtackilpikhkijaaGreatDoor
open _root_.Go.Proofs.Tryz _root_.Go.Proofs.YtackilpikhkijaaGreatDoor.Tryz
open Go Go.Sy Go.Pl Go.Proofs
set_option maxRecDepth 100000
def mJ (ls:List (List Int)):List (List Int):=(ls.take 5).map fun l=>(l.take 4).map fun x=>cY x 7
theorem gh {α β:Type}{l:List α}{i:Nat}(h:i<l.length)(f:α→β):(l.take (i+1)).map f=(l.take i).map f++[f l[i]]:=by
 rw[tS h,List.map_append]; rfl
theorem kr (E:World)(g:PH)(s:Own)(v:Value)(ls:List (List Int))(hv:cR g v ls) :
  Ctr Tryz.prog E 31 #[v] g s (fun r g' s'=>∃ rs,s'=rowA ek 83 r rs::s∧Le g g'∧aC (dD g') (mJ ls) rs):=by
 obtain ⟨rs0,hrs0,hall0⟩:=hv;have hlen0:=hall0.length;obtain ⟨p,c,rfl⟩:=SlA.form hrs0;refine Ctr.of (args:=[.slice p rs0.length c]) func31 I ntmps31 (bE I) ?_;refine rZ (aT I (rZ (aT I (sQ (rZ (aT I (bK (SC.nilRow 83 1 ?_))))))));refine oP (ι:=PH×Value×List Sv×Nat) (fun i=>[(0,.slice p rs0.length c),(2,.slice none 0 0),(3,i.2.1),(4,vi i.2.2.2)]) (fun i=>i.1)
  (fun i=>rowA ek 83 i.2.1 i.2.2.1::s)
  (fun i=>Le g i.1∧i.2.2.2≤rs0.length∧i.2.2.2≤5∧aC (dD i.1) ((ls.take i.2.2.2).map fun l=>(l.take 4).map fun x=>cY x 7) i.2.2.1) (fun i=>rs0.length - i.2.2.2)
  (g,.slice none 0 0,[],0) sB rfl rfl ⟨Le.refl g,Nat.zero_le _,Nat.zero_le _,trivial⟩ ?_
 rintro ⟨g1,ov,rs,i⟩ ⟨hle,hi,hi5,hrs⟩;dsimp only at hle hi hi5 hrs ⊢;have hrl:=hrs.length;rw[List.length_map,List.length_take] at hrl;have f1:(i:Int)<(rs0.length:Int)→(decide ((i:Int)<(rs0.length:Int))&&decide ((i:Int)<5))=decide ((i:Int)<5):=fun h=>by simp[h]
 have f2:¬ (i:Int)<(rs0.length:Int)→(decide ((i:Int)<(rs0.length:Int))&&decide ((i:Int)<5))=false:=fun h=>by simp only[h,decide_false,Bool.false_and]
 refine sQ ?_;refine SC.cutB 14 ((decide ((i:Int)<(rs0.length:Int))&&decide ((i:Int)<5))) ?_ ?_
 ·refine rG (lM I (lM I (lU (eN eD I) (lU (lS I I) (lM I ?_)))));refine sP ?_ ?_
  ·intro h11;refine lY I I I (mV I) (lY I I I (lS I I) (lU (wT I I) (nL ?_)));exact ST.mid1 (by (rw[f1 h11]; rfl)) mI
  ·intro h11;refine lZ I I I (lZ I I I (lU (wF I I) (nL ?_)));exact ST.mid1 (by (rw[f2 h11]; rfl)) mI
 refine iQ I (fun hc=>?_) (fun hc=>?_)
 ·rw[Bool.and_eq_true,decide_eq_true_iff,decide_eq_true_iff] at hc;have hil:i<ls.length:=oM;have hir:i<rs0.length:=oM;have hb1:=hrs0.based oM;have hR:=(hall0.get (gE hil) (gE hir)).mono hle;have hRl:=hR.len;have hsucc:=gh hil fun l=>(l.take 4).map fun x=>cY x 7;generalize hx:ls[i]=x at *;generalize hr:rs0[i]=r at *;obtain ⟨rp,rn,rc⟩:=r;dsimp only at hRl;subst hRl;have hxs:dJ g1 (.slice rp x.length rc) x:=hR;have hgr:rs0[((i:Nat):Int).toNat]?=some ⟨rp,x.length,rc⟩:=by rw[← hr]; exact gE hir
  refine kP (tN (sQ (bK (rZ (aT I (sQ (rZ (aT I (bK (SC.nilRow 3 1 ?_))))))))));refine oP (ι:=Value×Nat) (fun k=>[(0,.slice p rs0.length c),(2,.slice none 0 0),(3,ov),(4,vi i),(5,k.1),(6,vi k.2)]) (fun _=>g1)
   (fun k=>rowA encInt 3 k.1 ((x.take k.2).map fun x=>cY x 7)::rowA ek 83 ov rs::s)
   (fun k=>k.2≤x.length∧k.2≤4) (fun k=>x.length - k.2) (.slice none 0 0,0) sB rfl rfl ⟨Nat.zero_le _,Nat.zero_le _⟩ ?_
  rintro ⟨iv,k⟩ ⟨hk,hk4⟩;dsimp only at hk hk4 ⊢;have f3:(k:Int)<(x.length:Int)→(decide ((k:Int)<(x.length:Int))&&decide ((k:Int)<4))=decide ((k:Int)<4):=fun h=>by simp[h]
  have f4:¬ (k:Int)<(x.length:Int)→(decide ((k:Int)<(x.length:Int))&&decide ((k:Int)<4))=false:=fun h=>by simp only[h,decide_false,Bool.false_and]
  refine sQ ?_;refine SC.cutB 27 ((decide ((k:Int)<(x.length:Int))&&decide ((k:Int)<4))) ?_ ?_
  ·refine rG (lM I (lM I (lM I (lU (iA eD gp I I hb1 oM sL) (lK (eB (u:=.slice rp x.length rc) jm I (hrs0.mono hle).rd hgr I) (lU (eN aI I) (lU (lS I I) (lM I ?_))))))));refine sP ?_ ?_
   ·intro h24;refine lY I I I (mV I) (lY I I I (lS I I) (lU (wT I I) (nL ?_)));exact ST.mid1 (by (rw[f3 h24]; rfl)) mI
   ·intro h24;refine lZ I I I (lZ I I I (lU (wF I I) (nL ?_)));exact ST.mid1 (by (rw[f4 h24]; rfl)) mI
  refine iQ I (fun hc2=>?_) (fun hc2=>?_)
  ·rw[Bool.and_eq_true,decide_eq_true_iff,decide_eq_true_iff] at hc2;have hkl:k<x.length:=oM;have hb2:=SlA.based hxs oM;have hks:=gh hkl fun x=>cY x 7;have hgk:x[((k:Nat):Int).toNat]?=some x[k]:=gE hkl;generalize x[k]=y at *;refine kP (tN (sQ (bK (rG (lM I (lM I (lM I (lU (iA eD gp I I hb1 oM sL) (lK (eB (u:=.slice rp x.length rc) jm I (hrs0.mono hle).rd hgr I) (lM I (lU (iA aI zT3 I I hb2 oM sL) (lK (eB iT3 I (SlA.rd hxs) hgk I) (lW (cL kp I (bI E g1 _ y 7 dC)) ?_)))))))))))));rintro _ _ _ ⟨rfl,rfl,rfl⟩;refine lW (bS sty83 I I I (ae sB) dC) ?_;rintro _ _ _ ⟨b39,rfl,rfl,rfl⟩;refine lW (aP (e:=encInt) 0 (cY y 7) sty83 I I I I I (by rw[List.length_map,List.length_take]; omega) (by rw[List.length_map,List.length_take]; omega)) ?_;rintro iv' _ _ ⟨rfl,rfl⟩;refine lA I (nL (bN (tN (rG (lM I (lU (aD I I oM) (lA I (nL ?_))))))));refine ST.to (fun w hw=>?_) (g':=g1) (s':=rowA encInt 3 iv' ((x.take (k+1)).map fun x=>cY x 7)::rowA ek 83 ov rs::s) ?_
   ·rw[hks]; exact hw
   exact gA (iv',k+1) sB I I ⟨lN,lN⟩ lN
  ·have hxk:x.take k=x.take 4:=by
    rw[Bool.and_eq_false_iff,decide_eq_false_iff_not,decide_eq_false_iff_not] at hc2;by_cases h4:k=4
    ·rw[h4]
    ·rw[tL oM,tL oM]
   rw[hxk];refine xI (tX (tX (bX (tN (fS fun g2 hle2 hs2=>?_)))));have hiv:dJ g2 iv ((x.take 4).map fun x=>cY x 7):=hs2;obtain ⟨q2,d2,rfl⟩:=SlA.form hiv;obtain ⟨nl,hnl⟩:∃ nl,nl=((x.take 4).map fun x=>cY x 7).length:=⟨_,rfl⟩;refine rG (lM I (lM I (lW (bS sty22 I I I (ae sB) dC) ?_)));rintro _ _ _ ⟨b43,rfl,rfl,rfl⟩;refine lW (aP (e:=ek) 0 ⟨q2,((x.take 4).map fun x=>cY x 7).length,d2⟩ sty22 I I I I I oM oM) ?_;rintro ov' _ _ ⟨rfl,rfl⟩;refine lA I (nL (bN (tN (rG (lM I (lU (aD I I oM) (lA I (nL ?_))))))));refine gA (g2,ov',rs++[⟨q2,((x.take 4).map fun x=>cY x 7).length,d2⟩],i+1) sB I I ⟨hle.trans hle2,lN,lN,?_⟩ lN;dsimp only;rw[hsucc];exact (hrs.mono fun _ _=>dD.mono hle2).append ⟨hiv,trivial⟩
 ·have hls:ls.take i=ls.take 5:=by
   rw[Bool.and_eq_false_iff,decide_eq_false_iff_not,decide_eq_false_iff_not] at hc;by_cases h5:i=5
   ·rw[h5]
   ·rw[tL oM,tL oM]
  rw[hls] at hrs;refine xI (tX (tX (bX (tN (sW I (aT I (rE ?_)))))));exact ST.ret1 (.inl I) results31 I ⟨rs,I,hle,hrs⟩
def lm (id k:Int):Int:=if k=1 then id else IntKind.i64.wrap ((IntKind.i64.wrap (id * k)).tmod 211+1)
theorem jD (E:World)(g:PH)(s:Own)(a k:Int):Ctr Tryz.prog E 68 #[vi a,vi k] g s
  (fun r g' s'=>r=vi (lm a k)∧g=g'∧s=s'):=by
 refine Ctr.of (args:=[vi a,vi k]) func68 I ntmps68 (bE I) ?_;refine rZ (aT I (sQ (sW I (lU (eQ I I) (tZ ?_)))));refine iP I (fun h1=>?_) (fun h1=>?_)
 ·refine sW I (aT I (rE (tR ?_)));exact ST.ret1 (.inl I) results68 I ⟨by simp[lm,h1],I,I⟩
 ·refine kP (tN (sW I (lM I (lU (SU.mulW I I) (lU (SU.rem I I dC) (lU (SU.addW I I) (aT I (rE ?_))))))));exact ST.ret1 (.inl I) results68 I ⟨by simp[lm,h1],I,I⟩
theorem m5 (E:World)(g:PH)(s:Own)(a k:Int)(hk:k≠0):Ctr Tryz.prog E 69 #[vi a,vi k] g s
  (fun r g' s'=>r=vb (decide (a.tmod k=1))∧g=g'∧s=s'):=by
 refine Ctr.of (args:=[vi a,vi k]) func69 I ntmps69 (bE I) ?_;refine rZ (aT I (sW I (lM I (lU (SU.rem I I oM) (lU (eQ I I) (aT I (rE ?_)))))));exact ST.ret1 (.inl I) results69 I ⟨I,I,I⟩
theorem iW:∀ (all ls:List (List Int)),all.length≤4000→(∀ x∈all,x.length≤9)→∀ r,bP all ls=some r→r.length≤4000∧∀ x∈r,x.length≤9
 | all,[],h1,h2,r,h=>by cases h; exact⟨h1,h2⟩
 | all,t::ls,h1,h2,r,h=>by
  unfold bP at h;split at h
  ·exact iW all ls h1 h2 r h
  ·rename_i hb;split at h
   ·cases h
   ·rename_i hl;refine iW _ ls oM (fun x hx=>?_) r h
    rcases j8 hx with hx | hx
    ·exact h2 x hx
    ·refine hZ ?_ x hx;cases hT:dA t with
     | nil=>simp
     | cons a r =>
      rw[hT] at hb;simp only[jx,Bool.or_eq_true,decide_eq_true_iff,not_or] at hb;omega
theorem ec (ls:List (List Int)):be (fu ls)∧(fu ls).length≤4000:=by
 unfold fu;cases h:bP [] ls with
 | none=>exact⟨⟨by simp,by simp⟩,by simp⟩
 | some all =>
  obtain ⟨h1,h2⟩:=iW [] ls (by simp) (by simp) all h;have h3:(aa (bG all)).length≤4000:=by rw[bU,de]; exact h1
  exact⟨bg (jM h1 h2),h3⟩
theorem eW (a b:List Cl):be (eS a b)∧(eS a b).length≤4000:=by
 unfold eS;split
 ·exact⟨⟨by simp,by simp⟩,by simp⟩
 ·rename_i hbad;split
  ·have ha:(aM a).2=0:=Decidable.of_not_not fun h=>hbad (by simp[dq,h]);have hb:(aM b).2=0:=Decidable.of_not_not fun h=>hbad (by simp[dq,h]);have hsz:((am a).length:Int) * (am b).length≤4000:=by
    refine Decidable.of_not_not fun h=>hbad ?_;have:((am a).length:Int) * (am b).length>4000:=oM;simp[dq,this]
   obtain ⟨_,_,hat,haf⟩:=dF ha;obtain ⟨_,_,hbt,hbf⟩:=dF hb;rw[← hat] at haf;rw[← hbt] at hbf;have hprod:e6 a b=(am a).flatMap fun x=>(am b).map (dE (am a) (am b) x):=by unfold e6; rw[← hat,← hbt]
   have hpl:(e6 a b).length≤4000:=by
    rw[hprod,jY];have h4:(((am a).length * (am b).length:Nat):Int)≤4000:=by rw[Int.natCast_mul]; exact hsz
    omega
   have hfit:be (e6 a b):=by
    refine⟨oM,fun c hc=>?_⟩;rw[hprod] at hc;obtain ⟨x,hx,hc⟩:=List.mem_flatMap.1 hc;obtain ⟨y,hy,rfl⟩:=List.mem_map.1 hc;have h1:=(iw (haf x hx)).1;have h2:=(iw (hbf y hy)).1;simp[dE];omega
   exact⟨bg hfit,by rw[bU]; exact hpl⟩
  ·exact⟨⟨by simp,by simp⟩,by simp⟩
def sH:List Cl:=eS (fu [[0,1],[1,2],[0,2]]) (fu [[0,1],[1,2],[0,2]])
theorem uT (E:World)(g:PH)(s:Own):Ctr Tryz.prog E 35 #[] g s (fun r g' s'=>s=s'∧Le g g'∧∃ u,r = .agg #[u]∧ao g' u sH):=by
 have hf:=(ec [[0,1],[1,2],[0,2]]).1;refine Ctr.of (args:=[]) func35 I ntmps35 (bE I) ?_;refine rZ (bW (aL zeroValue29) fun b0=>?_);refine tZ (rZ (lW (bS sty83 I I I (ae sB) dC) ?_));rintro _ _ _ ⟨b2,rfl,rfl,rfl⟩;refine SL.freeze fun g1 hle1 hb2=>?_;refine lW (bS sty83 I I I (ae sB) dC) ?_;rintro _ _ _ ⟨b3,rfl,rfl,rfl⟩;refine SL.freeze fun g2 hle2 hb3=>?_;refine lW (bS sty83 I I I (ae sB) dC) ?_;rintro _ _ _ ⟨b4,rfl,rfl,rfl⟩;refine SL.freeze fun g3 hle3 hb4=>?_;refine lW (bS sty22 I I I (ae sB) dC) ?_;rintro _ _ _ ⟨b5,rfl,rfl,rfl⟩;refine SL.freeze fun g4 hle4 hb5=>?_;have hlit:cR g4 (.slice (some ⟨b5,0,none⟩) 3 3) [[0,1],[1,2],[0,2]]:=⟨[ja (.slice (some ⟨b2,0,none⟩) 2 2),ja (.slice (some ⟨b3,0,none⟩) 2 2),ja (.slice (some ⟨b4,0,none⟩) 2 2)],SlA.lit hb5 rfl rfl,⟨SlA.lit (hle4 _ _ (hle3 _ _ (hle2 _ _ hb2))) rfl rfl,SlA.lit (hle4 _ _ (hle3 _ _ hb3)) rfl rfl,SlA.lit (hle4 _ _ hb4) rfl rfl,trivial⟩⟩;refine lW (cL call30 I (aY E g4 _ _ _ hlit dC dC)) ?_;rintro _ g5 _ ⟨rfl,hle5,u,rfl,hu⟩;obtain ⟨q,d,rfl⟩:=hu.form;refine bW (aL zeroValue29) fun b1=>?_;refine oZ (sK 0 ag I I I I I sB) ?_;refine tZ (rZ (lK (qV 0 ar ag I I I) (lK (qV 0 ar ag I I I) (lW (cL call33 I (eX E g5 _ _ _ _ _ hu hu hf hf)) ?_))));rintro _ g6 _ ⟨rfl,hle6,x,rfl,hx⟩;obtain ⟨q6,d6,rfl⟩:=hx.form;refine oZ (sK 1 ag I I I I I sB) ?_;refine tZ (rE ?_);exact ST.retCD 1 s (.inl I) results35 I ar ag I I uR ⟨I,hle1.trans (hle2.trans (hle3.trans (hle4.trans (hle5.trans hle6)))),_,I,hx⟩
theorem vf (ls:List (List Int)):(mJ ls).length≤5∧∀ x∈mJ ls,x.length≤4:=by
 refine⟨by simp[mJ]; omega,fun x hx=>?_⟩;obtain ⟨l,_,rfl⟩:=List.mem_map.1 hx;simp;omega
def Bn:List (List Int):=[[0,1,2],[0,1,3],[0,2,3],[1,2,3]]
def Bm:List (List Int):=[[0,1,2],[0,2,3],[0,3,4],[0,4,5],[0,1,5],[1,2,4],[2,3,5],[1,3,4],[2,4,5],[1,3,5]]
def rD (k:Nat):List (List Int):=(List.range k).flatMap fun (i:Nat)=>[[(i:Int),((i:Int)+1).tmod 7,((i:Int)+3).tmod 7],[(i:Int),((i:Int)+2).tmod 7,((i:Int)+3).tmod 7]]
def lz (n:Int):List (List Int):=if cY n 3=0 then Bn else if cY n 3=1 then Bm else rD 7
theorem og (k:Nat):rD (k+1)=rD k++[[(k:Int),((k:Int)+1).tmod 7,((k:Int)+3).tmod 7],[(k:Int),((k:Int)+2).tmod 7,((k:Int)+3).tmod 7]]:=by
 simp[rD,List.range_succ,List.flatMap_append]
theorem jq (k:Nat):(rD k).length=2 * k:=by
 induction k with
 | zero=>rfl
 | succ k ih=>rw[og,List.length_append,ih]; simp; omega
theorem lF (E:World)(g:PH)(s:Own)(n:Int):Ctr Tryz.prog E 32 #[vi n] g s (fun r g' s'=>s=s'∧Le g g'∧cR g' r (lz n)):=by
 refine Ctr.of (args:=[vi n]) func32 I ntmps32 (bE I) ?_;refine rZ (aT I (sQ (sW I (lW (cL kp I (bI E g _ n 3 dC)) ?_))));rintro _ _ _ ⟨rfl,rfl,rfl⟩;refine tZ (bK (rZ (lU (eQ I I) (aT I ?_))));refine iP I (fun h0=>?_) (fun h0=>?_)
 ·refine rZ (lW (bS sty83 I I I (ae sB) dC) ?_);rintro _ _ _ ⟨b9,rfl,rfl,rfl⟩;refine SL.freeze fun g1 hle1 hb9=>?_;refine lW (bS sty83 I I I (ae sB) dC) ?_;rintro _ _ _ ⟨b10,rfl,rfl,rfl⟩;refine SL.freeze fun g2 hle2 hb10=>?_;refine lW (bS sty83 I I I (ae sB) dC) ?_;rintro _ _ _ ⟨b11,rfl,rfl,rfl⟩;refine SL.freeze fun g3 hle3 hb11=>?_;refine lW (bS sty83 I I I (ae sB) dC) ?_;rintro _ _ _ ⟨b12,rfl,rfl,rfl⟩;refine SL.freeze fun g4 hle4 hb12=>?_;refine lW (bS sty22 I I I (ae sB) dC) ?_;rintro _ _ _ ⟨b13,rfl,rfl,rfl⟩;refine SL.freeze fun g5 hle5 hb13=>?_;have hlit:cR g5 (.slice (some ⟨b13,0,none⟩) 4 4) Bn:=⟨[ja (.slice (some ⟨b9,0,none⟩) 3 3),ja (.slice (some ⟨b10,0,none⟩) 3 3),ja (.slice (some ⟨b11,0,none⟩) 3 3),ja (.slice (some ⟨b12,0,none⟩) 3 3)],SlA.lit hb13 rfl rfl,⟨SlA.lit (hle5 _ _ (hle4 _ _ (hle3 _ _ (hle2 _ _ hb9)))) rfl rfl,SlA.lit (hle5 _ _ (hle4 _ _ (hle3 _ _ hb10))) rfl rfl,SlA.lit (hle5 _ _ (hle4 _ _ hb11)) rfl rfl,SlA.lit (hle5 _ _ hb12) rfl rfl,trivial⟩⟩;refine aT I (rE (bR (tR ?_)));exact ST.ret1 (.inl I) results32 I ⟨I,(hle1.trans (hle2.trans (hle3.trans (hle4.trans hle5)))),by unfold lz; rw[if_pos h0]; exact hlit⟩
 ·refine rZ (lU (eQ I I) (aT I ?_));refine iP I (fun h1=>?_) (fun h1=>?_)
  ·refine rZ (lW (bS sty83 I I I (ae sB) dC) ?_);rintro _ _ _ ⟨b16,rfl,rfl,rfl⟩;refine SL.freeze fun g1 hle1 hb16=>?_;refine lW (bS sty83 I I I (ae sB) dC) ?_;rintro _ _ _ ⟨b17,rfl,rfl,rfl⟩;refine SL.freeze fun g2 hle2 hb17=>?_;refine lW (bS sty83 I I I (ae sB) dC) ?_;rintro _ _ _ ⟨b18,rfl,rfl,rfl⟩;refine SL.freeze fun g3 hle3 hb18=>?_;refine lW (bS sty83 I I I (ae sB) dC) ?_;rintro _ _ _ ⟨b19,rfl,rfl,rfl⟩;refine SL.freeze fun g4 hle4 hb19=>?_;refine lW (bS sty83 I I I (ae sB) dC) ?_;rintro _ _ _ ⟨b20,rfl,rfl,rfl⟩;refine SL.freeze fun g5 hle5 hb20=>?_;refine lW (bS sty83 I I I (ae sB) dC) ?_;rintro _ _ _ ⟨b21,rfl,rfl,rfl⟩;refine SL.freeze fun g6 hle6 hb21=>?_;refine lW (bS sty83 I I I (ae sB) dC) ?_;rintro _ _ _ ⟨b22,rfl,rfl,rfl⟩;refine SL.freeze fun g7 hle7 hb22=>?_;refine lW (bS sty83 I I I (ae sB) dC) ?_;rintro _ _ _ ⟨b23,rfl,rfl,rfl⟩;refine SL.freeze fun g8 hle8 hb23=>?_;refine lW (bS sty83 I I I (ae sB) dC) ?_;rintro _ _ _ ⟨b24,rfl,rfl,rfl⟩;refine SL.freeze fun g9 hle9 hb24=>?_;refine lW (bS sty83 I I I (ae sB) dC) ?_;rintro _ _ _ ⟨b25,rfl,rfl,rfl⟩;refine SL.freeze fun g10 hle10 hb25=>?_;refine lW (bS sty22 I I I (ae sB) dC) ?_;rintro _ _ _ ⟨b26,rfl,rfl,rfl⟩;refine SL.freeze fun g11 hle11 hb26=>?_;have hlit:cR g11 (.slice (some ⟨b26,0,none⟩) 10 10) Bm:=⟨[ja (.slice (some ⟨b16,0,none⟩) 3 3),ja (.slice (some ⟨b17,0,none⟩) 3 3),ja (.slice (some ⟨b18,0,none⟩) 3 3),ja (.slice (some ⟨b19,0,none⟩) 3 3),ja (.slice (some ⟨b20,0,none⟩) 3 3),ja (.slice (some ⟨b21,0,none⟩) 3 3),ja (.slice (some ⟨b22,0,none⟩) 3 3),ja (.slice (some ⟨b23,0,none⟩) 3 3),ja (.slice (some ⟨b24,0,none⟩) 3 3),ja (.slice (some ⟨b25,0,none⟩) 3 3)],SlA.lit hb26 rfl rfl,⟨SlA.lit (hle11 _ _ (hle10 _ _ (hle9 _ _ (hle8 _ _ (hle7 _ _ (hle6 _ _ (hle5 _ _ (hle4 _ _ (hle3 _ _ (hle2 _ _ hb16)))))))))) rfl rfl,SlA.lit (hle11 _ _ (hle10 _ _ (hle9 _ _ (hle8 _ _ (hle7 _ _ (hle6 _ _ (hle5 _ _ (hle4 _ _ (hle3 _ _ hb17))))))))) rfl rfl,SlA.lit (hle11 _ _ (hle10 _ _ (hle9 _ _ (hle8 _ _ (hle7 _ _ (hle6 _ _ (hle5 _ _ (hle4 _ _ hb18)))))))) rfl rfl,SlA.lit (hle11 _ _ (hle10 _ _ (hle9 _ _ (hle8 _ _ (hle7 _ _ (hle6 _ _ (hle5 _ _ hb19))))))) rfl rfl,SlA.lit (hle11 _ _ (hle10 _ _ (hle9 _ _ (hle8 _ _ (hle7 _ _ (hle6 _ _ hb20)))))) rfl rfl,SlA.lit (hle11 _ _ (hle10 _ _ (hle9 _ _ (hle8 _ _ (hle7 _ _ hb21))))) rfl rfl,SlA.lit (hle11 _ _ (hle10 _ _ (hle9 _ _ (hle8 _ _ hb22)))) rfl rfl,SlA.lit (hle11 _ _ (hle10 _ _ (hle9 _ _ hb23))) rfl rfl,SlA.lit (hle11 _ _ (hle10 _ _ hb24)) rfl rfl,SlA.lit (hle11 _ _ hb25) rfl rfl,trivial⟩⟩;refine aT I (rE (bR (tR ?_)));exact ST.ret1 (.inl I) results32 I ⟨I,(hle1.trans (hle2.trans (hle3.trans (hle4.trans (hle5.trans (hle6.trans (hle7.trans (hle8.trans (hle9.trans (hle10.trans hle11)))))))))),by unfold lz; rw[if_neg h0,if_pos h1]; exact hlit⟩
  ·refine kP (bN (tN (rZ (aT I (sQ (rZ (aT I (bK (SC.nilRow 83 1 ?_)))))))));refine oP (ι:=PH×Value×List Sv×Nat) (fun i=>[(3,i.2.1),(4,vi i.2.2.2)]) (fun i=>i.1)
    (fun i=>rowA ek 83 i.2.1 i.2.2.1::s)
    (fun i=>Le g i.1∧i.2.2.2≤7∧aC (dD i.1) (rD i.2.2.2) i.2.2.1) (fun i=>7 - i.2.2.2)
    (g,.slice none 0 0,[],0) sB rfl rfl ⟨Le.refl g,Nat.zero_le _,trivial⟩ ?_
   rintro ⟨g1,ov,rs,i⟩ ⟨hle,hi,hrs⟩;dsimp only at hle hi hrs ⊢;have hrl:=hrs.length;rw[jq] at hrl;refine sQ (sW I (lU (lS I I) (tZ ?_)));refine iP I (fun hlt=>?_) (fun hlt=>?_)
   ·have hi7:i<7:=oM;refine kP (tN (sQ (bK (rG (lM I (lM I (lM I (lU (aD I I oM) (lU (SU.rem I I dC) (lM I (lU (aD I I oM) (lU (SU.rem I I dC) (lW (bS sty83 I I I (ae sB) dC) ?_)))))))))))));rintro _ _ _ ⟨b39,rfl,rfl,rfl⟩;refine SL.freeze fun g2 hle2 hb39=>?_;refine lM I (lM I (lU (aD I I oM) (lU (SU.rem I I dC) (lM I (lU (aD I I oM) (lU (SU.rem I I dC) (lW (bS sty83 I I I (ae sB) dC) ?_)))))));rintro _ _ _ ⟨b47,rfl,rfl,rfl⟩;refine SL.freeze fun g3 hle3 hb47=>?_;refine lW (bS sty22 I I I (ae sB) dC) ?_;rintro _ _ _ ⟨b48,rfl,rfl,rfl⟩;refine SL.freeze fun g4 hle4 hb48=>?_;have hlit:SlA ek g4 (.slice (some ⟨b48,0,none⟩) 2 2) [⟨some ⟨b39,0,none⟩,3,3⟩,⟨some ⟨b47,0,none⟩,3,3⟩]:=SlA.lit hb48 rfl rfl;refine lW (aQ (e:=ek) 0 sty22 I I I hlit lN lN) ?_;rintro ov' _ _ ⟨rfl,rfl⟩;refine lA I (nL (bN (tN (rG (lM I (lU (aD I I oM) (lA I (nL ?_))))))));refine gA (g4,ov',rs++[⟨some ⟨b39,0,none⟩,3,3⟩,⟨some ⟨b47,0,none⟩,3,3⟩],i+1) sB I I ⟨hle.trans (hle2.trans (hle3.trans hle4)),lN,?_⟩ lN;dsimp only;rw[og];exact (hrs.mono fun _ _=>dD.mono (hle2.trans (hle3.trans hle4))).append ⟨SlA.lit (hle4 _ _ (hle3 _ _ hb39)) I I,SlA.lit (hle4 _ _ hb47) I I,trivial⟩
   ·have hi7:i=7:=oM;subst hi7;refine xI (tX (tX (bX (tN (sQ (fS fun g2 hle2 hs2=>?_))))));have hov:cR g2 ov (rD 7):=⟨rs,hs2,hrs.mono fun _ _=>dD.mono hle2⟩;refine rG (lM I (aT I (rE ?_)));exact ST.ret1 (.inl I) results32 I ⟨I,hle.trans hle2,by unfold lz; rw[if_neg h0,if_neg h1]; exact hov⟩
set_option maxHeartbeats 1000000
def kQ (k:Nat):List Cl:=(List.range k).map fun (i:Nat)=>⟨(i:Int)+1,0,[]⟩
def lC (n k:Nat):List Cl:=(List.range k).map fun (i:Nat)=>⟨(n:Int)+i+1,1,[⟨(i:Int)+1,-1⟩,⟨((i:Int)+1).tmod n+1,1⟩]⟩
def f9 (n k:Nat):List Side:=(List.range k).map fun (i:Nat)=>⟨(n:Int)+i+1,1⟩
def eO (n:Nat):List Cl:=kQ n++lC n n++[⟨2 * (n:Int)+1,2,f9 n n⟩]++(if (n:Int).tmod 2=0 then [⟨2 * (n:Int)+2,2,f9 n n⟩] else [])
def Bp (n:Nat):List Cl:=aa (eO n)
theorem vr (k:Nat):kQ (k+1)=kQ k++[⟨(k:Int)+1,0,[]⟩]:=by simp[kQ,List.range_succ]
theorem vv (n k:Nat):lC n (k+1)=lC n k++[⟨(n:Int)+k+1,1,[⟨(k:Int)+1,-1⟩,⟨((k:Int)+1).tmod n+1,1⟩]⟩]:=by simp[lC,List.range_succ]
theorem vu (n k:Nat):f9 n (k+1)=f9 n k++[⟨(n:Int)+k+1,1⟩]:=by simp[f9,List.range_succ]
theorem jr (n k:Nat):(f9 n k).length=k:=by simp[f9]
theorem lP {n:Nat}(h:n≤6):be (eO n)∧(eO n).length≤14:=by
 have hl:(eO n).length≤14:=by
  unfold eO;split <;> simp[kQ,lC] <;> omega
 refine⟨⟨oM,fun c hc=>?_⟩,hl⟩;unfold eO at hc
 rcases List.mem_append.1 hc with hc | hc
 ·rcases List.mem_append.1 hc with hc | hc
  ·rcases List.mem_append.1 hc with hc | hc
   ·obtain ⟨i,_,rfl⟩:=List.mem_map.1 hc;simp
   ·obtain ⟨i,_,rfl⟩:=List.mem_map.1 hc;simp
  ·simp at hc;subst hc;simp[jr];omega
 ·split at hc
  ·simp at hc;subst hc;simp[jr];omega
  ·simp at hc
theorem Tryz.buildD53 (x:Int)(w:World):(Instr.build 53 #[(0,vi x)]).run Tryz.prog w = .ok (.agg #[vi x,vi 0,.slice none 0 0]) w:=by
 have hz:(Value.agg #[vi 0,vi 0,Value.slice none 0 0]).cells = #[vi 0,vi 0,.slice none 0 0]:=rfl;have h1:∀ z:Int,(vi z).cells = #[vi z]:=fun _=>rfl;simp[Instr.build,Instr.fill,hz,h1]
theorem rV (E:World)(g:PH)(s:Own)(n:Nat)(h2:2≤n)(h6:n≤6) :
  Ctr Tryz.prog E 34 #[vi n] g s (fun r g' s'=>s=s'∧Le g g'∧∃ x,r = .agg #[x]∧ao g' x (Bp n)):=by
 have hnn:((n:Nat):Int)≠0:=oM;refine Ctr.of (args:=[vi n]) func34 I ntmps34 (bE I) ?_;refine rZ (bW (aL zeroValue29) fun b2=>?_);refine tZ (rZ (bW (aL zeroValue29) fun b3=>?_));refine tZ (sQ (rZ (aT I (bK (SC.nilRow 53 3 ?_)))));refine oP (ι:=Value×List Rc×Nat) (fun i=>[(0,vi n),(2,pp b2 0),(3,pp b3 0),(4,vi i.2.2)]) (fun _=>g)
  (fun i=>rowA encCell 53 i.1 i.2.1::pt b3 (.cells #[i.1] 29 (0,0))::pt b2 (.cells #[.slice none 0 0] 29 (0,0))::s)
  (fun i=>i.2.2≤n∧aC (aw g) (kQ i.2.2) i.2.1) (fun i=>n - i.2.2)
  (.slice none 0 0,[],0) sB rfl rfl ⟨Nat.zero_le _,trivial⟩ ?_
 rintro ⟨ov,rcs,i⟩ ⟨hi,hrcs⟩;dsimp only at hi hrcs ⊢;have hrl:=hrcs.length;simp only[kQ,List.length_map,List.length_range] at hrl;refine sQ (sW I (lM I (lU (lS I I) (tZ ?_))));refine iP I (fun hlt=>?_) (fun hlt=>?_)
 ·refine kP (tN (sQ (bK (rG (lU (fA c8 I cj I) (lK (qL (v:=ov) dS I (cO 1 I I)) (lM I (lU (aD I I oM) (lU (SU.build I (buildD53 _)) (lW (bS sty27 I I I (ae sB) dC) ?_))))))))));rintro _ _ _ ⟨b19,rfl,rfl,rfl⟩;refine lW (aP (e:=encCell) 0 ⟨(i:Int)+1,0,⟨none,0,0⟩⟩ sty27 I I I I I oM oM) ?_;rintro v20 _ _ ⟨rfl,rfl⟩;refine SL.facts fun ⟨w0,hw0⟩=>?_;obtain ⟨q9,d9,rfl⟩:=ah (i:=0) hw0 rfl;clear hw0 w0;refine lU (fA c8 I cj I) (oZ (sK 1 cj I I I I I sB) ?_);refine nL (bN (tN (rG (lM I (lU (aD I I oM) (lA I (nL ?_)))))));refine gA (_,rcs++[⟨(i:Int)+1,0,⟨none,0,0⟩⟩],i+1) sB I I ⟨lN,?_⟩ lN;dsimp only;rw[vr];exact hrcs.append ⟨⟨I,I,Sl.nil _ _⟩,trivial⟩
 ·have hin:i=n:=oM;subst hin;refine xI (tX (tX (bX (tN (rZ (aT I (sQ (rZ (aT I (bK (SC.nilRow 55 2 ?_)))))))))));refine oP (ι:=PH×Value×List Rc×Value×Nat) (fun k=>[(0,vi i),(2,pp b2 0),(3,pp b3 0),(5,k.2.2.2.1),(6,vi k.2.2.2.2)]) (fun k=>k.1)
   (fun k=>rowA encSide 55 k.2.2.2.1 (f9 i k.2.2.2.2)::rowA encCell 53 k.2.1 k.2.2.1::pt b3 (.cells #[k.2.1] 29 (0,0))::pt b2 (.cells #[.slice none 0 0] 29 (0,0))::s)
   (fun k=>Le g k.1∧k.2.2.2.2≤i∧aC (aw k.1) (kQ i++lC i k.2.2.2.2) k.2.2.1) (fun k=>i - k.2.2.2.2)
   (g,ov,rcs,.slice none 0 0,0) sB rfl rfl ⟨Le.refl g,Nat.zero_le _,by simpa [lC] using hrcs⟩ ?_
  rintro ⟨g1,ov1,rcs1,sv,k⟩ ⟨hle1,hk,hrcs1⟩;dsimp only at hle1 hk hrcs1 ⊢;have hrl1:=hrcs1.length;simp only[kQ,lC,List.length_append,List.length_map,List.length_range] at hrl1;have hsl:=jr i k;refine sQ (sW I (lM I (lU (lS I I) (tZ ?_))));refine iP I (fun hlt2=>?_) (fun hlt2=>?_)
  ·have hkm:0≤((k:Int)+1).tmod i∧((k:Int)+1).tmod i<i:=by
    rw[Int.tmod_eq_emod_of_nonneg oM];exact⟨Int.emod_nonneg _ hnn,Int.emod_lt_of_pos _ oM⟩
   refine kP (tN (sQ (bK (sW I (lU (aD I I oM) (lU (SU.build I (buildS55 _ _)) (bW (aL zeroValue55) fun b7=>?_)))))));refine oZ (sK 0 aG I I I I I sB) ?_;refine tZ (sW I (lU (aD I I oM) (lM I (lU (SU.rem I I hnn) (lU (aD I I oM) (lU (SU.build I (buildS55 _ _)) (bW (aL zeroValue55) fun b8=>?_)))))));refine oZ (sK 0 aG I I I I I sB) ?_;refine tZ (sQ ?_);refine SC.to (fun w hw=>hw) (g':=g1) (s':=pt b8 (.cells #[vi (((k:Int)+1).tmod i+1),vi 1] 55 (0,0))::pt b7 (.cells #[vi ((k:Int)+1),vi (-1)] 55 (0,0))::rowA encSide 55 sv (f9 i k)::rowA encCell 53 ov1 rcs1::pt b3 (.cells #[ov1] 29 (0,0))::pt b2 (.cells #[.slice none 0 0] 29 (0,0))::s) ?_;refine rG (lU (fA c8 I cj I) (lK (qL (v:=ov1) dS I (cO 4 I I)) (lM I (lM I (lU (aD I I oM) (lU (aD I I oM) (lK (qV 1 eu aG I I I) (lK (qV 0 eu aG I I I) (lW (bS sty32 I I I (ae sB) dC) ?_)))))))));rintro _ _ _ ⟨b44,rfl,rfl,rfl⟩;refine SL.freeze fun g2 hle2 hb44=>?_;have hsd:SlA encSide g2 (.slice (some ⟨b44,0,none⟩) 2 2) [⟨(k:Int)+1,-1⟩,⟨((k:Int)+1).tmod i+1,1⟩]:=SlA.lit hb44 rfl rfl;refine lU (SU.build I (buildF53 _ _ _ I)) (lW (bS sty27 I I I (ae sB) dC) ?_);rintro _ _ _ ⟨b46,rfl,rfl,rfl⟩;refine lW (aP (e:=encCell) 3 ⟨(i:Int)+k+1,1,⟨some ⟨b44,0,none⟩,2,2⟩⟩ sty27 I I I I I oM oM) ?_;rintro v47 _ _ ⟨rfl,rfl⟩;refine SL.facts fun ⟨w0,hw0⟩=>?_;obtain ⟨q9,d9,rfl⟩:=ah (i:=3) hw0 rfl;clear hw0 w0;refine lU (fA c8 I cj I) (oZ (sK 4 cj I I I I I sB) ?_);refine tZ (rG (lM I (lM I (lM I (lU (aD I I oM) (lU (aD I I oM) (lU (SU.build I (buildS55 _ _)) (lW (bS sty32 I I I (ae sB) dC) ?_))))))));rintro _ _ _ ⟨b55,rfl,rfl,rfl⟩;refine lW (aP (e:=encSide) 2 ⟨(i:Int)+k+1,1⟩ sty32 I I I I I oM oM) ?_;rintro v56 _ _ ⟨rfl,rfl⟩;refine lA I (nL (bN (tN (rG (lM I (lU (aD I I oM) (lA I (nL (dR (s':=rowA encSide 55 v56 (f9 i k++[⟨(i:Int)+k+1,1⟩])::rowA encCell 53 (.slice q9 (rcs1++[(⟨(i:Int)+k+1,1,⟨some ⟨b44,0,none⟩,2,2⟩⟩:Rc)]).length d9) (rcs1++[⟨(i:Int)+k+1,1,⟨some ⟨b44,0,none⟩,2,2⟩⟩])::pt b3 (.cells #[.slice q9 (rcs1++[(⟨(i:Int)+k+1,1,⟨some ⟨b44,0,none⟩,2,2⟩⟩:Rc)]).length d9] 29 (0,0))::pt b2 (.cells #[.slice none 0 0] 29 (0,0))::s) (.cons _ (.cons _ (.refl _))) ?_)))))))));rw[← vu];refine gA (g2,_,rcs1++[⟨(i:Int)+k+1,1,⟨some ⟨b44,0,none⟩,2,2⟩⟩],v56,k+1) sB I I ⟨hle1.trans hle2,lN,?_⟩ lN;dsimp only;rw[vv,← List.append_assoc];exact (hrcs1.mono fun _ _=>aw.mono hle2).append ⟨⟨I,I,hsd⟩,trivial⟩
  ·have hki:k=i:=oM;subst hki;refine xI (tX (tX (bX (tN (sQ (fS fun g2 hle2 hs2=>?_))))));have hsd:SlA encSide g2 sv (f9 k k):=hs2;obtain ⟨qs,ds,rfl⟩:=SlA.form hsd;have hrcs2:=hrcs1.mono fun _ _=>aw.mono hle2;refine rG (lU (fA c8 I cj I) (lK (qL (v:=ov1) dS I (cO 1 I I)) (lM I (lU (SU.mul I I oM) (lU (aD I I oM) (lM I (lU (SU.build I (buildF53 _ _ _ I)) (lW (bS sty27 I I I (ae sB) dC) ?_))))))));rintro _ _ _ ⟨b64,rfl,rfl,rfl⟩;refine lW (aP (e:=encCell) 0 ⟨2 * (k:Int)+1,2,⟨qs,(f9 k k).length,ds⟩⟩ sty27 I I I I I oM oM) ?_;rintro v65 _ _ ⟨rfl,rfl⟩;refine SL.facts fun ⟨w0,hw0⟩=>?_;obtain ⟨q9,d9,rfl⟩:=ah (i:=0) hw0 rfl;clear hw0 w0;refine lU (fA c8 I cj I) (oZ (sK 1 cj I I I I I sB) ?_);refine tZ (sQ (sW I (lU (SU.rem I I dC) (lU (eQ I I) (tZ ?_)))));have hrcs3:aC (aw g2) (kQ k++lC k k++[⟨2 * (k:Int)+1,2,f9 k k⟩]) (rcs1++[⟨2 * (k:Int)+1,2,⟨qs,(f9 k k).length,ds⟩⟩]):=hrcs2.append ⟨⟨rfl,rfl,hsd⟩,trivial⟩;obtain ⟨rc3,hrc3⟩:∃ rc3,rc3=rcs1++[(⟨2 * (k:Int)+1,2,⟨qs,(f9 k k).length,ds⟩⟩:Rc)]:=⟨_,rfl⟩;have hrc3l:rc3.length=rcs1.length+1:=by rw[hrc3]; simp
   rw[← hrc3] at hrcs3 ⊢;have hfit:=(lP h6).1;refine iP I (fun hev=>?_) (fun hev=>?_)
   ·have hall:eO k=kQ k++lC k k++[⟨2 * (k:Int)+1,2,f9 k k⟩]++[⟨2 * (k:Int)+2,2,f9 k k⟩]:=by unfold eO; rw[if_pos hev]
    refine dW [10,11,12] [(0,2),(1,1),(2,2),(3,2),(4,2),(6,2),(5,0),(7,0),(8,2),(9,0),(10,0),(11,0),(12,0)] Tryz.mixed kR ?_;refine pU I (fA c8 I cj I) (pK I (qL (v:=.slice q9 rc3.length d9) dS I (cO 1 I I)) (pU I (mV I) (pU I (SU.mul I I oM) (pU I (aD I I oM) (pU I (mV I) (SP.o I (bS sty32 I I I (ae trivial) dC) dC (.inr iR) ?_))))));rintro _ _ _ ⟨b75,rfl,rfl,rfl⟩;refine SP.to (fun w hw=>(hw.sublist (List.Sublist.cons _ (.refl _))).emptyRow 55 2 (some ⟨b75,0,none⟩)) ?_;refine SP.o I (aQ (e:=encSide) (l:=[]) 0 sty32 I I I hsd lN lN) dC (.inr iR) ?_;rintro v77 _ _ ⟨rfl,rfl⟩;refine SP.freezeRow fun g77 hle77 hs77=>?_;have hsd2:SlA encSide g77 v77 ([]++f9 k k):=hs77;rw[List.nil_append] at hsd2;obtain ⟨q77,d77,rfl⟩:=SlA.form hsd2;refine pU I (SU.build I (buildF53 _ _ _ I)) (SP.o I (bS sty27 I I I (ae sB) dC) dC (.inr iR) ?_);rintro _ _ _ ⟨b79,rfl,rfl,rfl⟩;refine SP.o I (aP (e:=encCell) (l:=rc3) 0 ⟨2 * (k:Int)+2,2,⟨q77,(f9 k k).length,d77⟩⟩ sty27 I I I I I oM oM) dC (.inl dC) ?_;rintro v80 _ _ ⟨rfl,rfl⟩;refine SP.facts fun ⟨w0,hw0⟩=>?_;obtain ⟨q10,d10,rfl⟩:=ah (i:=0) hw0 rfl;clear hw0 w0;refine oU I (fA c8 I cj I) dC (.inl dC) (SP.on I (sK 1 cj I I I I I sB) (.inl dC) ?_);rintro _ _ _ ⟨rfl,rfl⟩;refine pN (tN (sQ (fS fun g78 hle78 hs78=>?_)));have hov:ao g78 (.slice q10 (rc3++[(⟨2 * (k:Int)+2,2,⟨q77,(f9 k k).length,d77⟩⟩:Rc)]).length d10) (eO k):=(by rw[hall]; exact⟨_,hs78,(hrcs3.mono fun _ _=>aw.mono (hle77.trans hle78)).append ⟨⟨rfl,rfl,hsd2.mono hle78⟩,trivial⟩⟩);refine rG (lK (qV 0 ar ag I I I) (lW (cL call59 I (bT E g78 _ _ (eO k) hov hfit)) ?_));rintro _ g79 _ ⟨rfl,hle79,x79,rfl,hx79⟩;obtain ⟨q79,d79,rfl⟩:=hx79.form;refine oZ (sK 1 ag I I I I I sB) ?_;refine tZ (rE ?_);exact ST.retCD 1 s (.inl I) results34 I ar ag I I uR ⟨I,hle1.trans (hle2.trans (hle77.trans (hle78.trans hle79))),_,I,hx79⟩
   ·have hall:eO k=kQ k++lC k k++[⟨2 * (k:Int)+1,2,f9 k k⟩]:=by unfold eO; rw[if_neg hev,List.append_nil]
    refine kP (tN (sQ (fS fun g78 hle78 hs78=>?_)));have hov:ao g78 (.slice q9 rc3.length d9) (eO k):=(by rw[hall]; exact⟨_,hs78,hrcs3.mono fun _ _=>aw.mono hle78⟩);refine rG (lK (qV 0 ar ag I I I) (lW (cL call59 I (bT E g78 _ _ (eO k) hov hfit)) ?_));rintro _ g79 _ ⟨rfl,hle79,x79,rfl,hx79⟩;obtain ⟨q79,d79,rfl⟩:=hx79.form;refine oZ (sK 1 ag I I I I I sB) ?_;refine tZ (rE ?_);exact ST.retCD 1 s (.inl I) results34 I ar ag I I uR ⟨I,hle1.trans (hle2.trans (hle78.trans hle79)),_,I,hx79⟩
theorem eK (a b:Int)(h0:0<b)(h1:b≤1000):0≤cY a b∧cY a b<b:=by
 have h2:a.tmod b<b:=Int.tmod_lt_of_pos a h0;have h3 : -b<a.tmod b:=by
  have:=Int.lt_tmod_of_pos a h0;omega
 unfold cY;rw[IntWalk.i64_in _ oM,Int.tmod_eq_emod_of_nonneg oM];exact⟨Int.emod_nonneg _ oM,Int.emod_lt_of_pos _ h0⟩
def B6 (y:Int):Int:=1+2 * cY (IntKind.i64.wrap (y.tdiv 7)) 3
def B4 (y:Int):Int:=cY (IntKind.i64.wrap (y.tdiv 5)) 4
def rC (t:Int)(x:Cl):Bool:=decide (t>1)&&decide (x.id.tmod t=1)
def nM (t:Int)(x:Cl)(q:Int):Bool:=(decide (t>1)&&decide (x.dim>1))&&decide (q.tmod t=1)
def yy (b:Bool)(a:Int):Int:=if b then IntKind.i64.wrap (0 - a) else a
def eL (k t:Int)(x:Cl)(q:Side):Side:=⟨lm q.cell k,yy (nM t x q.cell) (yy (rC t x) q.sign)⟩
def kS (k t:Int)(x:Cl):Cl:=⟨lm x.id k,x.dim,x.sides.map (eL k t x)⟩
def B7 (l:List Cl)(y:Int):List Cl:=aa (l.map (kS (B6 y) (B4 y)))
theorem ug {l:List Cl}(h:be l)(k t:Int):be (l.map (kS k t)):=by
 refine⟨by simpa using h.1,fun c hc=>?_⟩;obtain ⟨x,hx,rfl⟩:=List.mem_map.1 hc;simpa [kS] using h.2 x hx
theorem jy (E:World)(g:PH)(s:Own)(v:Value)(l:List Cl)(y:Int)(hv:ao g v l)(hf:be l) :
  Ctr Tryz.prog E 36 #[.agg #[v],vi y] g s (fun r g' s'=>s=s'∧Le g g'∧∃ x,r = .agg #[x]∧ao g' x (B7 l y)):=by
 obtain ⟨rs,hrs,hall⟩:=hv;have el:=hall.length;obtain ⟨p,c,rfl⟩:=hrs.form;have hll:=hf.1;have hk3:=eK (IntKind.i64.wrap (y.tdiv 7)) 3 dC dC;have ht4:=eK (IntKind.i64.wrap (y.tdiv 5)) 4 dC dC;refine Ctr.of (args:=[.agg #[.slice p rs.length c],vi y]) func36 I ntmps36 (bE I) ?_;refine rZ (bW (bO I) fun b2=>?_);refine bW (aL zeroValue29) fun b4=>?_;refine tZ (sW I (lU (SU.quo I I dC) (lW (cL kp I (bI E g _ _ 3 dC)) ?_)));rintro _ _ _ ⟨rfl,rfl,rfl⟩;refine lU (SU.mul I I oM) (lU (aD I I oM) (aT I (sW I (lU (SU.quo I I dC) (lW (cL kp I (bI E g _ _ 4 dC)) ?_)))));rintro _ _ _ ⟨rfl,rfl,rfl⟩;refine aT I (rZ (bW (aL zeroValue29) fun b7=>?_));refine tZ (sQ (rZ (aT I (bK (SC.nilRow 53 3 ?_)))));have hke:1+2 * cY (IntKind.i64.wrap (y.tdiv 7)) 3=B6 y:=rfl;have hte:cY (IntKind.i64.wrap (y.tdiv 5)) 4=B4 y:=rfl;rw[hte] at ht4;unfold B7;simp only[hke,hte];generalize B6 y=k at *;generalize B4 y=t at *;refine oP (ι:=PH×Value×List Rc×Nat) (fun i=>[(2,pp b2 0),(4,pp b4 0),(5,vi k),(6,vi t),(7,pp b7 0),(8,vi i.2.2.2)]) (fun i=>i.1) (fun i=>rowA encCell 53 i.2.1 i.2.2.1::pt b7 (.cells #[i.2.1] 29 (0,0))::pt b4 (.cells #[.slice none 0 0] 29 (0,0))::pt b2 (.cells #[.slice p rs.length c] 29 (0,0))::s)
  (fun i=>Le g i.1∧i.2.2.2≤rs.length∧aC (aw i.1) ((l.take i.2.2.2).map (kS k t)) i.2.2.1) (fun i=>rs.length - i.2.2.2)
  (g,.slice none 0 0,[],0) sB rfl rfl ⟨Le.refl g,Nat.zero_le _,trivial⟩ ?_
 rintro ⟨g1,ov,rcs,i⟩ ⟨hle,hi,hrcs⟩;dsimp only at hle hi hrcs ⊢;have hrl:=hrcs.length;rw[List.length_map,List.length_take] at hrl;refine sQ (sW I (lU (fA c8 I cj I) (lK (qL (v:=.slice p rs.length c) dS I (cO 3 I I)) (lU (eN aH I) (lU (lS I I) (tZ ?_))))));refine iP I (fun hlt=>?_) (fun hlt=>?_)
 ·have hil:i<l.length:=oM;have hir:i<rs.length:=oM;have hb1:=hrs.based oM;have hxr:=(hall.get (gE hil) (gE hir)).mono hle;have hgx:rs[((i:Nat):Int).toNat]?=some rs[i]:=gE hir;have hsucc:=gh hil (kS k t);have hxl:=hf.2 _ (gM hil);generalize hxe:l[i]=x at *;obtain ⟨xp,xcap,hrx,hxs⟩:=ee hxr;rw[hrx] at hgx;refine kP (tN (sQ (bK (rZ (lU (fA c8 I cj I) (lK (qL (v:=.slice p rs.length c) dS I (cO 3 I I)) (lM I (lU (iA aH au I I hb1 oM sL) (lK (eA du au I (hrs.mono hle).rd hgx) (bW (aL zeroValue53) fun b9=>?_))))))))));refine oZ (sK 0 au I I I I I sB) ?_;refine tZ ?_;refine SC.to (fun w hw=>hw) (g':=g1) (s':=pt b9 (.cells #[vi x.id,vi x.dim,.slice xp x.sides.length xcap] 53 (0,0))::rowA encCell 53 ov rcs::pt b7 (.cells #[ov] 29 (0,0))::pt b4 (.cells #[.slice none 0 0] 29 (0,0))::pt b2 (.cells #[.slice p rs.length c] 29 (0,0))::s) ?_;refine SC.cut (ι:=Nat) (fun b10=>[(2,pp b2 0),(4,pp b4 0),(5,vi k),(6,vi t),(7,pp b7 0),(8,vi i),(9,pp b9 0),(10,pp b10 0)]) (fun _=>g1) (fun b10=>pt b10 (.cells #[vi (lm x.id k),vi x.dim,.slice none 0 0] 53 (0,0))::pt b9 (.cells #[vi x.id,vi x.dim,.slice xp x.sides.length xcap] 53 (0,0))::rowA encCell 53 ov rcs::pt b7 (.cells #[ov] 29 (0,0))::pt b4 (.cells #[.slice none 0 0] 29 (0,0))::pt b2 (.cells #[.slice p rs.length c] 29 (0,0))::s) (fun _=>True) ?_ ?_
  ·refine SC.drawX [] Tryz.mixed kR ?_;refine SX.u (i:=0) I kR (fA aq I zT3 I) dC (SX.q (i:=1) I kR (qL (v:=vi x.id) iT3 I (cO 0 I I)) dC (SX.u (i:=2) I kR (mV I) dC (SX.u (i:=4) I kR (fA aq I zT3 I) dC (SX.q (i:=5) I kR (qL (v:=vi x.dim) iT3 I (cO 0 I I)) dC ?_))))
   repeat' (first
    | (refine SB.o (i:=3) rfl (cL call68 rfl (jD E g1 _ x.id k)) dC (.inr iR) ?_; rintro _ _ _ ⟨rfl,rfl,rfl⟩; refine SX.u (i:=6) rfl kD (SU.build rfl (buildC53 _ _)) dC ?_)
    | (refine SB.o (i:=3) rfl (cL call68 rfl (jD E g1 _ x.id k)) dC (.inr iR) ?_; rintro _ _ _ ⟨rfl,rfl,rfl⟩; refine SX.u (i:=6) rfl kD (SU.build rfl (buildC53 _ _)) dC ?_)
    | (refine SB.o (i:=7) rfl (aL zeroValue53) dC (.inr iR) ?_; rintro _ _ _ ⟨b10,rfl,rfl,rfl⟩)
    | (refine SB.on (i:=8) rfl (sK 0 au rfl rfl rfl rfl rfl sB) (.inr iR) ?_; rintro _ _ _ ⟨rfl,rfl⟩)
    | refine SX.br2 3 7 kD ?_ ?_
    | refine SX.br1 7 kD ?_
    | refine SX.br1 8 kD ?_
    | refine SX.br1 3 kD ?_
    | (refine SX.nil kD ?_; exact ST.mid b10 sB rfl rfl trivial))
  rintro b10 -;try dsimp only
  refine SC.nilRow 55 2 (sQ (rZ (aT I (bK ?_))));refine oP (ι:=Value×Nat) (fun j=>[(2,pp b2 0),(4,pp b4 0),(5,vi k),(6,vi t),(7,pp b7 0),(8,vi i),(9,pp b9 0),(10,pp b10 0),(11,vi j.2)]) (fun _=>g1) (fun j=>rowA encSide 55 j.1 ((x.sides.take j.2).map (eL k t x))::pt b10 (.cells #[vi (lm x.id k),vi x.dim,j.1] 53 (0,0))::pt b9 (.cells #[vi x.id,vi x.dim,.slice xp x.sides.length xcap] 53 (0,0))::rowA encCell 53 ov rcs::pt b7 (.cells #[ov] 29 (0,0))::pt b4 (.cells #[.slice none 0 0] 29 (0,0))::pt b2 (.cells #[.slice p rs.length c] 29 (0,0))::s)
   (fun j=>j.2≤x.sides.length) (fun j=>x.sides.length - j.2) (.slice none 0 0,0) sB rfl rfl (Nat.zero_le _) ?_
  rintro ⟨sv,j⟩ hj;dsimp only at hj ⊢;refine sQ (sW I (lU (fA aq I aU I) (lK (qL (v:=.slice xp x.sides.length xcap) bw I (cO 2 I I)) (lU (eN aN I) (lU (lS I I) (tZ ?_))))));refine iP I (fun hlt2=>?_) (fun hlt2=>?_)
  ·have hjl:j<x.sides.length:=oM;have hb3:=hxs.based oM;have hjx:x.sides[((j:Nat):Int).toNat]?=some x.sides[j]:=gE hjl;have hjs:=gh hjl (eL k t x);generalize x.sides[j]=z at *;refine kP (tN (sQ (bK ?_)));refine SC.cut (ι:=Nat) (fun b12=>[(2,pp b2 0),(4,pp b4 0),(5,vi k),(6,vi t),(7,pp b7 0),(8,vi i),(9,pp b9 0),(10,pp b10 0),(11,vi j),(12,pp b12 0)]) (fun _=>g1) (fun b12=>pt b12 (.cells #[vi (lm z.cell k),vi z.sign] 55 (0,0))::rowA encSide 55 sv ((x.sides.take j).map (eL k t x))::pt b10 (.cells #[vi (lm x.id k),vi x.dim,sv] 53 (0,0))::pt b9 (.cells #[vi x.id,vi x.dim,.slice xp x.sides.length xcap] 53 (0,0))::rowA encCell 53 ov rcs::pt b7 (.cells #[ov] 29 (0,0))::pt b4 (.cells #[.slice none 0 0] 29 (0,0))::pt b2 (.cells #[.slice p rs.length c] 29 (0,0))::s) (fun _=>True) ?_ ?_
   ·refine SC.drawX [] Tryz.mixed kR ?_;refine SX.u (i:=0) I kR (fA aq I aU I) dC (SX.q (i:=1) I kR (qL (v:=.slice xp x.sides.length xcap) bw I (cO 2 I I)) dC (SX.u (i:=2) I kR (mV I) dC (SX.u (i:=3) I kR (iA aN aG I I hb3 oM sL) dC (SX.u (i:=4) I kR (fC cl I zT3 I hb3) dC (SX.q (i:=5) I kR (aZ (e:=encSide) (o:=0) (u:=vi z.cell) iT3 I hxs.rd hjx I) dC (SX.u (i:=6) I kR (mV I) dC (SX.u (i:=8) I kR (fA aq I aU I) dC (SX.q (i:=9) I kR (qL (v:=.slice xp x.sides.length xcap) bw I (cO 2 I I)) dC (SX.u (i:=10) I kR (mV I) dC (SX.u (i:=11) I kR (iA aN aG I I hb3 oM sL) dC (SX.u (i:=12) I kR (fC cl I zT3 I hb3) dC (SX.q (i:=13) I kR (aZ (e:=encSide) (o:=1) (u:=vi z.sign) iT3 I hxs.rd hjx I) dC ?_))))))))))))
    repeat' (first
     | (refine SB.o (i:=7) rfl (cL call68 rfl (jD E g1 _ z.cell k)) dC (.inr iR) ?_; rintro _ _ _ ⟨rfl,rfl,rfl⟩; refine SX.u (i:=14) rfl kD (SU.build rfl (buildS55 _ _)) dC ?_)
     | (refine SB.o (i:=7) rfl (cL call68 rfl (jD E g1 _ z.cell k)) dC (.inr iR) ?_; rintro _ _ _ ⟨rfl,rfl,rfl⟩; refine SX.u (i:=14) rfl kD (SU.build rfl (buildS55 _ _)) dC ?_)
     | (refine SB.o (i:=15) rfl (aL zeroValue55) dC (.inr iR) ?_; rintro _ _ _ ⟨b12,rfl,rfl,rfl⟩)
     | (refine SB.on (i:=16) rfl (sK 0 aG rfl rfl rfl rfl rfl sB) (.inr iR) ?_; rintro _ _ _ ⟨rfl,rfl⟩)
     | refine SX.br2 7 15 kD ?_ ?_
     | refine SX.br1 15 kD ?_
     | refine SX.br1 16 kD ?_
     | refine SX.br1 7 kD ?_
     | (refine SX.nil kD ?_; exact ST.mid b12 sB rfl rfl trivial))
   rintro b12 -;try dsimp only
   have e1:t>1→rC t x=decide (x.id.tmod t=1):=fun h=>by simp[rC,h]
   have e2:¬ t>1→rC t x=false:=fun h=>by simp only[rC,h,decide_false,Bool.false_and]
   have e3:t>1→x.dim>1→nM t x z.cell=decide (z.cell.tmod t=1):=fun h h'=>by simp[nM,h,h']
   have e4:t>1→¬ x.dim>1→nM t x z.cell=false:=fun h h'=>by simp only[nM,h',decide_false,Bool.and_false,Bool.false_and]
   have e5:¬ t>1→nM t x z.cell=false:=fun h=>by simp only[nM,h,decide_false,Bool.false_and]
   refine SC.cut (ι:=Int) (fun _=>[(2,pp b2 0),(4,pp b4 0),(5,vi k),(6,vi t),(7,pp b7 0),(8,vi i),(9,pp b9 0),(10,pp b10 0),(11,vi j),(12,pp b12 0)]) (fun _=>g1) (fun sg=>pt b12 (.cells #[vi (lm z.cell k),vi sg] 55 (0,0))::rowA encSide 55 sv ((x.sides.take j).map (eL k t x))::pt b10 (.cells #[vi (lm x.id k),vi x.dim,sv] 53 (0,0))::pt b9 (.cells #[vi x.id,vi x.dim,.slice xp x.sides.length xcap] 53 (0,0))::rowA encCell 53 ov rcs::pt b7 (.cells #[ov] 29 (0,0))::pt b4 (.cells #[.slice none 0 0] 29 (0,0))::pt b2 (.cells #[.slice p rs.length c] 29 (0,0))::s) (fun sg=>sg=yy (rC t x) z.sign) ?_ ?_
   ·refine SC.cutB 69 ((rC t x)) ?_ ?_
    ·refine rG (lM I (lU (gR I I) (lM I ?_)));refine sP ?_ ?_
     ·intro h64;refine lY I I I (fA aq I zT3 I) (SL.gq (gT I I I dC) (qL (v:=vi x.id) iT3 I (cO 3 I I)) dC (lY I I I (mV I) (SL.go (gT I I I dC) (cL call69 I (m5 E g1 _ x.id t oM)) dC ?_)));rintro _ _ _ ⟨rfl,rfl,rfl⟩;refine lU (wT I I) (nL ?_);exact ST.mid1 (by (rw[e1 h64]; rfl)) mI
     ·intro h64;refine lZ I I I (lZ I I I (lZ I I I (lZ I I I (lU (wF I I) (nL ?_)))));exact ST.mid1 (by (rw[e2 h64]; rfl)) mI
    refine iQ I (fun hq1=>?_) (fun hq1=>?_)
    ·refine rG (lU (fA cl rfl zT3 rfl) (lK (qL (v:=vi z.sign) iT3 rfl (cO 0 rfl rfl)) (lU (SU.neg rfl) (lU (fA cl rfl zT3 rfl) (oZ (SO.store1 0 zT3 rfl rfl rfl rfl (bE rfl) (by rfl)) ?_)))));refine nL ?_;exact ST.mid (IntKind.i64.wrap (0 - z.sign)) sB rfl rfl (by rw[hq1]; rfl)
    ·refine kP ?_;exact ST.mid z.sign sB rfl rfl (by rw[hq1]; rfl)
   rintro s1 hs1;try dsimp only
   refine SC.cut (ι:=Int) (fun _=>[(2,pp b2 0),(4,pp b4 0),(5,vi k),(6,vi t),(7,pp b7 0),(8,vi i),(9,pp b9 0),(10,pp b10 0),(11,vi j),(12,pp b12 0)]) (fun _=>g1) (fun sg=>pt b12 (.cells #[vi (lm z.cell k),vi sg] 55 (0,0))::rowA encSide 55 sv ((x.sides.take j).map (eL k t x))::pt b10 (.cells #[vi (lm x.id k),vi x.dim,sv] 53 (0,0))::pt b9 (.cells #[vi x.id,vi x.dim,.slice xp x.sides.length xcap] 53 (0,0))::rowA encCell 53 ov rcs::pt b7 (.cells #[ov] 29 (0,0))::pt b4 (.cells #[.slice none 0 0] 29 (0,0))::pt b2 (.cells #[.slice p rs.length c] 29 (0,0))::s) (fun sg=>sg=yy (nM t x z.cell) s1) ?_ ?_
   ·refine SC.cutB 90 ((nM t x z.cell)) ?_ ?_
    ·refine rG (lM I (lU (gR I I) (lM I ?_)));refine sP ?_ ?_
     ·intro h76;refine lY I I I (fA aq I zT3 I) (SL.gq (gT I I I dC) (qL (v:=vi x.dim) iT3 I (cO 3 I I)) dC (lY I I I (gR I I) (lU (wT I I) (lM I ?_))));refine sP ?_ ?_
      ·intro h81;refine lY I I I (fA aq I aU I) (SL.gq (gT I I I dC) (qL (v:=.slice xp x.sides.length xcap) bw I (cO 3 I I)) dC (lY I I I (mV I) (lY I I I (iA aN aG I I hb3 oM sL) (lY I I I (fC cl I zT3 I hb3) (SL.gq (gT I I I dC) (aZ (e:=encSide) (o:=0) (u:=vi z.cell) iT3 I hxs.rd hjx I) dC (lY I I I (mV I) (SL.go (gT I I I dC) (cL call69 I (m5 E g1 _ z.cell t oM)) dC ?_)))))));rintro _ _ _ ⟨rfl,rfl,rfl⟩;refine lU (wT I I) (nL ?_);exact ST.mid1 (by (rw[e3 h76 h81]; rfl)) mI
      ·intro h81;refine lZ I I I (lZ I I I (lZ I I I (lZ I I I (lZ I I I (lZ I I I (lZ I I I (lZ I I I (lU (wF I I) (nL ?_)))))))));exact ST.mid1 (by (rw[e4 h76 h81]; rfl)) mI
     ·intro h76;refine lZ I I I (lZ I I I (lZ I I I (lU (wF I I) (lM I (lZ I I I (lZ I I I (lZ I I I (lZ I I I (lZ I I I (lZ I I I (lZ I I I (lZ I I I (lU (wF I I) (nL ?_))))))))))))));exact ST.mid1 (by (rw[e5 h76]; rfl)) mI
    refine iQ I (fun hq2=>?_) (fun hq2=>?_)
    ·refine rG (lU (fA cl rfl zT3 rfl) (lK (qL (v:=vi s1) iT3 rfl (cO 0 rfl rfl)) (lU (SU.neg rfl) (lU (fA cl rfl zT3 rfl) (oZ (SO.store1 0 zT3 rfl rfl rfl rfl (bE rfl) (by rfl)) ?_)))));refine nL ?_;exact ST.mid (IntKind.i64.wrap (0 - s1)) sB rfl rfl (by rw[hq2]; rfl)
    ·refine kP ?_;exact ST.mid s1 sB rfl rfl (by rw[hq2]; rfl)
   rintro s2 hs2;try dsimp only
   have hrz:eL k t x z=⟨lm z.cell k,s2⟩:=by unfold eL; rw[hs2,hs1]
   rw[hrz] at hjs;have hml:((x.sides.take j).map (eL k t x)).length=j:=by rw[List.length_map,List.length_take]; omega
   refine rG (lU (fA aq I aU I) (lK (qL (v:=sv) bw I (cO 2 I I)) (lK (qV 0 eu aG I I I) (lW (bS sty32 I I I (ae sB) dC) ?_))));rintro _ _ _ ⟨b98,rfl,rfl,rfl⟩;refine lW (aP (e:=encSide) 1 ⟨lm z.cell k,s2⟩ sty32 I I I I I oM oM) ?_;rintro sv' _ _ ⟨rfl,rfl⟩;rw[← hjs];refine SL.facts fun ⟨w0,hw0⟩=>?_;obtain ⟨q6,d6,rfl⟩:=ah (i:=1) hw0 rfl;clear hw0 w0;refine lU (fA aq rfl aU rfl) (oZ (SO.store1 2 aU rfl rfl rfl rfl (bE rfl) (by rfl)) ?_);refine nL (bN (tN (rG (lM I (lU (aD I I oM) (lA I (nL (dR (s':=rowA encSide 55 (.slice q6 ((x.sides.take (j+1)).map (eL k t x)).length d6) ((x.sides.take (j+1)).map (eL k t x))::pt b10 (.cells #[vi (lm x.id k),vi x.dim,(.slice q6 ((x.sides.take (j+1)).map (eL k t x)).length d6)] 53 (0,0))::pt b9 (.cells #[vi x.id,vi x.dim,.slice xp x.sides.length xcap] 53 (0,0))::rowA encCell 53 ov rcs::pt b7 (.cells #[ov] 29 (0,0))::pt b4 (.cells #[.slice none 0 0] 29 (0,0))::pt b2 (.cells #[.slice p rs.length c] 29 (0,0))::s) (.cons _ (.refl _)) ?_))))))));exact gA (_,j+1) sB I I lN lN
  ·have hjj:x.sides.take j=x.sides:=tL oM;rw[hjj];refine xI (tX (tX (bX (tN (fS fun g2 hle2 hs2=>?_)))));have hsd:SlA encSide g2 sv (x.sides.map (eL k t x)):=hs2;obtain ⟨q8,d8,rfl⟩:=SlA.form hsd;obtain ⟨nc,hnc⟩:∃ nc:Rc,nc=⟨lm x.id k,x.dim,⟨q8,(x.sides.map (eL k t x)).length,d8⟩⟩:=⟨_,rfl⟩;refine rG (lU (fA c8 I cj I) (lK (qL (v:=ov) dS I (cO 3 I I)) (lK (qV 0 du au I I I) (lW (bS sty27 I I I (ae sB) dC) ?_))));rintro _ _ _ ⟨b104,rfl,rfl,rfl⟩;refine lW (aP (e:=encCell) 2 nc sty27 rfl rfl rfl rfl (by rw[hnc]; rfl) oM oM) ?_;rintro v105 _ _ ⟨rfl,rfl⟩;refine SL.facts fun ⟨w0,hw0⟩=>?_;obtain ⟨q9,d9,rfl⟩:=ah (i:=2) hw0 rfl;clear hw0 w0;refine lU (fA c8 I cj I) (oZ (sK 3 cj I I I I I sB) ?_);refine nL (bN (tN (rG (lM I (lU (aD I I oM) (lA I (nL (dR (s':=rowA encCell 53 (.slice q9 (rcs++[nc]).length d9) (rcs++[nc])::pt b7 (.cells #[(.slice q9 (rcs++[nc]).length d9)] 29 (0,0))::pt b4 (.cells #[.slice none 0 0] 29 (0,0))::pt b2 (.cells #[.slice p rs.length c] 29 (0,0))::s) (.cons _ (.cons _ (.refl _))) ?_))))))));refine gA (g2,_,rcs++[nc],i+1) sB I I ⟨hle.trans hle2,lN,?_⟩ lN;dsimp only;rw[hsucc];exact (hrcs.mono fun _ _=>aw.mono hle2).append ⟨(by rw[hnc]; exact⟨I,I,hsd⟩),trivial⟩
 ·have hii:l.take i=l:=tL oM;rw[hii] at hrcs;refine xI (tX (tX (bX (tN (sQ (fS fun g2 hle2 hs2=>?_))))));have hov:ao g2 ov (l.map (kS k t)):=⟨rcs,hs2,hrcs.mono fun _ _=>aw.mono hle2⟩;obtain ⟨qo,do_,rfl⟩:=hov.form;refine rG (lK (qV 0 ar ag I I I) (lW (cL call59 I (bT E g2 _ _ _ hov (ug hf k t))) ?_));rintro _ g3 _ ⟨rfl,hle3,x3,rfl,hx3⟩;obtain ⟨q3,d3,rfl⟩:=hx3.form;refine oZ (sK 1 ag I I I I I sB) ?_;refine tZ (rE ?_);exact ST.retCD 1 s (.inl I) results36 I ar ag I I uR ⟨I,hle.trans (hle2.trans hle3),_,I,hx3⟩
def sX (j:Int):List (List Int):=if j=0 then [[0,1]] else if j=1 then [[0,1],[1,2]] else [[0,1],[1,2],[0,2]]
def Bx (j:Int)(a b c:Value):Value:=if j=0 then a else if j=1 then b else c
theorem uf {j:Int}(h:0≤j∧j<3)(a b c:Value) : #[a,b,c][0+j.toNat * 1]?=some (Bx j a b c):=by
 rcases (by omega:j=0∨j=1∨j=2) with rfl | rfl | rfl <;> rfl
theorem m6 {g:PH}{j:Int}(h:0≤j∧j<3){a b c:Value}(ha:cR g a [[0,1]])(hb:cR g b [[0,1],[1,2]])(hc:cR g c [[0,1],[1,2],[0,2]]):cR g (Bx j a b c) (sX j):=by
 rcases (by omega:j=0∨j=1∨j=2) with rfl | rfl | rfl
 ·exact ha
 ·exact hb
 ·exact hc
theorem iL (j:Int):(sX j).length≤3∧∀ x∈sX j,x.length≤2:=by
 unfold sX;split
 ·exact⟨by decide,by decide⟩
 ·split
  ·exact⟨by decide,by decide⟩
  ·exact⟨by decide,by decide⟩
theorem uW (y:Int):4≤(lz y).length∧(lz y).length≤14∧∀ x∈lz y,x.length≤3:=by
 unfold lz;split
 ·exact⟨by decide,by decide,by decide⟩
 ·split
  ·exact⟨by decide,by decide,by decide⟩
  ·refine⟨by rw[jq]; decide,by rw[jq]; decide,fun x hx=>?_⟩;obtain ⟨i,_,hx⟩:=List.mem_flatMap.1 hx;simp at hx
   rcases hx with rfl | rfl <;> simp
def wk (m:Int)(ls:List (List Int))(y:Int):List Cl :=
 if m=3 then fu (lz y) else if m=4 then eS (fu (sX (cY y 3))) (fu (sX (cY (IntKind.i64.wrap (y.tdiv 3)) 3)))
 else if m=5 then Bp (2+cY y 5).toNat else if m=6 then eS (eS (fu [[0,1]]) (fu [[0,1]])) (fu [[0,1]])
 else if m=7 then fu (mJ ls++(lz y).take (2+cY y 2).toNat) else fu (mJ ls)
theorem oL (m:Int)(ls:List (List Int))(y:Int):be (wk m ls y):=by
 unfold wk;have h5:=eK y 5 dC dC
 repeat' split
 ·exact (ec _).1
 ·exact (eW _ _).1
 ·exact bg (lP oM).1
 ·exact (eW _ _).1
 ·exact (ec _).1
 ·exact (ec _).1
def Bk (b:List Cl):List Cl:=if (b.length:Int)>45 then sH else b
def yA (kd:Int)(ls:List (List Int))(y:Int):List Cl:=B7 (Bk (wk (cY kd 8) ls y)) y
theorem yq {b:List Cl}(h:be b):be (Bk b):=by
 unfold Bk;split
 ·exact (eW _ _).1
 ·exact h
theorem vB (kd:Int)(ls:List (List Int))(y:Int):be (yA kd ls y):=bg (ug (yq (oL _ _ _)) _ _)
theorem Tryz.build84 (p1:Option Addr)(n1 c1:Nat)(p2:Option Addr)(n2 c2:Nat)(p3:Option Addr)(n3 c3:Nat)(w:World):(Instr.build 84 #[(0,.slice p1 n1 c1),(1,.slice p2 n2 c2),(2,.slice p3 n3 c3)]).run Tryz.prog w = .ok (.agg #[.slice p1 n1 c1,.slice p2 n2 c2,.slice p3 n3 c3]) w:=by
 have hz:(Value.agg #[Value.slice none 0 0,Value.slice none 0 0,Value.slice none 0 0]).cells = #[.slice none 0 0,.slice none 0 0,.slice none 0 0]:=rfl;have h1:(Value.slice p1 n1 c1).cells = #[.slice p1 n1 c1]:=rfl;have h2:(Value.slice p2 n2 c2).cells = #[.slice p2 n2 c2]:=rfl;have h3:(Value.slice p3 n3 c3).cells = #[.slice p3 n3 c3]:=rfl;simp[Instr.build,Instr.fill,hz,h1,h2,h3]
theorem xK (E:World)(g:PH)(s:Own)(v:Value)(kd y:Int)(ls:List (List Int))(hv:cR g v ls) :
  Ctr Tryz.prog E 11 #[.agg #[vi kd,v,vi y]] g s (fun r g' s'=>s=s'∧Le g g'∧∃ x,r = .agg #[x]∧ao g' x (yA kd ls y)):=by
 obtain ⟨p,n,c,rfl⟩:∃ p n c,v = .slice p n c:=by
  obtain ⟨rs0,hrs0,_⟩:=hv;obtain ⟨p,c,rfl⟩:=SlA.form hrs0;exact⟨_,_,_,I⟩
 have hm8:=eK kd 8 dC dC;have hy3:=eK y 3 dC dC;have hy33:=eK (IntKind.i64.wrap (y.tdiv 3)) 3 dC dC;have hy5:=eK y 5 dC dC;have hy2:=eK y 2 dC dC;have hss:=vf ls;have hsf:=uW y;unfold yA;have hfit:=oL (cY kd 8) ls y;refine Ctr.of (args:=[.agg #[vi kd,.slice p n c,vi y]]) func11 I ntmps11 (bE I) ?_;refine rZ (bW (bO I) fun b1=>?_);refine bW (aL zeroValue29) fun b2=>?_;refine tZ (rZ (bW (aL zeroValue29) fun b3=>?_));refine tZ ?_;refine SC.to (fun w hw=>hw) (g':=g) (s':=pt b3 (.cells #[.slice none 0 0] 29 (0,0))::pt b2 (.cells #[.slice none 0 0] 29 (0,0))::pt b1 (.cells #[vi kd,.slice p n c,vi y] 24 (0,0))::s) ?_;refine SC.cut (ι:=PH×Value) (fun _=>[(1,pp b1 0),(2,pp b2 0),(3,pp b3 0)]) (fun i=>i.1) (fun i=>pt b3 (.cells #[i.2] 29 (0,0))::pt b2 (.cells #[.slice none 0 0] 29 (0,0))::pt b1 (.cells #[vi kd,.slice p n c,vi y] 24 (0,0))::s) (fun i=>Le g i.1∧ao i.1 i.2 (wk (cY kd 8) ls y)) ?_ ?_
 ·rcases (by omega:(cY kd 8=0∨cY kd 8=1∨cY kd 8=2)∨cY kd 8=3∨cY kd 8=4∨cY kd 8=5∨cY kd 8=6∨cY kd 8=7) with (hm | hm | hm) | hm | hm | hm | hm | hm
  ·refine rZ (lU (fA kX I zT3 I) (lK (qL (v:=vi kd) iT3 I (cO 2 I I)) (lW (cL kp I (bI E g _ _ 8 dC)) ?_)));rintro _ _ _ ⟨rfl,rfl,rfl⟩;rw[hm];refine tZ (bK (sQ (rZ (lU (eQ I I) (aT I (SC.condT I (kP (tN (SC.condT I (rG (lU (fA kX I sizeOf22 I) (lK (qL (v:=.slice p n c) isAgg22 I (cO 2 I I)) (lW (cL call31 I (kr E g _ _ ls hv)) ?_)))))))))))));rintro v16 g1 _ ⟨rs1,rfl,hle1,hall1⟩;refine fR fun g2 hle2 hs2=>?_;have hls:cR g2 v16 (mJ ls):=⟨rs1,hs2,hall1.mono fun _ _=>dD.mono hle2⟩;refine lW (cL call30 I (aY E g2 _ _ _ hls oM (fun x hx=>by have:=hss.2 x hx; omega))) ?_;rintro _ g3 _ ⟨rfl,hle3,u,rfl,hu⟩;obtain ⟨q,d,rfl⟩:=hu.form;refine oZ (sK 0 ag I I I I I sB) ?_;refine nL (bN ?_);exact ST.mid (g3,_) sB I I ⟨hle1.trans (hle2.trans hle3),hu⟩
  ·refine rZ (lU (fA kX I zT3 I) (lK (qL (v:=vi kd) iT3 I (cO 2 I I)) (lW (cL kp I (bI E g _ _ 8 dC)) ?_)));rintro _ _ _ ⟨rfl,rfl,rfl⟩;rw[hm];refine tZ (bK (sQ (rZ (lU (eQ I I) (aT I (SC.condF I (rZ (lU (eQ I I) (aT I (SC.condT I (kP (tN (SC.condT I (rG (lU (fA kX I sizeOf22 I) (lK (qL (v:=.slice p n c) isAgg22 I (cO 2 I I)) (lW (cL call31 I (kr E g _ _ ls hv)) ?_)))))))))))))))));rintro v16 g1 _ ⟨rs1,rfl,hle1,hall1⟩;refine fR fun g2 hle2 hs2=>?_;have hls:cR g2 v16 (mJ ls):=⟨rs1,hs2,hall1.mono fun _ _=>dD.mono hle2⟩;refine lW (cL call30 I (aY E g2 _ _ _ hls oM (fun x hx=>by have:=hss.2 x hx; omega))) ?_;rintro _ g3 _ ⟨rfl,hle3,u,rfl,hu⟩;obtain ⟨q,d,rfl⟩:=hu.form;refine oZ (sK 0 ag I I I I I sB) ?_;refine nL (bN ?_);exact ST.mid (g3,_) sB I I ⟨hle1.trans (hle2.trans hle3),hu⟩
  ·refine rZ (lU (fA kX I zT3 I) (lK (qL (v:=vi kd) iT3 I (cO 2 I I)) (lW (cL kp I (bI E g _ _ 8 dC)) ?_)));rintro _ _ _ ⟨rfl,rfl,rfl⟩;rw[hm];refine tZ (bK (sQ (rZ (lU (eQ I I) (aT I (SC.condF I (rZ (lU (eQ I I) (aT I (SC.condF I (rG (lU (eQ I I) (aT I (SC.condT I (rG (lU (fA kX I sizeOf22 I) (lK (qL (v:=.slice p n c) isAgg22 I (cO 2 I I)) (lW (cL call31 I (kr E g _ _ ls hv)) ?_))))))))))))))))));rintro v16 g1 _ ⟨rs1,rfl,hle1,hall1⟩;refine fR fun g2 hle2 hs2=>?_;have hls:cR g2 v16 (mJ ls):=⟨rs1,hs2,hall1.mono fun _ _=>dD.mono hle2⟩;refine lW (cL call30 I (aY E g2 _ _ _ hls oM (fun x hx=>by have:=hss.2 x hx; omega))) ?_;rintro _ g3 _ ⟨rfl,hle3,u,rfl,hu⟩;obtain ⟨q,d,rfl⟩:=hu.form;refine oZ (sK 0 ag I I I I I sB) ?_;refine nL (bN ?_);exact ST.mid (g3,_) sB I I ⟨hle1.trans (hle2.trans hle3),hu⟩
  ·refine rZ (lU (fA kX I zT3 I) (lK (qL (v:=vi kd) iT3 I (cO 2 I I)) (lW (cL kp I (bI E g _ _ 8 dC)) ?_)));rintro _ _ _ ⟨rfl,rfl,rfl⟩;rw[hm];refine tZ (bK (sQ (rZ (lU (eQ I I) (aT I (SC.condF I (rZ (lU (eQ I I) (aT I (SC.condF I (rG (lU (eQ I I) (aT I (SC.condF I (rZ (lU (eQ I I) (aT I ?_)))))))))))))))));refine SC.condT I (rG (lU (fA kX I zT3 I) (lK (qL (v:=vi y) iT3 I (cO 2 I I)) (lW (cL call32 I (lF E g _ y)) ?_))));rintro v22 g1 _ ⟨rfl,hle1,hls⟩;refine lW (cL call30 I (aY E g1 _ _ _ hls oM (fun x hx=>by have:=hsf.2.2 x hx; omega))) ?_;rintro _ g3 _ ⟨rfl,hle3,u,rfl,hu⟩;obtain ⟨q,d,rfl⟩:=hu.form;refine oZ (sK 0 ag I I I I I sB) ?_;refine nL (bN ?_);exact ST.mid (g3,_) sB I I ⟨hle1.trans hle3,hu⟩
  ·refine rZ (lU (fA kX I zT3 I) (lK (qL (v:=vi kd) iT3 I (cO 2 I I)) (lW (cL kp I (bI E g _ _ 8 dC)) ?_)));rintro _ _ _ ⟨rfl,rfl,rfl⟩;rw[hm];refine tZ (bK (sQ (rZ (lU (eQ I I) (aT I (SC.condF I (rZ (lU (eQ I I) (aT I (SC.condF I (rG (lU (eQ I I) (aT I (SC.condF I (rZ (lU (eQ I I) (aT I ?_)))))))))))))))));refine SC.condF I (rZ (lU (eQ I I) (aT I (SC.condT I (rZ (lU (fA kX I zT3 I) (lK (qL (v:=vi y) iT3 I (cO 2 I I)) (lW (cL kp I (bI E g _ _ 3 dC)) ?_))))))));rintro _ _ _ ⟨rfl,rfl,rfl⟩;refine aT I (rZ (lW (bS sty83 I I I (ae sB) dC) ?_));rintro _ _ _ ⟨b29,rfl,rfl,rfl⟩;refine SL.freeze fun g1 hle1 hb29=>?_;refine lW (bS sty22 I I I (ae ⟨I,trivial⟩) dC) ?_;rintro _ _ _ ⟨b30,rfl,rfl,rfl⟩;refine SL.freeze fun g2 hle2 hb30=>?_;have hlit30:cR g2 (.slice (some ⟨b30,0,none⟩) 1 1) [[0,1]]:=⟨[ja (.slice (some ⟨b29,0,none⟩) 2 2)],SlA.lit hb30 rfl rfl,⟨SlA.lit (hle2 _ _ hb29) rfl rfl,trivial⟩⟩;refine lW (bS sty83 I I I (ae sB) dC) ?_;rintro _ _ _ ⟨b31,rfl,rfl,rfl⟩;refine SL.freeze fun g3 hle3 hb31=>?_;refine lW (bS sty83 I I I (ae sB) dC) ?_;rintro _ _ _ ⟨b32,rfl,rfl,rfl⟩;refine SL.freeze fun g4 hle4 hb32=>?_;refine lW (bS sty22 I I I (ae sB) dC) ?_;rintro _ _ _ ⟨b33,rfl,rfl,rfl⟩;refine SL.freeze fun g5 hle5 hb33=>?_;have hlit33:cR g5 (.slice (some ⟨b33,0,none⟩) 2 2) [[0,1],[1,2]]:=⟨[ja (.slice (some ⟨b31,0,none⟩) 2 2),ja (.slice (some ⟨b32,0,none⟩) 2 2)],SlA.lit hb33 rfl rfl,⟨SlA.lit (hle5 _ _ (hle4 _ _ hb31)) rfl rfl,SlA.lit (hle5 _ _ hb32) rfl rfl,trivial⟩⟩;refine lW (bS sty83 I I I (ae sB) dC) ?_;rintro _ _ _ ⟨b34,rfl,rfl,rfl⟩;refine SL.freeze fun g6 hle6 hb34=>?_;refine lW (bS sty83 I I I (ae sB) dC) ?_;rintro _ _ _ ⟨b35,rfl,rfl,rfl⟩;refine SL.freeze fun g7 hle7 hb35=>?_;refine lW (bS sty83 I I I (ae sB) dC) ?_;rintro _ _ _ ⟨b36,rfl,rfl,rfl⟩;refine SL.freeze fun g8 hle8 hb36=>?_;refine lW (bS sty22 I I I (ae sB) dC) ?_;rintro _ _ _ ⟨b37,rfl,rfl,rfl⟩;refine SL.freeze fun g9 hle9 hb37=>?_;have hlit37:cR g9 (.slice (some ⟨b37,0,none⟩) 3 3) [[0,1],[1,2],[0,2]]:=⟨[ja (.slice (some ⟨b34,0,none⟩) 2 2),ja (.slice (some ⟨b35,0,none⟩) 2 2),ja (.slice (some ⟨b36,0,none⟩) 2 2)],SlA.lit hb37 rfl rfl,⟨SlA.lit (hle9 _ _ (hle8 _ _ (hle7 _ _ hb34))) rfl rfl,SlA.lit (hle9 _ _ (hle8 _ _ hb35)) rfl rfl,SlA.lit (hle9 _ _ hb36) rfl rfl,trivial⟩⟩;refine lU (SU.build I (build84 _ _ _ _ _ _ _ _ _)) (bW (aL zeroValue84) fun b5=>?_);refine oZ (sK 0 sizeOf84 I I I I I sB) ?_;refine tZ ?_;have hl1:=m6 hy3 (hlit30.mono (hle3.trans (hle4.trans (hle5.trans (hle6.trans (hle7.trans (hle8.trans hle9))))))) (hlit33.mono (hle6.trans (hle7.trans (hle8.trans hle9)))) hlit37;have hl2:=m6 hy33 (hlit30.mono (hle3.trans (hle4.trans (hle5.trans (hle6.trans (hle7.trans (hle8.trans hle9))))))) (hlit33.mono (hle6.trans (hle7.trans (hle8.trans hle9)))) hlit37;refine SC.to (fun w hw=>hw) (g':=g9) (s':=pt b5 (.cells #[.slice (some ⟨b30,0,none⟩) 1 1,.slice (some ⟨b33,0,none⟩) 2 2,.slice (some ⟨b37,0,none⟩) 3 3] 84 (0,0))::pt b3 (.cells #[.slice none 0 0] 29 (0,0))::pt b2 (.cells #[.slice none 0 0] 29 (0,0))::pt b1 (.cells #[vi kd,.slice p n c,vi y] 24 (0,0))::s) ?_;refine dW [12] [(0,2),(1,2),(2,1),(4,2),(5,1),(6,2),(3,0),(7,0),(8,2),(9,1),(10,0),(11,0),(12,0)] Tryz.mixed kR ?_;refine pU I (mV I) (pU I (iB underlying84 sizeOf22 I I oM oM) (pK I (qL (v:=Bx (cY y 3) (.slice (some ⟨b30,0,none⟩) 1 1) (.slice (some ⟨b33,0,none⟩) 2 2) (.slice (some ⟨b37,0,none⟩) 3 3)) isAgg22 I (cO 0 I (uf hy3 _ _ _))) (pU I (fA kX I zT3 I) (pK I (qL (v:=vi y) iT3 I (cO 3 I I)) (pU I (SU.quo I I dC) (SP.o I (cL call30 I (aY E g9 _ _ _ hl1 (by have:=(iL (cY y 3)).1; omega) (fun x hx=>by have:=(iL (cY y 3)).2 x hx; omega))) dC (.inr iR) ?_))))));rintro _ ga _ ⟨rfl,hlea,ua,rfl,hua⟩;obtain ⟨qa,da,rfl⟩:=hua.form;refine SP.o I (cL kp I (bI E ga _ _ 3 dC)) dC (.inr iR) ?_;rintro _ _ _ ⟨rfl,rfl,rfl⟩;refine pU rfl (iB underlying84 sizeOf22 rfl rfl oM oM) (pK rfl (qL (v:=Bx (cY (IntKind.i64.wrap (y.tdiv 3)) 3) (.slice (some ⟨b30,0,none⟩) 1 1) (.slice (some ⟨b33,0,none⟩) 2 2) (.slice (some ⟨b37,0,none⟩) 3 3)) isAgg22 rfl (cO 0 rfl (uf hy33 _ _ _))) (SP.o rfl (cL call30 rfl (aY E ga _ _ _ (hl2.mono hlea) (by have:=(iL (cY (IntKind.i64.wrap (y.tdiv 3)) 3)).1; omega) (fun x hx=>by have:=(iL (cY (IntKind.i64.wrap (y.tdiv 3)) 3)).2 x hx; omega))) dC (.inr (by rintro _ gb _ ⟨rfl,hleb,ub,rfl,hub⟩; exact⟨by exact Le.trans (by assumption) (by assumption),(by exact .refl _)⟩)) ?_));rintro _ gb _ ⟨rfl,hleb,ub,rfl,hub⟩;obtain ⟨qb,db,rfl⟩:=hub.form;have hleab:=hlea.trans hleb;refine SP.o rfl (cL call33 rfl (eX E gb _ _ _ _ _ (hua.mono hleb) hub (ec _).1 (ec _).1)) dC (.inr (by rintro _ gc _ ⟨rfl,hlec,uc,rfl,huc⟩; exact⟨by exact Le.trans (by assumption) (by assumption),(by exact .refl _)⟩)) ?_;rintro _ gc _ ⟨rfl,hlec,uc,rfl,huc⟩;obtain ⟨qc,dc,rfl⟩:=huc.form;refine SP.on I (sK 1 ag I I I I I sB) (.inl dC) ?_;rintro _ _ _ ⟨rfl,rfl⟩;refine pN (bN (dR (s':=pt b3 (.cells #[(Value.slice qc _ dc)] 29 (0,0))::pt b2 (.cells #[.slice none 0 0] 29 (0,0))::pt b1 (.cells #[vi kd,.slice p n c,vi y] 24 (0,0))::s) (.cons _ (.refl _)) ?_));exact ST.mid (gc,_) sB I I ⟨(hle1.trans (hle2.trans (hle3.trans (hle4.trans (hle5.trans (hle6.trans (hle7.trans (hle8.trans hle9)))))))).trans (hlea.trans (hleb.trans hlec)),huc⟩
  ·refine rZ (lU (fA kX I zT3 I) (lK (qL (v:=vi kd) iT3 I (cO 2 I I)) (lW (cL kp I (bI E g _ _ 8 dC)) ?_)));rintro _ _ _ ⟨rfl,rfl,rfl⟩;rw[hm];refine tZ (bK (sQ (rZ (lU (eQ I I) (aT I (SC.condF I (rZ (lU (eQ I I) (aT I (SC.condF I (rG (lU (eQ I I) (aT I (SC.condF I (rZ (lU (eQ I I) (aT I ?_)))))))))))))))));refine SC.condF I (rZ (lU (eQ I I) (aT I (SC.condF I (rZ (lU (eQ I I) (aT I (SC.condT I (rG (lU (fA kX I zT3 I) (lK (qL (v:=vi y) iT3 I (cO 2 I I)) (lW (cL kp I (bI E g _ _ 5 dC)) ?_))))))))))));rintro _ _ _ ⟨rfl,rfl,rfl⟩;refine lU (SU.eq (v':=vi (((2+cY y 5).toNat:Nat):Int)) (aD I I oM) (congrArg vi oM)) (lW (cL call34 I (rV E g _ (2+cY y 5).toNat oM oM)) ?_);rintro _ g3 _ ⟨rfl,hle3,u,rfl,hu⟩;obtain ⟨q,d,rfl⟩:=hu.form;refine oZ (sK 0 ag I I I I I sB) ?_;refine nL (bN ?_);exact ST.mid (g3,_) sB I I ⟨hle3,hu⟩
  ·refine rZ (lU (fA kX I zT3 I) (lK (qL (v:=vi kd) iT3 I (cO 2 I I)) (lW (cL kp I (bI E g _ _ 8 dC)) ?_)));rintro _ _ _ ⟨rfl,rfl,rfl⟩;rw[hm];refine tZ (bK (sQ (rZ (lU (eQ I I) (aT I (SC.condF I (rZ (lU (eQ I I) (aT I (SC.condF I (rG (lU (eQ I I) (aT I (SC.condF I (rZ (lU (eQ I I) (aT I ?_)))))))))))))))));refine SC.condF I (rZ (lU (eQ I I) (aT I (SC.condF I (rZ (lU (eQ I I) (aT I (SC.condF I (rZ (lU (eQ I I) (aT I (SC.condT I (rZ (lW (bS sty83 I I I (ae sB) dC) ?_))))))))))))));rintro _ _ _ ⟨b60,rfl,rfl,rfl⟩;refine SL.freeze fun g1 hle1 hb60=>?_;refine lW (bS sty22 I I I (ae ⟨I,trivial⟩) dC) ?_;rintro _ _ _ ⟨b61,rfl,rfl,rfl⟩;refine SL.freeze fun g2 hle2 hb61=>?_;have hlit61:cR g2 (.slice (some ⟨b61,0,none⟩) 1 1) [[0,1]]:=⟨[ja (.slice (some ⟨b60,0,none⟩) 2 2)],SlA.lit hb61 rfl rfl,⟨SlA.lit (hle2 _ _ hb60) rfl rfl,trivial⟩⟩;refine lW (cL call30 I (aY E g2 _ _ _ hlit61 dC dC)) ?_;rintro _ ga _ ⟨rfl,hlea,ua,rfl,hua⟩;obtain ⟨qa,da,rfl⟩:=hua.form;refine bW (aL zeroValue29) fun b6=>?_;refine oZ (sK 0 ag I I I I I sB) ?_;refine tZ ?_;refine SC.to (fun w hw=>hw) (g':=ga) (s':=pt b6 (.cells #[.slice qa (fu [[0,1]]).length da] 29 (0,0))::pt b3 (.cells #[.slice none 0 0] 29 (0,0))::pt b2 (.cells #[.slice none 0 0] 29 (0,0))::pt b1 (.cells #[vi kd,.slice p n c,vi y] 24 (0,0))::s) ?_;refine dW [5] [(0,1),(1,1),(3,1),(2,0),(4,0),(5,0)] Tryz.mixed kR ?_;refine pK I (qV 0 ar ag I I I) (pK I (qV 0 ar ag I I I) (pK I (qV 0 ar ag I I I) (SP.o I (cL call33 I (eX E ga _ _ _ _ _ hua hua (ec _).1 (ec _).1)) dC (.inr iR) ?_)));rintro _ gb _ ⟨rfl,hleb,ub,rfl,hub⟩;obtain ⟨qb,db,rfl⟩:=hub.form;refine SP.o rfl (cL call33 rfl (eX E gb _ _ _ _ _ hub (hua.mono hleb) (eW _ _).1 (ec _).1)) dC (.inr (by rintro _ gc _ ⟨rfl,hlec,uc,rfl,huc⟩; exact⟨by exact Le.trans (by assumption) (by assumption),(by exact .refl _)⟩)) ?_;rintro _ gc _ ⟨rfl,hlec,uc,rfl,huc⟩;obtain ⟨qc,dc,rfl⟩:=huc.form;refine SP.on I (sK 1 ag I I I I I sB) (.inl dC) ?_;rintro _ _ _ ⟨rfl,rfl⟩;refine pN (bN (dR (s':=pt b3 (.cells #[(Value.slice qc _ dc)] 29 (0,0))::pt b2 (.cells #[.slice none 0 0] 29 (0,0))::pt b1 (.cells #[vi kd,.slice p n c,vi y] 24 (0,0))::s) (.cons _ (.refl _)) ?_));exact ST.mid (gc,_) sB I I ⟨(hle1.trans hle2).trans (hlea.trans (hleb.trans hlec)),huc⟩
  ·refine rZ (lU (fA kX I zT3 I) (lK (qL (v:=vi kd) iT3 I (cO 2 I I)) (lW (cL kp I (bI E g _ _ 8 dC)) ?_)));rintro _ _ _ ⟨rfl,rfl,rfl⟩;rw[hm];refine tZ (bK (sQ (rZ (lU (eQ I I) (aT I (SC.condF I (rZ (lU (eQ I I) (aT I (SC.condF I (rG (lU (eQ I I) (aT I (SC.condF I (rZ (lU (eQ I I) (aT I ?_)))))))))))))))));refine SC.condF I (rZ (lU (eQ I I) (aT I (SC.condF I (rZ (lU (eQ I I) (aT I (SC.condF I (rZ (lU (eQ I I) (aT I (SC.condF I (rZ (lU (eQ I I) (aT I (SC.condT I ?_))))))))))))))));refine dW [13] [(0,2),(1,1),(3,2),(4,1),(6,2),(7,1),(2,0),(5,0),(8,0),(9,2),(10,2),(11,0),(12,0),(13,0)] Tryz.mixed kR ?_;refine pU I (fA kX I sizeOf22 I) (pK I (qL (v:=.slice p n c) isAgg22 I (cO 2 I I)) (pU I (fA kX I zT3 I) (pK I (qL (v:=vi y) iT3 I (cO 2 I I)) (pU I (fA kX I zT3 I) (pK I (qL (v:=vi y) iT3 I (cO 2 I I)) (SP.o I (cL call31 I (kr E g _ _ ls hv)) dC (.inr iR) ?_))))));rintro v72 g1 _ ⟨rs1,rfl,hle1,hall1⟩;refine SP.o rfl (cL call32 rfl (lF E g1 _ y)) dC (.inr (by rintro v75 g2 _ ⟨rfl,hle2,hsv⟩; exact⟨by exact Le.trans (by assumption) (by assumption),(by exact .cons _ (.refl _))⟩)) ?_;rintro v75 g2 _ ⟨rfl,hle2,hsv⟩;obtain ⟨rs2,hrs2,hall2⟩:=hsv;have hrl2:=hall2.length;have hrl1:=hall1.length;obtain ⟨q2,d2,rfl⟩:=SlA.form hrs2;have hcap2:=(SlA.cap hrs2).2;have hcut:=SlA.cut hrs2 (l:=0) (m:=(2+cY y 2).toNat) (Nat.zero_le _) oM;rw[List.drop_zero,Nat.sub_zero] at hcut;refine SP.o rfl (cL kp rfl (bI E g2 _ _ 2 dC)) dC (.inr (by rintro _ _ _ ⟨rfl,rfl,rfl⟩; exact⟨by exact Le.trans (by assumption) (by assumption),(by exact .cons _ (.refl _))⟩)) ?_;rintro _ _ _ ⟨rfl,rfl,rfl⟩;refine pU rfl (aD rfl rfl oM) (pU rfl (SU.sliceH eD gp rfl rfl oM oM) (SP.o rfl (aQ (e:=ek) 0 sty22 rfl rfl rfl hcut (by rw[List.length_take]; omega) (by rw[List.length_take]; omega)) dC (.inr (by rintro v81 _ _ ⟨rfl,rfl⟩; exact⟨by exact Le.trans (by assumption) (by assumption),(by exact .cons _ (.refl _))⟩)) ?_));rintro v81 _ _ ⟨rfl,rfl⟩;refine SP.freezeRow fun g3 hle3 hs3=>?_;have hls:cR g3 v81 (mJ ls++(lz y).take (2+cY y 2).toNat):=⟨_,hs3,(hall1.mono fun _ _=>dD.mono (hle2.trans hle3)).append ((aC.take _ hall2).mono fun _ _=>dD.mono hle3)⟩;have hle13:=hle1.trans (hle2.trans hle3);refine SP.o rfl (cL call30 rfl (aY E g3 _ _ _ hls (by rw[List.length_append,List.length_take]; omega) (fun x hx=>by rcases List.mem_append.1 hx with h | h; (have:=hss.2 x h; omega); (have:=hsf.2.2 x (List.mem_of_mem_take h); omega)))) dC (.inr (by rintro _ g4 _ ⟨rfl,hle4,u,rfl,hu⟩; exact⟨by exact Le.trans (by assumption) (by assumption),(by exact .refl _)⟩)) ?_;rintro _ g4 _ ⟨rfl,hle4,u,rfl,hu⟩;obtain ⟨q,d,rfl⟩:=hu.form;refine SP.on I (sK 0 ag I I I I I sB) (.inl dC) ?_;rintro _ _ _ ⟨rfl,rfl⟩;refine pN (bN ?_);exact ST.mid (g4,_) sB I I ⟨hle1.trans (hle2.trans (hle3.trans hle4)),hu⟩
 rintro ⟨g1,bv⟩ ⟨hle1,hbv⟩;dsimp only at hle1 hbv ⊢;generalize hB:wk (cY kd 8) ls y=B at *;obtain ⟨qb,db,rfl⟩:=hbv.form;refine sQ (rZ (lU (fA c8 I cj I) (lK (qL (v:=.slice qb B.length db) dS I (cO 0 I I)) (lU (eN aH I) (lU (gR I I) (tZ ?_))))));refine iP I (fun hbig=>?_) (fun hbig=>?_)
 ·refine rG (lW (cL call35 I (uT E g1 _)) ?_);rintro _ g2 _ ⟨rfl,hle2,ut,rfl,hut⟩;obtain ⟨qt,dt,rfl⟩:=hut.form;refine oZ (sK 0 ag I I I I I sB) ?_;refine tZ (sQ ?_);refine SC.to (fun w hw=>hw) (g':=g2) (s':=pt b3 (.cells #[(Value.slice qt sH.length dt)] 29 (0,0))::pt b2 (.cells #[.slice none 0 0] 29 (0,0))::pt b1 (.cells #[vi kd,.slice p n c,vi y] 24 (0,0))::s) ?_;refine rG (lK (qV 0 ar ag I I I) (lU (fA kX I zT3 I) (lK (qL (v:=vi y) iT3 I (cO 2 I I)) (lW (cL call36 I (jy E g2 _ _ sH y hut (eW _ _).1)) ?_))));rintro _ g3 _ ⟨rfl,hle3,x3,rfl,hx3⟩;obtain ⟨q3,d3,rfl⟩:=hx3.form;refine oZ (sK 1 ag I I I I I sB) ?_;refine tZ (rE ?_);exact ST.retCD 1 s (.inl I) results11 I ar ag I I uR ⟨I,hle1.trans (hle2.trans hle3),_,I,by unfold Bk; rw[if_pos hbig]; exact hx3⟩
 ·refine kP (tN (sQ ?_));refine SC.to (fun w hw=>hw) (g':=g1) (s':=pt b3 (.cells #[(Value.slice qb B.length db)] 29 (0,0))::pt b2 (.cells #[.slice none 0 0] 29 (0,0))::pt b1 (.cells #[vi kd,.slice p n c,vi y] 24 (0,0))::s) ?_;refine rG (lK (qV 0 ar ag I I I) (lU (fA kX I zT3 I) (lK (qL (v:=vi y) iT3 I (cO 2 I I)) (lW (cL call36 I (jy E g1 _ _ B y hbv hfit)) ?_))));rintro _ g3 _ ⟨rfl,hle3,x3,rfl,hx3⟩;obtain ⟨q3,d3,rfl⟩:=hx3.form;refine oZ (sK 1 ag I I I I I sB) ?_;refine tZ (rE ?_);exact ST.retCD 1 s (.inl I) results11 I ar ag I I uR ⟨I,hle1.trans hle3,_,I,by unfold Bk; rw[if_neg hbig]; exact hx3⟩
theorem tu (a b:Int)(h0:0<b)(h1:b≤1099511627776):0≤cY a b∧cY a b<b:=by
 have h2:a.tmod b<b:=Int.tmod_lt_of_pos a h0;have h3 : -b<a.tmod b:=by
  have:=Int.lt_tmod_of_pos a h0;omega
 unfold cY;rw[IntWalk.i64_in _ oM,Int.tmod_eq_emod_of_nonneg oM];exact⟨Int.emod_nonneg _ oM,Int.emod_lt_of_pos _ h0⟩
theorem pg (a:Int)(n:Nat)(h0:0<n)(h1:n≤1099511627776):cY a n=(((cY a n).toNat:Nat):Int)∧(cY a n).toNat<n:=by
 have:=tu a n oM oM;omega
open Go.ChangeShapes Go.WideShapes Go.ChangeAt Go.RowKit
set_option maxRecDepth 100000
def pH (W:World):PH:=fun b=>W.heap[b]?
def E0 (W:World):World:={ W with drawn:=0 }
theorem zP (W:World):At (E0 W) (pH W) [] W:=⟨rfl,⟨rfl,Nat.zero_le _⟩,rfl,fun _ _ h=>h,by simp,by simp,List.Pairwise.nil⟩
theorem zQ {W W':World}{g:PH}{s:Own}(h:At (E0 W) g s W')(hl:Le (pH W) g):Below W.heap.size W W':=by
 have hb:∀ k,k<W.heap.size→W'.heap[k]?=W.heap[k]?:=fun k hk=>by
  have h1:W.heap[k]?=some W.heap[k]:=Array.getElem?_eq_getElem hk;rw[h1];exact h.known k _ (hl k _ h1)
 refine⟨h.os,h.tape.1,h.output,?_,hb⟩;refine Decidable.of_not_not fun hc=>?_;have h1:=hb W'.heap.size oM;rw[Array.getElem?_eq_none (lR _),Array.getElem?_eq_getElem oM] at h1;cases h1
theorem zV {W:World}{a:Addr}{len cap:Nat}{xs:List Value}(hl:len≤cap)(hx:xs.length=len)(hc:∀ i x,xs[i]?=some x→W.cell? (a.add i)=some x):Sl (pH W) 1 (.slice (some a) len cap) len xs:=by
 refine⟨some a,cap,I,⟨oM,hl⟩,fun hne=>?_⟩;obtain ⟨b,o,sp⟩:=a;have h0:0<xs.length:=List.length_pos_iff.2 hne;have hc0:=hc 0 xs[0] (gE h0);have hsp:sp=none:=by simpa [Addr.add] using World.cell?_spot hc0
 subst hsp;have hadd:∀ i,(⟨b,o,none⟩:Addr).add i=⟨b,o+i,none⟩:=fun i=>by unfold Addr.add; split <;> simp_all
 simp only[hadd] at hc;have hcell:∀ i x,xs[i]?=some x→∃ cs T fr,W.heap[b]?=some (.cells cs T fr)∧cs[o+i]?=some x:=fun i x hi=>by
  have h1:=hc i x hi;unfold World.cell? at h1;split at h1
  ·rename_i cs T fr hh;exact⟨cs,T,fr,hh,by simpa using h1⟩
  ·cases h1
 obtain ⟨cs,T,fr,hb,_⟩:=hcell 0 xs[0] (gE h0);refine⟨b,o,cs,T,fr,I,hb,fun j x hj=>?_⟩;obtain ⟨cs',T',fr',hb',h2⟩:=hcell j x hj;rw[hb] at hb';cases hb';exact h2
section
variable {H:Type}{enc:TypeId×Value→H}{W:World}{base:Nat}{spare:Nat→Bool}{hd:Bool}
theorem Tryz.cells3:Tryz.prog.cellsOf 3=1:=by kernel_rfl
theorem Tryz.cells83:Tryz.prog.cellsOf 83=1:=by kernel_rfl
theorem Tryz.cells24:Tryz.prog.cellsOf 24=3:=by kernel_rfl
theorem A6 {fuel:Nat}{v:Value}{x:DataW H×List MemPlace}(h:DataW.trod enc Tryz.prog W base spare hd fuel 83 [v]=some x):∃ (l:List Int) (r:Sv),v = .slice r.p r.n r.c∧dJ (pH W) v l:=by
 rcases open_ints aI uT3 cells3 h with ⟨hcs,_⟩ | ⟨a,len,cap,zs,hcs,_,hl,_,hz,_,hcell,_⟩
 ·simp at hcs;subst hcs;exact⟨[],⟨none,0,0⟩,I,Sl.nil _ _⟩
 ·simp at hcs;subst hcs;have hlz:len≤zs.length:=by rw[hz]; split <;> omega
  have hlen:(zs.take len).length=len:=by rw[List.length_take]; omega
  have he:(zs.take len).flatMap encInt.enc=(zs.take len).map vi:=by
   rw[List.flatMap_def];induction zs.take len with
   | nil=>rfl
   | cons y t ih=>simp[encInt] at ih ⊢; exact ih
  refine⟨zs.take len,⟨some a,len,cap⟩,I,?_⟩;show Sl (pH W) 1 _ (zs.take len).length ((zs.take len).flatMap encInt.enc);rw[he,hlen];refine zV hl (by rw[List.length_map,hlen]) fun i y hi=>?_;rw[List.getElem?_map] at hi;cases hc:(zs.take len)[i]? with
  | none=>rw[hc] at hi; cases hi
  | some z =>
   rw[hc] at hi;cases hi;have hil:i<(zs.take len).length:=(List.getElem?_eq_some_iff.1 hc).1;have hi2:i<zs.length:=oM;rw[hcell i hi2];have:zs.getD i 0=z:=by
    rw[List.getElem?_take] at hc;split at hc
    ·rw[List.getD_eq_getElem?_getD,hc]; rfl
    ·cases hc
   rw[this]
theorem uK {α β γ:Type}{R:α→β→Prop}{f:γ→α}{k:γ→β}:∀ {l:List γ},(∀ i∈l,R (f i) (k i))→aC R (l.map f) (l.map k)
 | [],_=>trivial
 | x::l,h=>⟨h x (by simp),uK fun i hi=>h i (by simp[hi])⟩
instance:Inhabited (List Int×Sv):=⟨([],⟨none,0,0⟩)⟩
theorem zo {fuel:Nat}{v:Value}{x:DataW H×List MemPlace}(h:DataW.trod enc Tryz.prog W base spare hd fuel 22 [v]=some x):∃ ls,cR (pH W) v ls:=by
 rcases Go.Deep.open_slice1 eD cells83 h with ⟨hcs,_⟩ | ⟨a,len,cap,m,n,V,D,Pl,hcs,_,hl,_,hmm,_,hx⟩
 ·simp at hcs;subst hcs;exact⟨[],[],Sl.nil _ _,trivial⟩
 ·simp at hcs;subst hcs;have hlm:len≤m:=by rw[hmm]; split <;> omega
  obtain ⟨f,hf⟩:=Go.Deep.choose_lt (α:=List Int×Sv) (n:=len) (p:=fun i y=>V i = .slice y.2.p y.2.n y.2.c∧dJ (pH W) (V i) y.1) fun i hi=>by
   obtain ⟨l,r,h1,h2⟩:=A6 (hx i oM).2;exact⟨(l,r),h1,h2⟩
  refine⟨(List.range len).map fun i=>(f i).1,(List.range len).map fun i=>(f i).2,?_,uK fun i hi=>?_⟩
  ·show Sl (pH W) 1 _ ((List.range len).map fun i=>(f i).2).length (((List.range len).map fun i=>(f i).2).flatMap ek.enc);have he:((List.range len).map fun i=>(f i).2).flatMap ek.enc=(List.range len).map fun i=>V i:=by
    have:∀ l:List Nat,(∀ i∈l,i<len)→(l.map fun i=>(f i).2).flatMap ek.enc=l.map fun i=>V i:=by
     intro l;induction l with
     | nil=>intro _; rfl
     | cons y t ih =>
      intro hy;rw[List.map_cons,List.flatMap_cons,ih fun i hi=>hy i (by simp[hi]),List.map_cons,(hf y (hy y (by simp))).1];rfl
    exact this _ fun i hi=>List.mem_range.1 hi
   rw[he,List.length_map,List.length_range];refine zV hl (by simp) fun i y hi=>?_;rw[List.getElem?_map] at hi;cases hc:(List.range len)[i]? with
   | none=>rw[hc] at hi; cases hi
   | some z =>
    rw[hc] at hi;cases hi;obtain ⟨h1,h2⟩:=List.getElem?_eq_some_iff.1 hc;simp at h1 h2;subst h2;exact (hx i oM).1
  ·have:=hf i (List.mem_range.1 hi);unfold dD;rw[← this.1];exact this.2
theorem yT {r:Reach}{b0:Nat}{v:Value}{d:DataW H}{p:List MemPlace}(hv:Value.okWide Tryz.prog W r b0 24 v)(h:DataW.Trod enc Tryz.prog W base spare hd 24 v d p):∃ (k y:Int) (u:Value) (ls:List (List Int)),v = .agg #[vi k,u,vi y]∧cR (pH W) u ls:=by
 obtain ⟨c0,c1,c2,y0,y1,y2,n,rfl,_,_,h0,h1,h2⟩:=Go.Joins.open_agg3 kX kR cells24 hv h;obtain ⟨a,e0,_,_⟩:=DataW.trod_int uT3 h0;obtain ⟨c,e2,_,_⟩:=DataW.trod_int uT3 h2;obtain ⟨ls,hls⟩:=zo h1;simp at e0 e2;subst e0;subst e2;exact⟨a,c,c1,ls,I,hls⟩
end
end Go.Proofs.YtackilpikhkijaaGreatDoor
namespace Go.Sy
open Go
section
variable {P:Program}{N:Nat}{E:World}{f:Fr}{g:PH}{s s1:Own}{dst:Option Tmp}{ty:TypeId}{pos:String}{af:Array Edge}{gd:Option (Nat×Bool)}{α:Type}{k:Nat}{e:Enc α k}
end
end Go.Sy
namespace Go.Proofs.YtackilpikhkijaaGreatDoor
open _root_.Go.Proofs.Tryz _root_.Go.Proofs.YtackilpikhkijaaGreatDoor.Tryz
open Go Go.Sy Go.Pl Go.Proofs
def Ao (A:List Cl)(k:Int):Option (List Int):=(aA A k).map fun c=>c.sides.map Side.cell
def Bt (A:List Cl)(m:List Int):Nat:=((A.filter fun c=>!m.contains c.id).map fun c=>c.sides.length).sum
structure Wide (A:List Cl)(ids left m:List Int):Prop where
 sound:∀ x∈m,∃ id∈ids,Rch (Ao A) id x
 todo:∀ x∈left,Ao A x≠none→∃ id∈ids,Rch (Ao A) id x
 start:∀ x∈ids,Ao A x≠none→x∈left∨x∈m
 sides:∀ x∈m,∀ l,Ao A x=some l→∀ y∈l,Ao A y≠none→y∈left∨y∈m
 few:left.length+Bt A m≤ids.length+Bt A []
set_option maxRecDepth 100000
set_option maxHeartbeats 1000000
theorem Tryz.sty124:STy Tryz.prog 124 4 1 1 (vb false):=⟨underlying124,⟨t4,by kernel_rfl,by kernel_rfl,by kernel_rfl,by kernel_rfl⟩,rfl,by decide⟩
def iy:Enc Bool 1:=⟨fun n=>[vb n],fun _=>rfl,fun _ u hu=>by simp at hu; subst hu; rfl,by decide⟩
def ge (A:List Cl)(m:List Int):List Bool:=A.map fun c=>m.contains c.id
theorem yf (A:List Cl):ge A []=List.replicate A.length false:=by
 unfold ge;induction A with
 | nil=>rfl
 | cons d t ih=>simp[List.replicate_succ] at ih ⊢; exact ih
theorem yg {A:List Cl}{m:List Int}{k:Nat}{c:Cl}(h:A[k]?=some c):(ge A m)[k]?=some (m.contains c.id):=by simp[ge,h]
theorem ye {A:List Cl}{m:List Int}{k:Nat}{c:Cl}(hn:(A.map Cl.id).Nodup)(h:A[k]?=some c):(ge A m).set k true=ge A (m++[c.id]):=by
 obtain ⟨hk,hc⟩:=List.getElem?_eq_some_iff.1 h;apply List.ext_getElem?;intro q;rw[List.getElem?_set];unfold ge;simp only[List.getElem?_map,List.length_map];split
 ·rename_i e;subst e;simp[hk,hc]
 ·rename_i hne;cases hq:A[q]? with
  | none=>rfl
  | some d =>
   obtain ⟨hq1,hq2⟩:=List.getElem?_eq_some_iff.1 hq;have hd:¬ d.id=c.id:=fun e=>by
    have h1:(A.map Cl.id)[q]?=some c.id:=by simp[hq,e]
    have h2:(A.map Cl.id)[k]?=some c.id:=by simp[h]
    obtain ⟨i1,e1⟩:=List.getElem?_eq_some_iff.1 h1;obtain ⟨i2,e2⟩:=List.getElem?_eq_some_iff.1 h2
    rcases Nat.lt_or_gt_of_ne hne with h3 | h3
    ·exact List.pairwise_iff_getElem.1 hn k q i2 i1 h3 (e2.trans e1.symm)
    ·exact List.pairwise_iff_getElem.1 hn q k i1 i2 h3 (e1.trans e2.symm)
   simp[hd]
section
variable {φ:Int→Int}{K:Int→Prop}(hφ:∀ a b,K a→K b→φ a=φ b→a=b)
include hφ
omit hφ in
omit hφ in
end
def code (k q:Nat):Int:=if q<k then ((q * 16+k:Nat):Int) else ((k * 16+(q+1):Nat):Int)
structure uP (all:List (List Int)):Prop where
 strict:e7 all
 form:∀ s∈all,s≠[]∧eo s∧s.length≤9
 faces:∀ s∈all,2≤s.length→∀ k,k<s.length→s.eraseIdx k∈all
section
variable {all:List (List Int)}(hg:uP all)
include hg
end
def ixC (all:List (List Int))(t:List Int):Int:=((lbL all t:Nat):Int)+1
def BJ (all:List (List Int))(s:List Int):List Side:=if s.length≤1 then [] else (List.range s.length).reverse.map fun k:Nat=>⟨ixC all (s.eraseIdx k),eh k⟩
def celC (all:List (List Int))(s:List Int):Cl:=⟨ixC all s,(s.length:Int) - 1,BJ all s⟩
theorem uy {A:List Cl}(h:(A.map Cl.id).Nodup){x:Cl}(hx:x∈A):aA A x.id=some x:=by
 induction A with
 | nil=>simp at hx
 | cons c t ih =>
  simp only[List.map_cons,List.nodup_cons] at h;unfold aA
  rcases List.mem_cons.1 hx with rfl | hx
  ·simp
  ·have hne:¬ c.id=x.id:=fun e=>h.1 (by rw[e]; exact List.mem_map.2 ⟨x,hx,rfl⟩);rw[List.find?_cons];simp only[hne,decide_false];exact ih h.2 hx
theorem vw (c:Cl):fB (fB c)=fB c:=by
 unfold fB;rw[← cH (co c.sides) (aF.refl _)]
theorem j7 (l:List Cl):aa (aa l)=aa l:=by
 have h1:sortBy Cl.id (aa l)=aa l:=(cH (gj l) (aF.refl _)).symm;show (sortBy Cl.id (aa l)).map fB=aa l;rw[h1];unfold aa;rw[List.map_map];exact List.map_congr_left fun c _=>vw c
section
variable {all:List (List Int)}(hg:uP all)
include hg
end
section
variable {all:List (List Int)}(hg:uP all)
include hg
end
section
variable {all:List (List Int)}(hg:uP all)
include hg
end
open Go.ChangeShapes Go.WideShapes Go.ChangeAt Go.RowKit
set_option maxRecDepth 100000
section
variable {H:Type}{enc:TypeId×Value→H}{W:World}{base:Nat}{spare:Nat→Bool}{hd:Bool}
end
end Go.Proofs.YtackilpikhkijaaGreatDoor
