/- 8 -/
import Derived.Test.YtcfkpajlakidbaaGreatDoorTb07
import Derived.Test.YtcfkpajlakidbaaGreatDoorTb03
import Derived.Test.YtcfkpajlakidbaaGreatDoorTb06
set_option linter.unusedSimpArgs false
set_option linter.unusedVariables false
namespace Go.Proofs.YtcfkpajlakidbaaGreatDoor
open _root_.Go.Proofs.Tryz _root_.Go.Proofs.YtcfkpajlakidbaaGreatDoor.Tryz
open Go Go.Sy Go.Pl Go.Proofs
set_option maxRecDepth 100000
set_option maxHeartbeats 2000000
theorem dx {l:List Cl}(h:(aK l).2=0):l.length≤4000∧(aa l).Pairwise (fun a b=>a.id<b.id)∧ae l=aa l∧∀ x∈aa l,cz (ae l) x=0:=by
 unfold aK at h;split at h
 ·exact absurd h dC
 ·rename_i hl;cases hc:gg (ae l) (aa l) 0 with
  | some p=>rw[hc] at h; exact absurd h (uj hc)
  | none =>
   have hst:=(j4 hc).2;exact⟨oM,hst,aJ hst,kO hc⟩
theorem wl:∀ {l:List Int} {k:Nat} (h:k<l.length),l.Pairwise (· < ·)→lbI l l[k]=k:=by
 intro l;induction l with
 | nil=>intro k h; simp at h
 | cons a r ih =>
  intro k h hs;obtain ⟨h1,h2⟩:=zj7.1 hs;cases k with
  | zero =>
   unfold lbI;rw[List.length_eq_zero_iff,List.filter_eq_nil_iff];intro y hy
   rcases ze8.1 hy with rfl | hy
   ·simp
   ·have:=h1 y hy; simp; omega
  | succ k =>
   have hk:k<r.length:=by simpa using h
   have hlt:=h1 r[k] (gM hk);have:=ih hk h2;unfold lbI at this ⊢;simp[hlt,this]
theorem wH {tl:List Cl}(hs:(tl.map Cl.id).Pairwise (· ≤ ·)){id:Int}(h:(aG tl id).isSome=true):atC tl id=lbI (tl.map Cl.id) id:=by
 obtain ⟨c,hc⟩:=zh6.1 h;have hm:(tl.map Cl.id).contains id=true:=by
  obtain ⟨h1,h2⟩:=cV hc;simp;exact⟨c,h1,h2⟩
 unfold atC;rw[zf8 hm]
def cw (a b:List Cl):Bool:=!decide ((aK a).2=0) || !decide ((aK b).2=0)||decide (((ae a).length:Int) * (ae b).length>4000)
def bM (a b:List Cl):List Cl:=if cw a b then [] else if (aK (cY a b)).2=0 then aa (cY a b) else []
theorem lT {α β:Type}{l:List α}{i:Nat}(h:i<l.length)(f:α→List β):(l.take (i+1)).flatMap f=(l.take i).flatMap f++f l[i]:=by
 rw[tS h,List.flatMap_append];simp
theorem eI (E:World)(g:PH)(s:Own)(v u:Value)(a b:List Cl)(hv:ao g v a)(hu:ao g u b)(ha:cU a)(hb:cU b) :
  Ctr Tryz.prog E 60 #[.agg #[v],.agg #[u]] g s (fun r g' s'=>s=s'∧Le g g'∧∃ x,r = .agg #[x]∧ao g' x (bM a b)):=by
 obtain ⟨vp0,vc0,hvf⟩:=hv.form;obtain ⟨up0,uc0,huf⟩:=hu.form;have hbadA:¬ (aK a).2=0→cw a b=true:=fun h=>by simp[cw,h]
 have hbadB:(aK a).2=0→¬ (aK b).2=0→cw a b=true:=fun h h2=>by simp[cw,h2]
 have hbadC:(aK a).2=0→(aK b).2=0→cw a b=decide (((ae a).length:Int) * (ae b).length>4000):=fun h h2=>by simp[cw,h,h2]
 have hta:=jO a;have htb:=jO b;have hmul:(aK a).2=0→(aK b).2=0→((ae a).length:Int) * (ae b).length≤16000000∧0≤((ae a).length:Int) * (ae b).length:=fun h h2=>uZ (zk3 hta (dx h).1) (zk3 htb (dx h2).1);refine za9 (args:=[.agg #[v],.agg #[u]]) func60 I ntmps60 (bE I) ?_;refine rZ (bW (bO I) fun b2=>?_);refine bW (bO I) fun b3=>?_;refine bW (aL zk8) fun b4=>?_;refine tZ (rZ (lK (qV 2 aY ar I I I) (lW (cL call74 I (fx E g _ _ a hv ha)) ?_)));rintro _ g1 _ ⟨rfl,rfl,hle1⟩;refine aT I (rZ (lK (qV 1 aY ar I I I) (lW (cL call74 I (fx E g1 _ _ b (hu.mono hle1) hb)) ?_)));rintro _ g2 _ ⟨rfl,rfl,hle2⟩;refine aT I (rZ (lK (qV 2 aY ar I I I) (lW (cL call67 I (ct E g2 _ _ a (hv.mono (hle1.trans hle2)) ha)) ?_)));rintro v24 g3 _ ⟨rfl,hle3,hA⟩;refine aT I (rZ (lK (qV 1 aY ar I I I) (lW (cL call67 I (ct E g3 _ _ b (hu.mono (hle1.trans (hle2.trans hle3))) hb)) ?_)));rintro v26 g4 _ ⟨rfl,hle4,hB⟩;obtain ⟨ra,hra0,halla0⟩:=hA;have hra:=hra0.mono hle4;have halla:=halla0.mono fun _ _=>aq.mono hle4;obtain ⟨rb,hrb,hallb⟩:=hB;have eal:=halla.length;have ebl:=hallb.length;obtain ⟨pa,ca,rfl⟩:=hra.form;obtain ⟨pb,cb,rfl⟩:=hrb.form;refine aT I (sQ ?_);refine SC.cutB 40 ((cw a b)) ?_ ?_
 ·refine rG (lM I (lU (SU.notP I) (lM I ?_)));refine sP ?_ ?_
  ·intro h29;refine yA I (yA I (yP I (lM I (yA I (yA I (yA I (yA I (yA I (yA I (yP I (nL ?_)))))))))));exact za8 (by (rw[hbadA h29]; rfl)) mI
  ·intro h29;refine yC I (lY I I I (SU.notP I) (yF I (lM I ?_)));refine sP ?_ ?_
   ·intro h33;refine yA I (yA I (yA I (yA I (yA I (yA I (yP I (nL ?_)))))));exact za8 (by (rw[hbadB (zg7 h29) h33]; rfl)) mI
   ·intro h33;refine yC I (lY I I I (eN az I) (yC I (lY I I I (eN az I) (lY I I I (SU.mul I I (by have:=hmul (zg7 h29) (zg7 h33); rw[eal,ebl] at this; omega)) ?_))));refine lY I I I (gR I I) (yF I (nL ?_));exact za8 (by (rw[hbadC (zg7 h29) (zg7 h33),eal,ebl]; rfl)) mI
 refine iQ I (fun hbad=>?_) (fun hbad=>?_)
 ·refine rZ (lU (za1 I (buildE31)) (oZ (sK 0 ar I I I I I sB) ?_));refine tZ (rE (tR ?_));exact ST.retCD 0 s (.inl I) results60 I aY ar I I uR ⟨I,hle1.trans (hle2.trans (hle3.trans hle4)),_,I,by unfold bM; rw[zf8 hbad]; exact⟨[],zb8 _ _,trivial⟩⟩
 ·have hra0:(aK a).2=0:=zg7 fun h=>by rw[hbadA h] at hbad; cases hbad
  have hrb0:(aK b).2=0:=zg7 fun h=>by rw[hbadB hra0 h] at hbad; cases hbad
  have hsz:((ae a).length:Int) * (ae b).length≤4000:=by rw[hbadC hra0 hrb0] at hbad; simp at hbad; omega
  obtain ⟨hal,hastr,hat,haf⟩:=dx hra0;obtain ⟨hbl,hbstr,hbt,hbf⟩:=dx hrb0;rw[← hat] at hastr haf;rw[← hbt] at hbstr hbf;have hats:=em a;have hbts:=em b;have hai:((ae a).map Cl.id).Pairwise (· < ·):=zj8.2 hastr;have hbi:((ae b).map Cl.id).Pairwise (· < ·):=zj8.2 hbstr;have hall4:ae a=aa a→ae b=aa b→cY a b=(ae a).flatMap fun x=>(ae b).map (dw (ae a) (ae b) x):=fun h h2=>by unfold cY; rw[← h,← h2]
  have hprod:=hall4 hat hbt;have hCa:ao g4 (.slice pa ra.length ca) (ae a):=⟨ra,hra,halla⟩;have hCb:ao g4 (.slice pb rb.length cb) (ae b):=⟨rb,hrb,hallb⟩;refine kP (tN (sW I (lU (eN az I) (aT I (rZ (bW (aL zk8) fun b10=>?_))))));refine tZ (sQ (rZ (aT I (bK (zb4 64 3 ?_)))));refine oP (ι:=PH×Value×List Rc×Nat) (fun i=>[(2,pp b2 0),(3,pp b3 0),(4,pp b4 0),(7,.slice pa ra.length ca),(8,.slice pb rb.length cb),(9,vi rb.length),(10,pp b10 0),(11,vi i.2.2.2)]) (fun i=>i.1) (fun i=>rowA encCell 64 i.2.1 i.2.2.1::pt b10 (.cells #[i.2.1] 31 (0,0))::pt b4 (.cells #[.slice none 0 0] 31 (0,0))::pt b3 (.cells #[u] 31 (0,0))::pt b2 (.cells #[v] 31 (0,0))::s)
   (fun i=>Le g4 i.1∧i.2.2.2≤ra.length∧au (aq i.1) (((ae a).take i.2.2.2).flatMap fun x=>(ae b).map (dw (ae a) (ae b) x)) i.2.2.1) (fun i=>ra.length - i.2.2.2)
   (g4,.slice none 0 0,[],0) sB rfl rfl ⟨zb7 g4,zf4 _,trivial⟩ ?_
  rintro ⟨g5,ov,rcs,i⟩ ⟨hle5,hi,hrcs⟩;dsimp only at hle5 hi hrcs ⊢;refine sQ (sW I (lM I (lU (eN az I) (yL I (tZ ?_)))));refine iP I (fun hlt=>?_) (fun hlt=>?_)
  ·have hil:i<(ae a).length:=oM;have hir:i<ra.length:=oM;have hb1:=hra.based oM;have hxr:=halla.get (gE hil) (gE hir);have hgx0:ra[((i:Nat):Int).toNat]?=some ra[i]:=gE hir;have hxm:=gM hil;have hxi:lbI ((ae a).map Cl.id) (ae a)[i].id=i:=by
    have:=wl (l:=(ae a).map Cl.id) (k:=i) (by simpa using hil) hai;simpa using this
   have hsucc:=lT hil fun x=>(ae b).map (dw (ae a) (ae b) x);generalize hxe:(ae a)[i]=x at *;obtain ⟨xp,xcap,hrx,hxs⟩:=dq hxr;rw[hrx] at hgx0;have hgx:=hgx0;have hxf:=haf x hxm;have hxd:=ws hxf;have hxo:=iK hxf;have hxfd:=lC hxf;refine kP (tN (sQ (bK (rZ (aT I (bK ?_))))));refine oP (ι:=PH×Value×List Rc×Nat) (fun k=>[(2,pp b2 0),(3,pp b3 0),(4,pp b4 0),(7,.slice pa ra.length ca),(8,.slice pb rb.length cb),(9,vi rb.length),(10,pp b10 0),(11,vi i),(12,vi k.2.2.2)]) (fun k=>k.1) (fun k=>rowA encCell 64 k.2.1 k.2.2.1::pt b10 (.cells #[k.2.1] 31 (0,0))::pt b4 (.cells #[.slice none 0 0] 31 (0,0))::pt b3 (.cells #[u] 31 (0,0))::pt b2 (.cells #[v] 31 (0,0))::s)
    (fun k=>Le g5 k.1∧k.2.2.2≤rb.length∧au (aq k.1) ((((ae a).take i).flatMap fun x=>(ae b).map (dw (ae a) (ae b) x))++((ae b).take k.2.2.2).map (dw (ae a) (ae b) x)) k.2.2.1) (fun k=>rb.length - k.2.2.2)
    (g5,ov,rcs,0) sB rfl rfl ⟨zb7 g5,zf4 _,by simpa using hrcs⟩ ?_
   rintro ⟨g6,ov2,rcs2,k⟩ ⟨hle6,hk,hrcs2⟩;dsimp only at hle6 hk hrcs2 ⊢;refine sQ (sW I (lM I (yL I (tZ ?_))));refine iP I (fun hlt2=>?_) (fun hlt2=>?_)
   ·have hkl:k<(ae b).length:=oM;have hkr:k<rb.length:=oM;have hb2:=hrb.based oM;have hyr:=hallb.get (gE hkl) (gE hkr);have hgy0:rb[((k:Nat):Int).toNat]?=some rb[k]:=gE hkr;have hym:=gM hkl;have hyi:lbI ((ae b).map Cl.id) (ae b)[k].id=k:=by
     have:=wl (l:=(ae b).map Cl.id) (k:=k) (by simpa using hkl) hbi;simpa using this
    have htk:((ae b).take (k+1)).map (dw (ae a) (ae b) x)=((ae b).take k).map (dw (ae a) (ae b) x)++[dw (ae a) (ae b) x (ae b)[k]]:=by rw[tS hkl,zg3]; rfl
    generalize hye:(ae b)[k]=y at *;obtain ⟨yp,ycap,hry,hys⟩:=dq hyr;rw[hry] at hgy0;have hgy:=hgy0;have hyf:=hbf y hym;have hyd:=ws hyf;have hyo:=iK hyf;have hyfd:=lC hyf;have hlenr:=hrcs2.length;have hbnd:(i:Int) * rb.length≤4000:=by
     have h1:(i:Int) * rb.length≤(ra.length:Int) * rb.length:=Int.mul_le_mul_of_nonneg_right oM oM;rw[eal,ebl] at hsz;omega
    have hbnd0:0≤(i:Int) * rb.length:=Int.mul_nonneg oM oM;have hrcl:rcs2.length≤4000:=by
     have h1:rcs2.length=i * rb.length+k:=by
      rw[← hlenr,ze3,ze4,ze2,ij,ze2,← ebl];rw[Nat.min_eq_left oM,Nat.min_eq_left oM]
     have h2:i * rb.length+k≤ra.length * rb.length:=by
      have h3:(i+1) * rb.length≤ra.length * rb.length:=Nat.mul_le_mul_right _ oM;rw[Nat.succ_mul] at h3;omega
     have h4:((ra.length * rb.length:Nat):Int)≤4000:=by rw[eal,ebl] at hsz; rw[Int.natCast_mul]; exact hsz
     omega
    have hid:a7 (ae a) (ae b) x.id y.id=(i:Int) * rb.length+k+1:=by unfold a7; rw[hxi,hyi,ebl]
    have hra6:=hra.mono (hle5.trans hle6);have hrb6:=hrb.mono (hle5.trans hle6);have hxs6:=hxs.mono (hle5.trans hle6);have hys6:=hys.mono (hle5.trans hle6);refine kP (tN (sQ (bK (sQ ?_))));refine dW [] [(0,2),(1,2),(2,2),(3,2),(4,2),(5,2),(6,2),(7,2),(8,2),(9,2),(10,1),(11,2),(12,2),(13,2),(14,2),(15,1),(16,2),(17,2),(18,0),(19,0)] ze1 kR ?_;refine yM I (yM I (pU I (SU.mul I I oM) (yM I (pU I (aD I I oM) (pU I (aD I I oM) (yM I (yM I (pU I (iA az aw I I hb1 oM sL) (pU I (fC am I zT3 I hb1) (pK I (aZ (e:=encCell) (o:=1) (u:=vi x.dim) iT3 I hra6.rd hgx I) (yM I (yM I (pU I (iA az aw I I hb2 oM sL) (pU I (fC am I zT3 I hb2) (pK I (aZ (e:=encCell) (o:=1) (u:=vi y.dim) iT3 I hrb6.rd hgy I) (pU I (aD I I oM) (pU I (za1 I (buildC64 _ _)) (SP.o I (aL zk9) dC (.inr iR) ?_))))))))))))))))));rintro _ _ _ ⟨b13,rfl,rfl,rfl⟩;refine SP.on I (sK 0 aw I I I I I sB) (.inr iR) ?_;rintro _ _ _ ⟨rfl,rfl⟩;refine pN (tN (sQ (rZ (aT I (bK ?_)))));refine SC.to (fun w hw=>?_) (g':=g6) (s':=pt b13 (.cells #[vi (a7 (ae a) (ae b) x.id y.id),vi (x.dim+y.dim),.slice none 0 0] 64 (0,0))::rowA encCell 64 ov2 rcs2::pt b10 (.cells #[ov2] 31 (0,0))::pt b4 (.cells #[.slice none 0 0] 31 (0,0))::pt b3 (.cells #[u] 31 (0,0))::pt b2 (.cells #[v] 31 (0,0))::s) ?_
    ·rw[hid]; exact hw
    refine zb4 67 2 ?_;refine oP (ι:=Value×Nat) (fun j=>[(2,pp b2 0),(3,pp b3 0),(4,pp b4 0),(7,.slice pa ra.length ca),(8,.slice pb rb.length cb),(9,vi rb.length),(10,pp b10 0),(11,vi i),(12,vi k),(13,pp b13 0),(14,vi j.2)]) (fun _=>g6)
     (fun j=>rowA encSide 67 j.1 ((x.sides.take j.2).map fun q=>(⟨a7 (ae a) (ae b) q.cell y.id,q.sign⟩:aj))::pt b13 (.cells #[vi (a7 (ae a) (ae b) x.id y.id),vi (x.dim+y.dim),j.1] 64 (0,0))::rowA encCell 64 ov2 rcs2::pt b10 (.cells #[ov2] 31 (0,0))::pt b4 (.cells #[.slice none 0 0] 31 (0,0))::pt b3 (.cells #[u] 31 (0,0))::pt b2 (.cells #[v] 31 (0,0))::s)
     (fun j=>j.2≤x.sides.length) (fun j=>x.sides.length - j.2) (.slice none 0 0,0) sB rfl rfl (zf4 _) ?_
    rintro ⟨sv,j⟩ hj;dsimp only at hj ⊢;refine sQ (sW I (lM I (lM I (lU (iA az aw I I hb1 oM sL) (lU (fC am I aX I hb1) (lK (aZ (e:=encCell) (o:=2) (u:=.slice xp x.sides.length xcap) bH I hra6.rd hgx I) (lU (eN bF I) (yL I (tZ ?_)))))))));refine iP I (fun hlt3=>?_) (fun hlt3=>?_)
    ·have hjl:j<x.sides.length:=oM;have hb3:=hxs6.based oM;have hjx:x.sides[((j:Nat):Int).toNat]?=some x.sides[j]:=gE hjl;have htj:(x.sides.take (j+1)).map (fun q=>(⟨a7 (ae a) (ae b) q.cell y.id,q.sign⟩:aj))=(x.sides.take j).map (fun q=>(⟨a7 (ae a) (ae b) q.cell y.id,q.sign⟩:aj))++[⟨a7 (ae a) (ae b) x.sides[j].cell y.id,x.sides[j].sign⟩]:=by rw[tS hjl,zg3]; rfl
     have hqf:=hxfd _ (gM hjl);generalize x.sides[j]=z at *;have hatz:=wH hats hqf;have hlbz:=CA ((ae a).map Cl.id) z.cell;rw[ze4] at hlbz;have hidz:a7 (ae a) (ae b) z.cell y.id=((lbI ((ae a).map Cl.id) z.cell:Nat):Int) * rb.length+k+1:=by unfold a7; rw[hyi,ebl]
     have hbz:((lbI ((ae a).map Cl.id) z.cell:Nat):Int) * rb.length≤4000:=by
      have h1:((lbI ((ae a).map Cl.id) z.cell:Nat):Int) * rb.length≤(ra.length:Int) * rb.length:=Int.mul_le_mul_of_nonneg_right oM oM;rw[eal,ebl] at hsz;omega
     have hbz0:0≤((lbI ((ae a).map Cl.id) z.cell:Nat):Int) * rb.length:=Int.mul_nonneg oM oM;refine kP (tN (sQ (bK (sW I (lM I (lU (iA az aw I I hb1 oM sL) (lU (fC am I aX I hb1) (lK (aZ (e:=encCell) (o:=2) (u:=.slice xp x.sides.length xcap) bH I hra6.rd hgx I) (lM I (lU (iA bF bJ I I hb3 oM sL) (lK (eA mD bJ I hxs6.rd hjx) (bW (aL zk7) fun b15=>?_))))))))))));refine oZ (sK 0 bJ I I I I I sB) ?_;refine tZ ?_;refine SC.to (fun w hw=>hw) (g':=g6) (s':=pt b15 (.cells #[vi z.cell,vi z.sign] 67 (0,0))::rowA encSide 67 sv ((x.sides.take j).map fun q=>(⟨a7 (ae a) (ae b) q.cell y.id,q.sign⟩:aj))::pt b13 (.cells #[vi (a7 (ae a) (ae b) x.id y.id),vi (x.dim+y.dim),sv] 64 (0,0))::rowA encCell 64 ov2 rcs2::pt b10 (.cells #[ov2] 31 (0,0))::pt b4 (.cells #[.slice none 0 0] 31 (0,0))::pt b3 (.cells #[u] 31 (0,0))::pt b2 (.cells #[v] 31 (0,0))::s) ?_;refine dW [15,16,17] [(0,2),(1,1),(2,2),(3,2),(4,1),(6,2),(8,2),(11,2),(12,1),(5,0),(7,2),(9,2),(10,2),(13,2),(14,0),(15,0),(16,0),(17,0)] ze1 kR ?_;refine pU I (fA am I aX I) (pK I (qL (v:=sv) bH I (cO 2 I I)) (yM I (pU I (fA de I zT3 I) (pK I (qL (v:=vi z.cell) iT3 I (cO 0 I I)) (yM I (yM I (pU I (fA de I zT3 I) (pK I (qL (v:=vi z.sign) iT3 I (cO 0 I I)) (SP.o I (cL call68 I (e8 E g6 _ _ (ae a) z.cell (hCa.mono (hle5.trans hle6)) oM hats)) dC (.inr iR) ?_)))))))));rintro _ _ _ ⟨rfl,rfl,rfl⟩;rw[hatz];refine pU I (SU.mul I I oM) (pU I (aD I I oM) (pU I (SU.eq (v':=vi (a7 (ae a) (ae b) z.cell y.id)) (aD I I oM) (zd9 vi hidz.symm)) (pU I (za1 I (buildS67 _ _)) (SP.o I (bS sty62 I I I (ab sB) dC) dC (.inr iR) ?_))));rintro _ _ _ ⟨b105,rfl,rfl,rfl⟩;refine SP.o I (aP (e:=encSide) 1 ⟨a7 (ae a) (ae b) z.cell y.id,z.sign⟩ sty62 I I I I I (by simp; omega) (by simp; omega)) dC (.inl dC) ?_;rintro sv' _ _ ⟨rfl,rfl⟩;rw[← htj];refine zc9 fun ⟨w0,hw0⟩=>?_;obtain ⟨q6,d6,rfl⟩:=ag (i:=1) hw0 rfl;clear hw0 w0;refine oU rfl (fA am rfl aX rfl) dC (.inl dC) (SP.on rfl (SO.store1 2 aX rfl rfl rfl rfl (bE rfl) (by rfl)) (.inl dC) ?_);rintro _ _ _ ⟨rfl,rfl⟩;refine pN (bN (tN (rG (lM I (yD I (lA I (nL (dR (s':=rowA encSide 67 (.slice q6 ((x.sides.take (j+1)).map fun q=>(⟨a7 (ae a) (ae b) q.cell y.id,q.sign⟩:aj)).length d6) ((x.sides.take (j+1)).map fun q=>(⟨a7 (ae a) (ae b) q.cell y.id,q.sign⟩:aj))::pt b13 (.cells #[vi (a7 (ae a) (ae b) x.id y.id),vi (x.dim+y.dim),.slice q6 ((x.sides.take (j+1)).map fun q=>(⟨a7 (ae a) (ae b) q.cell y.id,q.sign⟩:aj)).length d6] 64 (0,0))::rowA encCell 64 ov2 rcs2::pt b10 (.cells #[ov2] 31 (0,0))::pt b4 (.cells #[.slice none 0 0] 31 (0,0))::pt b3 (.cells #[u] 31 (0,0))::pt b2 (.cells #[v] 31 (0,0))::s) (.cons _ (.refl _)) ?_))))))));exact gA (_,j+1) sB I I lN lN
    ·have hjj:x.sides.take j=x.sides:=tL oM;rw[hjj];generalize hfl1:x.sides.map (fun q=>(⟨a7 (ae a) (ae b) q.cell y.id,q.sign⟩:aj))=fl1 at *;have hfl1l:fl1.length=x.sides.length:=by rw[← hfl1,ze4]
     refine xI (tX (tX (bX (tN (sQ (rZ (aT I (bK ?_))))))));refine oP (ι:=Value×Nat) (fun m=>[(2,pp b2 0),(3,pp b3 0),(4,pp b4 0),(7,.slice pa ra.length ca),(8,.slice pb rb.length cb),(9,vi rb.length),(10,pp b10 0),(11,vi i),(12,vi k),(13,pp b13 0),(16,vi m.2)]) (fun _=>g6)
      (fun m=>rowA encSide 67 m.1 (fl1++(y.sides.take m.2).map fun q=>(⟨a7 (ae a) (ae b) x.id q.cell,cI x.dim * q.sign⟩:aj))::pt b13 (.cells #[vi (a7 (ae a) (ae b) x.id y.id),vi (x.dim+y.dim),m.1] 64 (0,0))::rowA encCell 64 ov2 rcs2::pt b10 (.cells #[ov2] 31 (0,0))::pt b4 (.cells #[.slice none 0 0] 31 (0,0))::pt b3 (.cells #[u] 31 (0,0))::pt b2 (.cells #[v] 31 (0,0))::s)
      (fun m=>m.2≤y.sides.length) (fun m=>y.sides.length - m.2) (sv,0) sB rfl (by simp) (zf4 _) ?_
     rintro ⟨sv2,m⟩ hm;dsimp only at hm ⊢;refine sQ (sW I (lM I (lM I (lU (iA az aw I I hb2 oM sL) (lU (fC am I aX I hb2) (lK (aZ (e:=encCell) (o:=2) (u:=.slice yp y.sides.length ycap) bH I hrb6.rd hgy I) (lU (eN bF I) (yL I (tZ ?_)))))))));refine iP I (fun hlt4=>?_) (fun hlt4=>?_)
     ·have hml:m<y.sides.length:=oM;have hb3:=hys6.based oM;have hmx:y.sides[((m:Nat):Int).toNat]?=some y.sides[m]:=gE hml;have htm:fl1++(y.sides.take (m+1)).map (fun q=>(⟨a7 (ae a) (ae b) x.id q.cell,cI x.dim * q.sign⟩:aj))=fl1++(y.sides.take m).map (fun q=>(⟨a7 (ae a) (ae b) x.id q.cell,cI x.dim * q.sign⟩:aj))++[⟨a7 (ae a) (ae b) x.id y.sides[m].cell,cI x.dim * y.sides[m].sign⟩]:=by rw[tS hml,zg3]; simp
      have hqf:=hyfd _ (gM hml);have hqs:=hyo.2 _ (gM hml);generalize y.sides[m]=z at *;have hatz:=wH hbts hqf;have hlbz:=CA ((ae b).map Cl.id) z.cell;rw[ze4] at hlbz;have hidz:a7 (ae a) (ae b) x.id z.cell=(i:Int) * rb.length+((lbI ((ae b).map Cl.id) z.cell:Nat):Int)+1:=by unfold a7; rw[hxi,ebl]
      have hsgn:z.sign * cI x.dim=cI x.dim * z.sign:=Int.mul_comm _ _;have hsgc:=uJ x.dim;have htmod:x.dim.tmod 2=x.dim % 2:=Int.tmod_eq_emod_of_nonneg hxd.1;have hmulb : -1≤z.sign * cI x.dim∧z.sign * cI x.dim≤1:=by rcases hqs with h | h <;> rcases hsgc with h2 | h2 <;> rw[h,h2] <;> decide
      refine kP (tN (sQ (bK (sW I (lM I (lU (iA az aw I I hb2 oM sL) (lU (fC am I aX I hb2) (lK (aZ (e:=encCell) (o:=2) (u:=.slice yp y.sides.length ycap) bH I hrb6.rd hgy I) (lM I (lU (iA bF bJ I I hb3 oM sL) (lK (eA mD bJ I hys6.rd hmx) (bW (aL zk7) fun b17=>?_))))))))))));refine oZ (sK 0 bJ I I I I I sB) ?_;refine tZ ?_;refine SC.to (fun w hw=>hw) (g':=g6) (s':=pt b17 (.cells #[vi z.cell,vi z.sign] 67 (0,0))::rowA encSide 67 sv2 (fl1++(y.sides.take m).map fun q=>(⟨a7 (ae a) (ae b) x.id q.cell,cI x.dim * q.sign⟩:aj))::pt b13 (.cells #[vi (a7 (ae a) (ae b) x.id y.id),vi (x.dim+y.dim),sv2] 64 (0,0))::rowA encCell 64 ov2 rcs2::pt b10 (.cells #[ov2] 31 (0,0))::pt b4 (.cells #[.slice none 0 0] 31 (0,0))::pt b3 (.cells #[u] 31 (0,0))::pt b2 (.cells #[v] 31 (0,0))::s) ?_;refine dW [24,25,26] [(0,2),(1,1),(2,2),(3,2),(4,2),(5,2),(6,2),(7,1),(11,2),(12,1),(13,2),(14,2),(15,2),(16,2),(17,1),(18,2),(19,2),(20,2),(21,2),(8,0),(9,2),(10,2),(22,2),(23,0),(24,0),(25,0),(26,0)] ze1 kR ?_;refine pU I (fA am I aX I) (pK I (qL (v:=sv2) bH I (cO 2 I I)) (yM I (yM I (pU I (SU.mul I I oM) (yM I (pU I (fA de I zT3 I) (pK I (qL (v:=vi z.cell) iT3 I (cO 0 I I)) (pU I (fA de I zT3 I) (pK I (qL (v:=vi z.sign) iT3 I (cO 0 I I)) (yM I (yM I (pU I (iA az aw I I hb1 oM sL) (pU I (fC am I zT3 I hb1) (pK I (aZ (e:=encCell) (o:=1) (u:=vi x.dim) iT3 I hra6.rd hgx I) (pU I (SU.eq (v':=vi (x.dim % 2)) (zd6 I I dC) (zd9 vi htmod)) (pU I (SU.mul I I oM) (pU I (SU.eq (v':=vi (cI x.dim)) (sU I I oM) I) (pU I (SU.eq (v':=vi (cI x.dim * z.sign)) (SU.mul I I oM) (zd9 vi hsgn)) (SP.o I (cL call68 I (e8 E g6 _ _ (ae b) z.cell (hCb.mono (hle5.trans hle6)) oM hbts)) dC (.inr iR) ?_)))))))))))))))))));rintro _ _ _ ⟨rfl,rfl,rfl⟩;rw[hatz];refine pU I (aD I I oM) (pU I (SU.eq (v':=vi (a7 (ae a) (ae b) x.id z.cell)) (aD I I oM) (zd9 vi hidz.symm)) (pU I (za1 I (buildS67 _ _)) (SP.o I (bS sty62 I I I (ab sB) dC) dC (.inr iR) ?_)));rintro _ _ _ ⟨b149,rfl,rfl,rfl⟩;refine SP.o I (aP (e:=encSide) 1 ⟨a7 (ae a) (ae b) x.id z.cell,cI x.dim * z.sign⟩ sty62 I I I I I (by simp; omega) (by simp; omega)) dC (.inl dC) ?_;rintro sv3 _ _ ⟨rfl,rfl⟩;rw[← htm];refine zc9 fun ⟨w0,hw0⟩=>?_;obtain ⟨q7,d7,rfl⟩:=ag (i:=1) hw0 rfl;clear hw0 w0;refine oU rfl (fA am rfl aX rfl) dC (.inl dC) (SP.on rfl (SO.store1 2 aX rfl rfl rfl rfl (bE rfl) (by rfl)) (.inl dC) ?_);rintro _ _ _ ⟨rfl,rfl⟩;refine pN (bN (tN (rG (lM I (yD I (lA I (nL (dR (s':=rowA encSide 67 (.slice q7 (fl1++(y.sides.take (m+1)).map fun q=>(⟨a7 (ae a) (ae b) x.id q.cell,cI x.dim * q.sign⟩:aj)).length d7) (fl1++(y.sides.take (m+1)).map fun q=>(⟨a7 (ae a) (ae b) x.id q.cell,cI x.dim * q.sign⟩:aj))::pt b13 (.cells #[vi (a7 (ae a) (ae b) x.id y.id),vi (x.dim+y.dim),.slice q7 (fl1++(y.sides.take (m+1)).map fun q=>(⟨a7 (ae a) (ae b) x.id q.cell,cI x.dim * q.sign⟩:aj)).length d7] 64 (0,0))::rowA encCell 64 ov2 rcs2::pt b10 (.cells #[ov2] 31 (0,0))::pt b4 (.cells #[.slice none 0 0] 31 (0,0))::pt b3 (.cells #[u] 31 (0,0))::pt b2 (.cells #[v] 31 (0,0))::s) (.cons _ (.refl _)) ?_))))))));exact gA (_,m+1) sB I I lN lN
     ·have hmm:y.sides.take m=y.sides:=tL oM;rw[hmm];have hpc:dw (ae a) (ae b) x y=⟨a7 (ae a) (ae b) x.id y.id,x.dim+y.dim,fl1++y.sides.map fun q=>(⟨a7 (ae a) (ae b) x.id q.cell,cI x.dim * q.sign⟩:aj)⟩:=by unfold dw; rw[hfl1]
      generalize hfl2:(fl1++y.sides.map fun q=>(⟨a7 (ae a) (ae b) x.id q.cell,cI x.dim * q.sign⟩:aj))=fl2 at *;refine xI (tX (tX (bX (tN (rG (fR fun g7 hle7 hs7=>?_))))));have hsd:SlA encSide g7 sv2 fl2:=hs7;obtain ⟨q8,d8,rfl⟩:=za2 hsd;obtain ⟨nc,hnc⟩:∃ nc:Rc,nc=⟨a7 (ae a) (ae b) x.id y.id,x.dim+y.dim,⟨q8,fl2.length,d8⟩⟩:=⟨_,rfl⟩;refine lU (fA cH I bG I) (lK (qL dg I (cO 2 I I)) (lK (qV 0 eO aw I I I) (lW (bS sty29 I I I (ab sB) dC) ?_)));rintro _ _ _ ⟨b155,rfl,rfl,rfl⟩;refine lW (aP (e:=encCell) 1 nc sty29 I I I I (by rw[hnc]; rfl) oM oM) ?_;rintro v156 _ _ ⟨rfl,rfl⟩;refine zd1 fun ⟨w0,hw0⟩=>?_;obtain ⟨q9,d9,rfl⟩:=ag (i:=1) hw0 rfl;clear hw0 w0;refine lU (fA cH I bG I) (oZ (sK 2 bG I I I I I sB) ?_);refine nL (bN (tN (rG (lM I (yD I (lA I (nL (dR (s':=rowA encCell 64 (.slice q9 (rcs2++[nc]).length d9) (rcs2++[nc])::pt b10 (.cells #[(.slice q9 (rcs2++[nc]).length d9)] 31 (0,0))::pt b4 (.cells #[.slice none 0 0] 31 (0,0))::pt b3 (.cells #[u] 31 (0,0))::pt b2 (.cells #[v] 31 (0,0))::s) (.cons _ (.refl _)) ?_))))))));refine gA (g7,_,rcs2++[nc],k+1) sB I I ⟨hle6.trans hle7,lN,?_⟩ lN;dsimp only;rw[htk,← zg6];exact (hrcs2.mono fun _ _=>aq.mono hle7).append ⟨(by rw[hpc,hnc]; exact⟨I,I,hsd⟩),trivial⟩
   ·have hkk:(ae b).take k=ae b:=tL oM;rw[hkk] at hrcs2;refine xI (tX (tX (bX (bN (tN (rG (lM I (yD I (lA I (nL ?_))))))))));exact gA (g6,ov2,rcs2,i+1) sB I I ⟨hle5.trans hle6,lN,by dsimp only; rw[hsucc]; exact hrcs2⟩ lN
  ·have hii:(ae a).take i=ae a:=tL oM;rw[hii,← hprod] at hrcs;have hpl:(cY a b).length≤4000:=by
    rw[hprod,ij];have h4:(((ae a).length * (ae b).length:Nat):Int)≤4000:=by rw[Int.natCast_mul]; exact hsz
    omega
   have hfit:cU (cY a b):=by
    refine⟨oM,fun c hc=>?_⟩;rw[hprod] at hc;obtain ⟨x,hx,hc⟩:=List.mem_flatMap.1 hc;obtain ⟨y,hy,rfl⟩:=ze9.1 hc;have h1:=(iK (haf x hx)).1;have h2:=(iK (hbf y hy)).1;simp[dw];omega
   refine xI (tX (tX (bX (tN (sQ (fS fun g6 hle6 hs6=>?_))))));have hov:ao g6 ov (cY a b):=⟨rcs,hs6,hrcs.mono fun _ _=>aq.mono hle6⟩;refine rG (lK (qV 0 aY ar I I I) (lW (cL call74 I (fx E g6 _ _ (cY a b) hov hfit)) ?_));rintro _ g7 _ ⟨rfl,rfl,hle7⟩;refine aT I (sQ (sW I (lU (SU.notP I) (tZ ?_))));refine iP I (fun hr=>?_) (fun hr=>?_)
   ·refine rZ (lU (za1 I (buildE31)) (oZ (sK 1 ar I I I I I sB) ?_));refine tZ (rE (tR ?_));exact ST.retCD 1 s (.inl I) results60 I aY ar I I uR ⟨I,hle1.trans (hle2.trans (hle3.trans (hle4.trans (hle5.trans (hle6.trans hle7))))),_,I,by unfold bM; rw[zf7 (by rw[hbad]; simp),zf7 hr]; exact⟨[],zb8 _ _,trivial⟩⟩
   ·refine kP (tN (rZ (lK (qV 0 aY ar I I I) (lW (cL call110 I (eH E g7 _ _ (cY a b) (hov.mono hle7) hfit)) ?_))));rintro _ g8 _ ⟨rfl,hle8,x8,rfl,hx8⟩;obtain ⟨q8,d8,rfl⟩:=hx8.form;refine oZ (sK 1 ar I I I I I sB) ?_;refine tZ (rE ?_);exact ST.retCD 1 s (.inl I) results60 I aY ar I I uR ⟨I,hle1.trans (hle2.trans (hle3.trans (hle4.trans (hle5.trans (hle6.trans (hle7.trans hle8)))))),_,I,by unfold bM; rw[zf7 (by rw[hbad]; simp),zf8 (zg7 hr)]; exact hx8⟩
end Go.Proofs.YtcfkpajlakidbaaGreatDoor
namespace Go.Sy
open Go
section
variable {P:Program}{N:Nat}{E:World}{ops:Array Oper}{Q:Exit→Act→World→Prop}{g0:PH}{s0:Own}{tail:List Nat}{f:Fr}{g g':PH}{s s':Own}{L:Array Bool}{n:Nat}
theorem SX.to (h:∀ w,At E g s w→At E g' s' w)(hc:SX P N E ops Q g0 s0 tail L n f g' s'):SX P N E ops Q g0 s0 tail L n f g s:=fun a w h1 hcl ha hw hb=>hc a w h1 hcl ha (h w hw) hb
theorem SX.facts (h:(∃ w,At E g s w)→SX P N E ops Q g0 s0 tail L n f g s):SX P N E ops Q g0 s0 tail L n f g s:=fun a w h1 hcl ha hw hb=>h ⟨w,hw⟩ a w h1 hcl ha hw hb
theorem SX.freezeRow {T:TypeId}{k m:Nat}{v:Value}{xs:List Value}(h:∀ g',Le g g'→Sl g' k v m xs→SX P N E ops Q g0 s0 tail L n f g' s):SX P N E ops Q g0 s0 tail L n f g (row T k v m xs::s):=fun a w h1 hcl ha hw hb=>by
 obtain ⟨g',h3,h4,h5⟩:=hw.freezeRow;exact h g' h3 h5 a w h1 hcl ha h4 hb
end
end Go.Sy
namespace Go.Sy
open Go
section
variable {P:Program}{N:Nat}{E:World}{ops:Array Oper}{Q:Exit→Act→World→Prop}{g0 g g':PH}{s0 s s':Own}{tail:List Nat}{L:Array Bool}{n:Nat}{f:Fr}
theorem SX.freeze {b:Nat}{o:Obj}(h:∀ g',Le g g'→g' b=some o→SX P N E ops Q g0 s0 tail L n f g' s):SX P N E ops Q g0 s0 tail L n f g (pt b o::s):=fun a w h1 hcl ha hw hb=>by
 have ho:w.heap[b]?=some o:=by have:=hw.own (pt b o) (by simp); simpa [pt] using this
 obtain ⟨h3,h4⟩:=hw.freeze (b:=b) rfl ho;exact h _ h4 (fl _ _ _) a w h1 hcl ha h3 hb
end
end Go.Sy
namespace Go.Proofs.YtcfkpajlakidbaaGreatDoor
open _root_.Go.Proofs.Tryz _root_.Go.Proofs.YtcfkpajlakidbaaGreatDoor.Tryz
open Go Go.Sy Go.Pl Go.Proofs
set_option maxRecDepth 100000
def l5 (ls:List (List Int)):List (List Int):=(ls.take 5).map fun l=>(l.take 4).map fun x=>aI x 7
theorem fy {α β:Type}{l:List α}{i:Nat}(h:i<l.length)(f:α→β):(l.take (i+1)).map f=(l.take i).map f++[f l[i]]:=by
 rw[tS h,zg3]; rfl
theorem kH (E:World)(g:PH)(s:Own)(v:Value)(ls:List (List Int))(hv:aH g v ls) :
  Ctr Tryz.prog E 58 #[v] g s (fun r g' s'=>∃ rs,s'=rowA aA 25 r rs::s∧Le g g'∧au (be g') (l5 ls) rs):=by
 obtain ⟨rs0,hrs0,hall0⟩:=hv;have hlen0:=hall0.length;obtain ⟨p,c,rfl⟩:=za2 hrs0;refine za9 (args:=[.slice p rs0.length c]) func58 I ntmps58 (bE I) ?_;refine rZ (aT I (rZ (aT I (sQ (rZ (aT I (bK (zb4 25 1 ?_))))))));refine oP (ι:=PH×Value×List Sv×Nat) (fun i=>[(0,.slice p rs0.length c),(2,.slice none 0 0),(3,i.2.1),(4,vi i.2.2.2)]) (fun i=>i.1)
  (fun i=>rowA aA 25 i.2.1 i.2.2.1::s)
  (fun i=>Le g i.1∧i.2.2.2≤rs0.length∧i.2.2.2≤5∧au (be i.1) ((ls.take i.2.2.2).map fun l=>(l.take 4).map fun x=>aI x 7) i.2.2.1) (fun i=>rs0.length - i.2.2.2)
  (g,.slice none 0 0,[],0) sB rfl rfl ⟨zb7 g,zf4 _,zf4 _,trivial⟩ ?_
 rintro ⟨g1,ov,rs,i⟩ ⟨hle,hi,hi5,hrs⟩;dsimp only at hle hi hi5 hrs ⊢;have hrl:=hrs.length;rw[ze4,ze2] at hrl;have f1:(i:Int)<(rs0.length:Int)→(decide ((i:Int)<(rs0.length:Int))&&decide ((i:Int)<5))=decide ((i:Int)<5):=fun h=>by simp[h]
 have f2:¬ (i:Int)<(rs0.length:Int)→(decide ((i:Int)<(rs0.length:Int))&&decide ((i:Int)<5))=false:=fun h=>by simp only[h,decide_false,Bool.false_and]
 refine sQ ?_;refine SC.cutB 14 ((decide ((i:Int)<(rs0.length:Int))&&decide ((i:Int)<5))) ?_ ?_
 ·refine rG (lM I (lM I (lU (eN br I) (yL I (lM I ?_)))));refine sP ?_ ?_
  ·intro h11;refine yC I (lY I I I (lS I I) (yP I (nL ?_)));exact za8 (by (rw[f1 h11]; rfl)) mI
  ·intro h11;refine yA I (yA I (yF I (nL ?_)));exact za8 (by (rw[f2 h11]; rfl)) mI
 refine iQ I (fun hc=>?_) (fun hc=>?_)
 ·rw[zi9,zj2,zj2] at hc;have hil:i<ls.length:=oM;have hir:i<rs0.length:=oM;have hb1:=hrs0.based oM;have hR:=(hall0.get (gE hil) (gE hir)).mono hle;have hRl:=hR.len;have hsucc:=fy hil fun l=>(l.take 4).map fun x=>aI x 7;generalize hx:ls[i]=x at *;generalize hr:rs0[i]=r at *;obtain ⟨rp,rn,rc⟩:=r;dsimp only at hRl;subst hRl;have hxs:bZ g1 (.slice rp x.length rc) x:=hR;have hgr:rs0[((i:Nat):Int).toNat]?=some ⟨rp,x.length,rc⟩:=by rw[← hr]; exact gE hir
  refine kP (tN (sQ (bK (rZ (aT I (sQ (rZ (aT I (bK (zb4 3 1 ?_))))))))));refine oP (ι:=Value×Nat) (fun k=>[(0,.slice p rs0.length c),(2,.slice none 0 0),(3,ov),(4,vi i),(5,k.1),(6,vi k.2)]) (fun _=>g1)
   (fun k=>rowA encInt 3 k.1 ((x.take k.2).map fun x=>aI x 7)::rowA aA 25 ov rs::s)
   (fun k=>k.2≤x.length∧k.2≤4) (fun k=>x.length - k.2) (.slice none 0 0,0) sB rfl rfl ⟨zf4 _,zf4 _⟩ ?_
  rintro ⟨iv,k⟩ ⟨hk,hk4⟩;dsimp only at hk hk4 ⊢;have f3:(k:Int)<(x.length:Int)→(decide ((k:Int)<(x.length:Int))&&decide ((k:Int)<4))=decide ((k:Int)<4):=fun h=>by simp[h]
  have f4:¬ (k:Int)<(x.length:Int)→(decide ((k:Int)<(x.length:Int))&&decide ((k:Int)<4))=false:=fun h=>by simp only[h,decide_false,Bool.false_and]
  refine sQ ?_;refine SC.cutB 27 ((decide ((k:Int)<(x.length:Int))&&decide ((k:Int)<4))) ?_ ?_
  ·refine rG (lM I (lM I (lM I (lU (iA br bP I I hb1 oM sL) (lK (eB (u:=.slice rp x.length rc) dG I (hrs0.mono hle).rd hgr I) (lU (eN ak I) (yL I (lM I ?_))))))));refine sP ?_ ?_
   ·intro h24;refine yC I (lY I I I (lS I I) (yP I (nL ?_)));exact za8 (by (rw[f3 h24]; rfl)) mI
   ·intro h24;refine yA I (yA I (yF I (nL ?_)));exact za8 (by (rw[f4 h24]; rfl)) mI
  refine iQ I (fun hc2=>?_) (fun hc2=>?_)
  ·rw[zi9,zj2,zj2] at hc2;have hkl:k<x.length:=oM;have hb2:=za4 hxs oM;have hks:=fy hkl fun x=>aI x 7;have hgk:x[((k:Nat):Int).toNat]?=some x[k]:=gE hkl;generalize x[k]=y at *;refine kP (tN (sQ (bK (rG (lM I (lM I (lM I (lU (iA br bP I I hb1 oM sL) (lK (eB (u:=.slice rp x.length rc) dG I (hrs0.mono hle).rd hgr I) (lM I (lU (iA ak zT3 I I hb2 oM sL) (lK (eB iT3 I (za5 hxs) hgk I) (lW (cL dD I (ah E g1 _ y 7 dC)) ?_)))))))))))));rintro _ _ _ ⟨rfl,rfl,rfl⟩;refine lW (bS sty25 I I I (ab sB) dC) ?_;rintro _ _ _ ⟨b39,rfl,rfl,rfl⟩;refine lW (aP (e:=encInt) 0 (aI y 7) sty25 I I I I I (by rw[ze4,ze2]; omega) (by rw[ze4,ze2]; omega)) ?_;rintro iv' _ _ ⟨rfl,rfl⟩;refine lA I (nL (bN (tN (rG (lM I (yD I (lA I (nL ?_))))))));refine ST.to (fun w hw=>?_) (g':=g1) (s':=rowA encInt 3 iv' ((x.take (k+1)).map fun x=>aI x 7)::rowA aA 25 ov rs::s) ?_
   ·rw[hks]; exact hw
   exact gA (iv',k+1) sB I I ⟨lN,lN⟩ lN
  ·have hxk:x.take k=x.take 4:=by
    rw[Bool.and_eq_false_iff,decide_eq_false_iff_not,decide_eq_false_iff_not] at hc2;by_cases h4:k=4
    ·rw[h4]
    ·rw[tL oM,tL oM]
   rw[hxk];refine xI (tX (tX (bX (tN (fS fun g2 hle2 hs2=>?_)))));have hiv:bZ g2 iv ((x.take 4).map fun x=>aI x 7):=hs2;obtain ⟨q2,d2,rfl⟩:=za2 hiv;obtain ⟨nl,hnl⟩:∃ nl,nl=((x.take 4).map fun x=>aI x 7).length:=⟨_,rfl⟩;refine rG (lM I (lM I (lW (bS sty22 I I I (ab sB) dC) ?_)));rintro _ _ _ ⟨b43,rfl,rfl,rfl⟩;refine lW (aP (e:=aA) 0 ⟨q2,((x.take 4).map fun x=>aI x 7).length,d2⟩ sty22 I I I I I oM oM) ?_;rintro ov' _ _ ⟨rfl,rfl⟩;refine lA I (nL (bN (tN (rG (lM I (yD I (lA I (nL ?_))))))));refine gA (g2,ov',rs++[⟨q2,((x.take 4).map fun x=>aI x 7).length,d2⟩],i+1) sB I I ⟨hle.trans hle2,lN,lN,?_⟩ lN;dsimp only;rw[hsucc];exact (hrs.mono fun _ _=>be.mono hle2).append ⟨hiv,trivial⟩
 ·have hls:ls.take i=ls.take 5:=by
   rw[Bool.and_eq_false_iff,decide_eq_false_iff_not,decide_eq_false_iff_not] at hc;by_cases h5:i=5
   ·rw[h5]
   ·rw[tL oM,tL oM]
  rw[hls] at hrs;refine xI (tX (tX (bX (tN (sW I (aT I (rE ?_)))))));exact za6 (.inl I) results58 I ⟨rs,I,hle,hrs⟩
def dZ (id k:Int):Int:=if k=1 then id else IntKind.i64.wrap ((IntKind.i64.wrap (id * k)).tmod 211+1)
theorem jt (E:World)(g:PH)(s:Own)(a k:Int):Ctr Tryz.prog E 111 #[vi a,vi k] g s
  (fun r g' s'=>r=vi (dZ a k)∧g=g'∧s=s'):=by
 refine za9 (args:=[vi a,vi k]) func111 I ntmps111 (bE I) ?_;refine rZ (aT I (sQ (sW I (yE I (tZ ?_)))));refine iP I (fun h1=>?_) (fun h1=>?_)
 ·refine sW I (aT I (rE (tR ?_)));exact za6 (.inl I) results111 I ⟨by simp[dZ,h1],I,I⟩
 ·refine kP (tN (sW I (lM I (lU (SU.mulW I I) (lU (zd6 I I dC) (lU (zd8 I I) (aT I (rE ?_))))))));exact za6 (.inl I) results111 I ⟨by simp[dZ,h1],I,I⟩
theorem nP (E:World)(g:PH)(s:Own)(a k:Int)(hk:k≠0):Ctr Tryz.prog E 112 #[vi a,vi k] g s
  (fun r g' s'=>r=vb (decide (a.tmod k=1))∧g=g'∧s=s'):=by
 refine za9 (args:=[vi a,vi k]) func112 I ntmps112 (bE I) ?_;refine rZ (aT I (sW I (lM I (lU (zd6 I I oM) (yE I (aT I (rE ?_)))))));exact za6 (.inl I) results112 I ⟨I,I,I⟩
theorem iu:∀ (all ls:List (List Int)),all.length≤4000→(∀ x∈all,x.length≤9)→∀ r,aM all ls=some r→r.length≤4000∧∀ x∈r,x.length≤9
 | all,[],h1,h2,r,h=>by cases h; exact⟨h1,h2⟩
 | all,t::ls,h1,h2,r,h=>by
  unfold aM at h;split at h
  ·exact iu all ls h1 h2 r h
  ·rename_i hb;split at h
   ·cases h
   ·rename_i hl;refine iu _ ls oM (fun x hx=>?_) r h
    rcases j8 hx with hx | hx
    ·exact h2 x hx
    ·refine gw ?_ x hx;cases hT:cg t with
     | nil=>simp
     | cons a r =>
      rw[hT] at hb;simp only[iH,Bool.or_eq_true,zj2,not_or] at hb;omega
theorem dL (ls:List (List Int)):cU (bT ls)∧(bT ls).length≤4000:=by
 unfold bT;cases h:aM [] ls with
 | none=>exact⟨⟨by simp,by simp⟩,by simp⟩
 | some all =>
  obtain ⟨h1,h2⟩:=iu [] ls (by simp) (by simp) all h;have h3:(aa (a8 all)).length≤4000:=by rw[ay,bC]; exact h1
  exact⟨bw (jF h1 h2),h3⟩
theorem eG (a b:List Cl):cU (bM a b)∧(bM a b).length≤4000:=by
 unfold bM;split
 ·exact⟨⟨by simp,by simp⟩,by simp⟩
 ·rename_i hbad;split
  ·have ha:(aK a).2=0:=zg7 fun h=>hbad (by simp[cw,h]);have hb:(aK b).2=0:=zg7 fun h=>hbad (by simp[cw,h]);have hsz:((ae a).length:Int) * (ae b).length≤4000:=by
    refine zg7 fun h=>hbad ?_;have:((ae a).length:Int) * (ae b).length>4000:=oM;simp[cw,this]
   obtain ⟨_,_,hat,haf⟩:=dx ha;obtain ⟨_,_,hbt,hbf⟩:=dx hb;rw[← hat] at haf;rw[← hbt] at hbf;have hprod:cY a b=(ae a).flatMap fun x=>(ae b).map (dw (ae a) (ae b) x):=by unfold cY; rw[← hat,← hbt]
   have hpl:(cY a b).length≤4000:=by
    rw[hprod,ij];have h4:(((ae a).length * (ae b).length:Nat):Int)≤4000:=by rw[Int.natCast_mul]; exact hsz
    omega
   have hfit:cU (cY a b):=by
    refine⟨oM,fun c hc=>?_⟩;rw[hprod] at hc;obtain ⟨x,hx,hc⟩:=List.mem_flatMap.1 hc;obtain ⟨y,hy,rfl⟩:=ze9.1 hc;have h1:=(iK (haf x hx)).1;have h2:=(iK (hbf y hy)).1;simp[dw];omega
   exact⟨bw hfit,by rw[ay]; exact hpl⟩
  ·exact⟨⟨by simp,by simp⟩,by simp⟩
def oT:List Cl:=bM (bT [[0,1],[1,2],[0,2]]) (bT [[0,1],[1,2],[0,2]])
theorem wQ (E:World)(g:PH)(s:Own):Ctr Tryz.prog E 62 #[] g s (fun r g' s'=>s=s'∧Le g g'∧∃ u,r = .agg #[u]∧ao g' u oT):=by
 have hf:=(dL [[0,1],[1,2],[0,2]]).1;refine za9 (args:=[]) func62 I ntmps62 (bE I) ?_;refine rZ (bW (aL zk8) fun b0=>?_);refine tZ (rZ (lW (bS sty25 I I I (ab sB) dC) ?_));rintro _ _ _ ⟨b2,rfl,rfl,rfl⟩;refine zb3 fun g1 hle1 hb2=>?_;refine lW (bS sty25 I I I (ab sB) dC) ?_;rintro _ _ _ ⟨b3,rfl,rfl,rfl⟩;refine zb3 fun g2 hle2 hb3=>?_;refine lW (bS sty25 I I I (ab sB) dC) ?_;rintro _ _ _ ⟨b4,rfl,rfl,rfl⟩;refine zb3 fun g3 hle3 hb4=>?_;refine lW (bS sty22 I I I (ab sB) dC) ?_;rintro _ _ _ ⟨b5,rfl,rfl,rfl⟩;refine zb3 fun g4 hle4 hb5=>?_;have hlit:aH g4 (.slice (some ⟨b5,0,none⟩) 3 3) [[0,1],[1,2],[0,2]]:=⟨[eL (.slice (some ⟨b2,0,none⟩) 2 2),eL (.slice (some ⟨b3,0,none⟩) 2 2),eL (.slice (some ⟨b4,0,none⟩) 2 2)],SlA.lit hb5 rfl rfl,⟨SlA.lit (hle4 _ _ (hle3 _ _ (hle2 _ _ hb2))) rfl rfl,SlA.lit (hle4 _ _ (hle3 _ _ hb3)) rfl rfl,SlA.lit (hle4 _ _ hb4) rfl rfl,trivial⟩⟩;refine lW (cL call24 I (aO E g4 _ _ _ hlit dC dC)) ?_;rintro _ g5 _ ⟨rfl,hle5,u,rfl,hu⟩;obtain ⟨q,d,rfl⟩:=hu.form;refine bW (aL zk8) fun b1=>?_;refine oZ (sK 0 ar I I I I I sB) ?_;refine tZ (rZ (lK (qV 0 aY ar I I I) (lK (qV 0 aY ar I I I) (lW (cL call60 I (eI E g5 _ _ _ _ _ hu hu hf hf)) ?_))));rintro _ g6 _ ⟨rfl,hle6,x,rfl,hx⟩;obtain ⟨q6,d6,rfl⟩:=hx.form;refine oZ (sK 1 ar I I I I I sB) ?_;refine tZ (rE ?_);exact ST.retCD 1 s (.inl I) results62 I aY ar I I uR ⟨I,hle1.trans (hle2.trans (hle3.trans (hle4.trans (hle5.trans hle6)))),_,I,hx⟩
theorem xf (ls:List (List Int)):(l5 ls).length≤5∧∀ x∈l5 ls,x.length≤4:=by
 refine⟨by simp[l5]; omega,fun x hx=>?_⟩;obtain ⟨l,_,rfl⟩:=ze9.1 hx;simp;omega
def DX:List (List Int):=[[0,1,2],[0,1,3],[0,2,3],[1,2,3]]
def DW:List (List Int):=[[0,1,2],[0,2,3],[0,3,4],[0,4,5],[0,1,5],[1,2,4],[2,3,5],[1,3,4],[2,4,5],[1,3,5]]
def s4 (k:Nat):List (List Int):=(List.range k).flatMap fun (i:Nat)=>[[(i:Int),((i:Int)+1).tmod 7,((i:Int)+3).tmod 7],[(i:Int),((i:Int)+2).tmod 7,((i:Int)+3).tmod 7]]
def lX (n:Int):List (List Int):=if aI n 3=0 then DX else if aI n 3=1 then DW else s4 7
theorem pk (k:Nat):s4 (k+1)=s4 k++[[(k:Int),((k:Int)+1).tmod 7,((k:Int)+3).tmod 7],[(k:Int),((k:Int)+2).tmod 7,((k:Int)+3).tmod 7]]:=by
 simp[s4,List.range_succ,List.flatMap_append]
theorem je (k:Nat):(s4 k).length=2 * k:=by
 induction k with
 | zero=>rfl
 | succ k ih=>rw[pk,ze3,ih]; simp; omega
theorem me (E:World)(g:PH)(s:Own)(n:Int):Ctr Tryz.prog E 59 #[vi n] g s (fun r g' s'=>s=s'∧Le g g'∧aH g' r (lX n)):=by
 refine za9 (args:=[vi n]) func59 I ntmps59 (bE I) ?_;refine rZ (aT I (sQ (sW I (lW (cL dD I (ah E g _ n 3 dC)) ?_))));rintro _ _ _ ⟨rfl,rfl,rfl⟩;refine tZ (bK (rZ (yE I (aT I ?_))));refine iP I (fun h0=>?_) (fun h0=>?_)
 ·refine rZ (lW (bS sty25 I I I (ab sB) dC) ?_);rintro _ _ _ ⟨b9,rfl,rfl,rfl⟩;refine zb3 fun g1 hle1 hb9=>?_;refine lW (bS sty25 I I I (ab sB) dC) ?_;rintro _ _ _ ⟨b10,rfl,rfl,rfl⟩;refine zb3 fun g2 hle2 hb10=>?_;refine lW (bS sty25 I I I (ab sB) dC) ?_;rintro _ _ _ ⟨b11,rfl,rfl,rfl⟩;refine zb3 fun g3 hle3 hb11=>?_;refine lW (bS sty25 I I I (ab sB) dC) ?_;rintro _ _ _ ⟨b12,rfl,rfl,rfl⟩;refine zb3 fun g4 hle4 hb12=>?_;refine lW (bS sty22 I I I (ab sB) dC) ?_;rintro _ _ _ ⟨b13,rfl,rfl,rfl⟩;refine zb3 fun g5 hle5 hb13=>?_;have hlit:aH g5 (.slice (some ⟨b13,0,none⟩) 4 4) DX:=⟨[eL (.slice (some ⟨b9,0,none⟩) 3 3),eL (.slice (some ⟨b10,0,none⟩) 3 3),eL (.slice (some ⟨b11,0,none⟩) 3 3),eL (.slice (some ⟨b12,0,none⟩) 3 3)],SlA.lit hb13 rfl rfl,⟨SlA.lit (hle5 _ _ (hle4 _ _ (hle3 _ _ (hle2 _ _ hb9)))) rfl rfl,SlA.lit (hle5 _ _ (hle4 _ _ (hle3 _ _ hb10))) rfl rfl,SlA.lit (hle5 _ _ (hle4 _ _ hb11)) rfl rfl,SlA.lit (hle5 _ _ hb12) rfl rfl,trivial⟩⟩;refine aT I (rE (bR (tR ?_)));exact za6 (.inl I) results59 I ⟨I,(hle1.trans (hle2.trans (hle3.trans (hle4.trans hle5)))),by unfold lX; rw[zf8 h0]; exact hlit⟩
 ·refine rZ (yE I (aT I ?_));refine iP I (fun h1=>?_) (fun h1=>?_)
  ·refine rZ (lW (bS sty25 I I I (ab sB) dC) ?_);rintro _ _ _ ⟨b16,rfl,rfl,rfl⟩;refine zb3 fun g1 hle1 hb16=>?_;refine lW (bS sty25 I I I (ab sB) dC) ?_;rintro _ _ _ ⟨b17,rfl,rfl,rfl⟩;refine zb3 fun g2 hle2 hb17=>?_;refine lW (bS sty25 I I I (ab sB) dC) ?_;rintro _ _ _ ⟨b18,rfl,rfl,rfl⟩;refine zb3 fun g3 hle3 hb18=>?_;refine lW (bS sty25 I I I (ab sB) dC) ?_;rintro _ _ _ ⟨b19,rfl,rfl,rfl⟩;refine zb3 fun g4 hle4 hb19=>?_;refine lW (bS sty25 I I I (ab sB) dC) ?_;rintro _ _ _ ⟨b20,rfl,rfl,rfl⟩;refine zb3 fun g5 hle5 hb20=>?_;refine lW (bS sty25 I I I (ab sB) dC) ?_;rintro _ _ _ ⟨b21,rfl,rfl,rfl⟩;refine zb3 fun g6 hle6 hb21=>?_;refine lW (bS sty25 I I I (ab sB) dC) ?_;rintro _ _ _ ⟨b22,rfl,rfl,rfl⟩;refine zb3 fun g7 hle7 hb22=>?_;refine lW (bS sty25 I I I (ab sB) dC) ?_;rintro _ _ _ ⟨b23,rfl,rfl,rfl⟩;refine zb3 fun g8 hle8 hb23=>?_;refine lW (bS sty25 I I I (ab sB) dC) ?_;rintro _ _ _ ⟨b24,rfl,rfl,rfl⟩;refine zb3 fun g9 hle9 hb24=>?_;refine lW (bS sty25 I I I (ab sB) dC) ?_;rintro _ _ _ ⟨b25,rfl,rfl,rfl⟩;refine zb3 fun g10 hle10 hb25=>?_;refine lW (bS sty22 I I I (ab sB) dC) ?_;rintro _ _ _ ⟨b26,rfl,rfl,rfl⟩;refine zb3 fun g11 hle11 hb26=>?_;have hlit:aH g11 (.slice (some ⟨b26,0,none⟩) 10 10) DW:=⟨[eL (.slice (some ⟨b16,0,none⟩) 3 3),eL (.slice (some ⟨b17,0,none⟩) 3 3),eL (.slice (some ⟨b18,0,none⟩) 3 3),eL (.slice (some ⟨b19,0,none⟩) 3 3),eL (.slice (some ⟨b20,0,none⟩) 3 3),eL (.slice (some ⟨b21,0,none⟩) 3 3),eL (.slice (some ⟨b22,0,none⟩) 3 3),eL (.slice (some ⟨b23,0,none⟩) 3 3),eL (.slice (some ⟨b24,0,none⟩) 3 3),eL (.slice (some ⟨b25,0,none⟩) 3 3)],SlA.lit hb26 rfl rfl,⟨SlA.lit (hle11 _ _ (hle10 _ _ (hle9 _ _ (hle8 _ _ (hle7 _ _ (hle6 _ _ (hle5 _ _ (hle4 _ _ (hle3 _ _ (hle2 _ _ hb16)))))))))) rfl rfl,SlA.lit (hle11 _ _ (hle10 _ _ (hle9 _ _ (hle8 _ _ (hle7 _ _ (hle6 _ _ (hle5 _ _ (hle4 _ _ (hle3 _ _ hb17))))))))) rfl rfl,SlA.lit (hle11 _ _ (hle10 _ _ (hle9 _ _ (hle8 _ _ (hle7 _ _ (hle6 _ _ (hle5 _ _ (hle4 _ _ hb18)))))))) rfl rfl,SlA.lit (hle11 _ _ (hle10 _ _ (hle9 _ _ (hle8 _ _ (hle7 _ _ (hle6 _ _ (hle5 _ _ hb19))))))) rfl rfl,SlA.lit (hle11 _ _ (hle10 _ _ (hle9 _ _ (hle8 _ _ (hle7 _ _ (hle6 _ _ hb20)))))) rfl rfl,SlA.lit (hle11 _ _ (hle10 _ _ (hle9 _ _ (hle8 _ _ (hle7 _ _ hb21))))) rfl rfl,SlA.lit (hle11 _ _ (hle10 _ _ (hle9 _ _ (hle8 _ _ hb22)))) rfl rfl,SlA.lit (hle11 _ _ (hle10 _ _ (hle9 _ _ hb23))) rfl rfl,SlA.lit (hle11 _ _ (hle10 _ _ hb24)) rfl rfl,SlA.lit (hle11 _ _ hb25) rfl rfl,trivial⟩⟩;refine aT I (rE (bR (tR ?_)));exact za6 (.inl I) results59 I ⟨I,(hle1.trans (hle2.trans (hle3.trans (hle4.trans (hle5.trans (hle6.trans (hle7.trans (hle8.trans (hle9.trans (hle10.trans hle11)))))))))),by unfold lX; rw[zf7 h0,zf8 h1]; exact hlit⟩
  ·refine kP (bN (tN (rZ (aT I (sQ (rZ (aT I (bK (zb4 25 1 ?_)))))))));refine oP (ι:=PH×Value×List Sv×Nat) (fun i=>[(3,i.2.1),(4,vi i.2.2.2)]) (fun i=>i.1)
    (fun i=>rowA aA 25 i.2.1 i.2.2.1::s)
    (fun i=>Le g i.1∧i.2.2.2≤7∧au (be i.1) (s4 i.2.2.2) i.2.2.1) (fun i=>7 - i.2.2.2)
    (g,.slice none 0 0,[],0) sB rfl rfl ⟨zb7 g,zf4 _,trivial⟩ ?_
   rintro ⟨g1,ov,rs,i⟩ ⟨hle,hi,hrs⟩;dsimp only at hle hi hrs ⊢;have hrl:=hrs.length;rw[je] at hrl;refine sQ (sW I (yL I (tZ ?_)));refine iP I (fun hlt=>?_) (fun hlt=>?_)
   ·have hi7:i<7:=oM;refine kP (tN (sQ (bK (rG (lM I (lM I (lM I (yD I (lU (zd6 I I dC) (lM I (yD I (lU (zd6 I I dC) (lW (bS sty25 I I I (ab sB) dC) ?_)))))))))))));rintro _ _ _ ⟨b39,rfl,rfl,rfl⟩;refine zb3 fun g2 hle2 hb39=>?_;refine lM I (lM I (yD I (lU (zd6 I I dC) (lM I (yD I (lU (zd6 I I dC) (lW (bS sty25 I I I (ab sB) dC) ?_)))))));rintro _ _ _ ⟨b47,rfl,rfl,rfl⟩;refine zb3 fun g3 hle3 hb47=>?_;refine lW (bS sty22 I I I (ab sB) dC) ?_;rintro _ _ _ ⟨b48,rfl,rfl,rfl⟩;refine zb3 fun g4 hle4 hb48=>?_;have hlit:SlA aA g4 (.slice (some ⟨b48,0,none⟩) 2 2) [⟨some ⟨b39,0,none⟩,3,3⟩,⟨some ⟨b47,0,none⟩,3,3⟩]:=SlA.lit hb48 rfl rfl;refine lW (aQ (e:=aA) 0 sty22 I I I hlit lN lN) ?_;rintro ov' _ _ ⟨rfl,rfl⟩;refine lA I (nL (bN (tN (rG (lM I (yD I (lA I (nL ?_))))))));refine gA (g4,ov',rs++[⟨some ⟨b39,0,none⟩,3,3⟩,⟨some ⟨b47,0,none⟩,3,3⟩],i+1) sB I I ⟨hle.trans (hle2.trans (hle3.trans hle4)),lN,?_⟩ lN;dsimp only;rw[pk];exact (hrs.mono fun _ _=>be.mono (hle2.trans (hle3.trans hle4))).append ⟨SlA.lit (hle4 _ _ (hle3 _ _ hb39)) I I,SlA.lit (hle4 _ _ hb47) I I,trivial⟩
   ·have hi7:i=7:=oM;subst hi7;refine xI (tX (tX (bX (tN (sQ (fS fun g2 hle2 hs2=>?_))))));have hov:aH g2 ov (s4 7):=⟨rs,hs2,hrs.mono fun _ _=>be.mono hle2⟩;refine rG (lM I (aT I (rE ?_)));exact za6 (.inl I) results59 I ⟨I,hle.trans hle2,by unfold lX; rw[zf7 h0,zf7 h1]; exact hov⟩
set_option maxHeartbeats 1000000
def lc (k:Nat):List Cl:=(List.range k).map fun (i:Nat)=>⟨(i:Int)+1,0,[]⟩
def l7 (n k:Nat):List Cl:=(List.range k).map fun (i:Nat)=>⟨(n:Int)+i+1,1,[⟨(i:Int)+1,-1⟩,⟨((i:Int)+1).tmod n+1,1⟩]⟩
def fu (n k:Nat):List aj:=(List.range k).map fun (i:Nat)=>⟨(n:Int)+i+1,1⟩
def dU (n:Nat):List Cl:=lc n++l7 n n++[⟨2 * (n:Int)+1,2,fu n n⟩]++(if (n:Int).tmod 2=0 then [⟨2 * (n:Int)+2,2,fu n n⟩] else [])
def td (n:Nat):List Cl:=aa (dU n)
theorem xr (k:Nat):lc (k+1)=lc k++[⟨(k:Int)+1,0,[]⟩]:=by simp[lc,List.range_succ]
theorem xw (n k:Nat):l7 n (k+1)=l7 n k++[⟨(n:Int)+k+1,1,[⟨(k:Int)+1,-1⟩,⟨((k:Int)+1).tmod n+1,1⟩]⟩]:=by simp[l7,List.range_succ]
theorem xu (n k:Nat):fu n (k+1)=fu n k++[⟨(n:Int)+k+1,1⟩]:=by simp[fu,List.range_succ]
theorem jg (n k:Nat):(fu n k).length=k:=by simp[fu]
theorem mu {n:Nat}(h:n≤6):cU (dU n)∧(dU n).length≤14:=by
 have hl:(dU n).length≤14:=by
  unfold dU;split <;> simp[lc,l7] <;> omega
 refine⟨⟨oM,fun c hc=>?_⟩,hl⟩;unfold dU at hc
 rcases zf1.1 hc with hc | hc
 ·rcases zf1.1 hc with hc | hc
  ·rcases zf1.1 hc with hc | hc
   ·obtain ⟨i,_,rfl⟩:=ze9.1 hc;simp
   ·obtain ⟨i,_,rfl⟩:=ze9.1 hc;simp
  ·simp at hc;subst hc;simp[jg];omega
 ·split at hc
  ·simp at hc;subst hc;simp[jg];omega
  ·simp at hc
theorem Tryz.buildD64 (x:Int)(w:World):(Instr.build 64 #[(0,vi x)]).run Tryz.prog w = .ok (.agg #[vi x,vi 0,.slice none 0 0]) w:=by
 have hz:(Value.agg #[vi 0,vi 0,Value.slice none 0 0]).cells = #[vi 0,vi 0,.slice none 0 0]:=rfl;have h1:∀ z:Int,(vi z).cells = #[vi z]:=fun _=>rfl;simp[Instr.build,Instr.fill,hz,h1]
theorem tA (E:World)(g:PH)(s:Own)(n:Nat)(h2:2≤n)(h6:n≤6) :
  Ctr Tryz.prog E 61 #[vi n] g s (fun r g' s'=>s=s'∧Le g g'∧∃ x,r = .agg #[x]∧ao g' x (td n)):=by
 have hnn:((n:Nat):Int)≠0:=oM;refine za9 (args:=[vi n]) func61 I ntmps61 (bE I) ?_;refine rZ (bW (aL zk8) fun b2=>?_);refine tZ (rZ (bW (aL zk8) fun b3=>?_));refine tZ (sQ (rZ (aT I (bK (zb4 64 3 ?_)))));refine oP (ι:=Value×List Rc×Nat) (fun i=>[(0,vi n),(2,pp b2 0),(3,pp b3 0),(4,vi i.2.2)]) (fun _=>g)
  (fun i=>rowA encCell 64 i.1 i.2.1::pt b3 (.cells #[i.1] 31 (0,0))::pt b2 (.cells #[.slice none 0 0] 31 (0,0))::s)
  (fun i=>i.2.2≤n∧au (aq g) (lc i.2.2) i.2.1) (fun i=>n - i.2.2)
  (.slice none 0 0,[],0) sB rfl rfl ⟨zf4 _,trivial⟩ ?_
 rintro ⟨ov,rcs,i⟩ ⟨hi,hrcs⟩;dsimp only at hi hrcs ⊢;have hrl:=hrcs.length;simp only[lc,ze4,zi2] at hrl;refine sQ (sW I (lM I (yL I (tZ ?_))));refine iP I (fun hlt=>?_) (fun hlt=>?_)
 ·refine kP (tN (sQ (bK (rG (lU (fA cH I bG I) (lK (qL (v:=ov) dg I (cO 1 I I)) (lM I (yD I (lU (za1 I (buildD64 _)) (lW (bS sty29 I I I (ab sB) dC) ?_))))))))));rintro _ _ _ ⟨b19,rfl,rfl,rfl⟩;refine lW (aP (e:=encCell) 0 ⟨(i:Int)+1,0,⟨none,0,0⟩⟩ sty29 I I I I I oM oM) ?_;rintro v20 _ _ ⟨rfl,rfl⟩;refine zd1 fun ⟨w0,hw0⟩=>?_;obtain ⟨q9,d9,rfl⟩:=ag (i:=0) hw0 rfl;clear hw0 w0;refine lU (fA cH I bG I) (oZ (sK 1 bG I I I I I sB) ?_);refine nL (bN (tN (rG (lM I (yD I (lA I (nL ?_)))))));refine gA (_,rcs++[⟨(i:Int)+1,0,⟨none,0,0⟩⟩],i+1) sB I I ⟨lN,?_⟩ lN;dsimp only;rw[xr];exact hrcs.append ⟨⟨I,I,zb8 _ _⟩,trivial⟩
 ·have hin:i=n:=oM;subst hin;refine xI (tX (tX (bX (tN (rZ (aT I (sQ (rZ (aT I (bK (zb4 67 2 ?_)))))))))));refine oP (ι:=PH×Value×List Rc×Value×Nat) (fun k=>[(0,vi i),(2,pp b2 0),(3,pp b3 0),(5,k.2.2.2.1),(6,vi k.2.2.2.2)]) (fun k=>k.1)
   (fun k=>rowA encSide 67 k.2.2.2.1 (fu i k.2.2.2.2)::rowA encCell 64 k.2.1 k.2.2.1::pt b3 (.cells #[k.2.1] 31 (0,0))::pt b2 (.cells #[.slice none 0 0] 31 (0,0))::s)
   (fun k=>Le g k.1∧k.2.2.2.2≤i∧au (aq k.1) (lc i++l7 i k.2.2.2.2) k.2.2.1) (fun k=>i - k.2.2.2.2)
   (g,ov,rcs,.slice none 0 0,0) sB rfl rfl ⟨zb7 g,zf4 _,by simpa [l7] using hrcs⟩ ?_
  rintro ⟨g1,ov1,rcs1,sv,k⟩ ⟨hle1,hk,hrcs1⟩;dsimp only at hle1 hk hrcs1 ⊢;have hrl1:=hrcs1.length;simp only[lc,l7,ze3,ze4,zi2] at hrl1;have hsl:=jg i k;refine sQ (sW I (lM I (yL I (tZ ?_))));refine iP I (fun hlt2=>?_) (fun hlt2=>?_)
  ·have hkm:0≤((k:Int)+1).tmod i∧((k:Int)+1).tmod i<i:=by
    rw[Int.tmod_eq_emod_of_nonneg oM];exact⟨zk2 _ hnn,zk1 _ oM⟩
   refine kP (tN (sQ (bK (sW I (yD I (lU (za1 I (buildS67 _ _)) (bW (aL zk7) fun b7=>?_)))))));refine oZ (sK 0 bJ I I I I I sB) ?_;refine tZ (sW I (yD I (lM I (lU (zd6 I I hnn) (yD I (lU (za1 I (buildS67 _ _)) (bW (aL zk7) fun b8=>?_)))))));refine oZ (sK 0 bJ I I I I I sB) ?_;refine tZ (sQ ?_);refine SC.to (fun w hw=>hw) (g':=g1) (s':=pt b8 (.cells #[vi (((k:Int)+1).tmod i+1),vi 1] 67 (0,0))::pt b7 (.cells #[vi ((k:Int)+1),vi (-1)] 67 (0,0))::rowA encSide 67 sv (fu i k)::rowA encCell 64 ov1 rcs1::pt b3 (.cells #[ov1] 31 (0,0))::pt b2 (.cells #[.slice none 0 0] 31 (0,0))::s) ?_;refine rG (lU (fA cH I bG I) (lK (qL (v:=ov1) dg I (cO 4 I I)) (lM I (lM I (yD I (yD I (lK (qV 1 mD bJ I I I) (lK (qV 0 mD bJ I I I) (lW (bS sty62 I I I (ab sB) dC) ?_)))))))));rintro _ _ _ ⟨b44,rfl,rfl,rfl⟩;refine zb3 fun g2 hle2 hb44=>?_;have hsd:SlA encSide g2 (.slice (some ⟨b44,0,none⟩) 2 2) [⟨(k:Int)+1,-1⟩,⟨((k:Int)+1).tmod i+1,1⟩]:=SlA.lit hb44 rfl rfl;refine lU (za1 I (buildF64 _ _ _ I)) (lW (bS sty29 I I I (ab sB) dC) ?_);rintro _ _ _ ⟨b46,rfl,rfl,rfl⟩;refine lW (aP (e:=encCell) 3 ⟨(i:Int)+k+1,1,⟨some ⟨b44,0,none⟩,2,2⟩⟩ sty29 I I I I I oM oM) ?_;rintro v47 _ _ ⟨rfl,rfl⟩;refine zd1 fun ⟨w0,hw0⟩=>?_;obtain ⟨q9,d9,rfl⟩:=ag (i:=3) hw0 rfl;clear hw0 w0;refine lU (fA cH I bG I) (oZ (sK 4 bG I I I I I sB) ?_);refine tZ (rG (lM I (lM I (lM I (yD I (yD I (lU (za1 I (buildS67 _ _)) (lW (bS sty62 I I I (ab sB) dC) ?_))))))));rintro _ _ _ ⟨b55,rfl,rfl,rfl⟩;refine lW (aP (e:=encSide) 2 ⟨(i:Int)+k+1,1⟩ sty62 I I I I I oM oM) ?_;rintro v56 _ _ ⟨rfl,rfl⟩;refine lA I (nL (bN (tN (rG (lM I (yD I (lA I (nL (dR (s':=rowA encSide 67 v56 (fu i k++[⟨(i:Int)+k+1,1⟩])::rowA encCell 64 (.slice q9 (rcs1++[(⟨(i:Int)+k+1,1,⟨some ⟨b44,0,none⟩,2,2⟩⟩:Rc)]).length d9) (rcs1++[⟨(i:Int)+k+1,1,⟨some ⟨b44,0,none⟩,2,2⟩⟩])::pt b3 (.cells #[.slice q9 (rcs1++[(⟨(i:Int)+k+1,1,⟨some ⟨b44,0,none⟩,2,2⟩⟩:Rc)]).length d9] 31 (0,0))::pt b2 (.cells #[.slice none 0 0] 31 (0,0))::s) (.cons _ (.cons _ (.refl _))) ?_)))))))));rw[← xu];refine gA (g2,_,rcs1++[⟨(i:Int)+k+1,1,⟨some ⟨b44,0,none⟩,2,2⟩⟩],v56,k+1) sB I I ⟨hle1.trans hle2,lN,?_⟩ lN;dsimp only;rw[xw,← zg6];exact (hrcs1.mono fun _ _=>aq.mono hle2).append ⟨⟨I,I,hsd⟩,trivial⟩
  ·have hki:k=i:=oM;subst hki;refine xI (tX (tX (bX (tN (sQ (fS fun g2 hle2 hs2=>?_))))));have hsd:SlA encSide g2 sv (fu k k):=hs2;obtain ⟨qs,ds,rfl⟩:=za2 hsd;have hrcs2:=hrcs1.mono fun _ _=>aq.mono hle2;refine rG (lU (fA cH I bG I) (lK (qL (v:=ov1) dg I (cO 1 I I)) (lM I (lU (SU.mul I I oM) (yD I (lM I (lU (za1 I (buildF64 _ _ _ I)) (lW (bS sty29 I I I (ab sB) dC) ?_))))))));rintro _ _ _ ⟨b64,rfl,rfl,rfl⟩;refine lW (aP (e:=encCell) 0 ⟨2 * (k:Int)+1,2,⟨qs,(fu k k).length,ds⟩⟩ sty29 I I I I I oM oM) ?_;rintro v65 _ _ ⟨rfl,rfl⟩;refine zd1 fun ⟨w0,hw0⟩=>?_;obtain ⟨q9,d9,rfl⟩:=ag (i:=0) hw0 rfl;clear hw0 w0;refine lU (fA cH I bG I) (oZ (sK 1 bG I I I I I sB) ?_);refine tZ (sQ (sW I (lU (zd6 I I dC) (yE I (tZ ?_)))));have hrcs3:au (aq g2) (lc k++l7 k k++[⟨2 * (k:Int)+1,2,fu k k⟩]) (rcs1++[⟨2 * (k:Int)+1,2,⟨qs,(fu k k).length,ds⟩⟩]):=hrcs2.append ⟨⟨rfl,rfl,hsd⟩,trivial⟩;obtain ⟨rc3,hrc3⟩:∃ rc3,rc3=rcs1++[(⟨2 * (k:Int)+1,2,⟨qs,(fu k k).length,ds⟩⟩:Rc)]:=⟨_,rfl⟩;have hrc3l:rc3.length=rcs1.length+1:=by rw[hrc3]; simp
   rw[← hrc3] at hrcs3 ⊢;have hfit:=(mu h6).1;refine iP I (fun hev=>?_) (fun hev=>?_)
   ·have hall:dU k=lc k++l7 k k++[⟨2 * (k:Int)+1,2,fu k k⟩]++[⟨2 * (k:Int)+2,2,fu k k⟩]:=by unfold dU; rw[zf8 hev]
    refine dW [10,11,12] [(0,2),(1,1),(2,2),(3,2),(4,2),(6,2),(5,0),(7,0),(8,2),(9,0),(10,0),(11,0),(12,0)] ze1 kR ?_;refine pU I (fA cH I bG I) (pK I (qL (v:=.slice q9 rc3.length d9) dg I (cO 1 I I)) (yM I (pU I (SU.mul I I oM) (pU I (aD I I oM) (yM I (SP.o I (bS sty62 I I I (ab trivial) dC) dC (.inr iR) ?_))))));rintro _ _ _ ⟨b75,rfl,rfl,rfl⟩;refine SP.to (fun w hw=>(hw.sublist (List.Sublist.cons _ (.refl _))).emptyRow 67 2 (some ⟨b75,0,none⟩)) ?_;refine SP.o I (aQ (e:=encSide) (l:=[]) 0 sty62 I I I hsd lN lN) dC (.inr iR) ?_;rintro v77 _ _ ⟨rfl,rfl⟩;refine SP.freezeRow fun g77 hle77 hs77=>?_;have hsd2:SlA encSide g77 v77 ([]++fu k k):=hs77;rw[List.nil_append] at hsd2;obtain ⟨q77,d77,rfl⟩:=za2 hsd2;refine pU I (za1 I (buildF64 _ _ _ I)) (SP.o I (bS sty29 I I I (ab sB) dC) dC (.inr iR) ?_);rintro _ _ _ ⟨b79,rfl,rfl,rfl⟩;refine SP.o I (aP (e:=encCell) (l:=rc3) 0 ⟨2 * (k:Int)+2,2,⟨q77,(fu k k).length,d77⟩⟩ sty29 I I I I I oM oM) dC (.inl dC) ?_;rintro v80 _ _ ⟨rfl,rfl⟩;refine zc9 fun ⟨w0,hw0⟩=>?_;obtain ⟨q10,d10,rfl⟩:=ag (i:=0) hw0 rfl;clear hw0 w0;refine oU I (fA cH I bG I) dC (.inl dC) (SP.on I (sK 1 bG I I I I I sB) (.inl dC) ?_);rintro _ _ _ ⟨rfl,rfl⟩;refine pN (tN (sQ (fS fun g78 hle78 hs78=>?_)));have hov:ao g78 (.slice q10 (rc3++[(⟨2 * (k:Int)+2,2,⟨q77,(fu k k).length,d77⟩⟩:Rc)]).length d10) (dU k):=(by rw[hall]; exact⟨_,hs78,(hrcs3.mono fun _ _=>aq.mono (hle77.trans hle78)).append ⟨⟨I,I,hsd2.mono hle78⟩,trivial⟩⟩);refine rG (lK (qV 0 aY ar I I I) (lW (cL call110 I (eH E g78 _ _ (dU k) hov hfit)) ?_));rintro _ g79 _ ⟨rfl,hle79,x79,rfl,hx79⟩;obtain ⟨q79,d79,rfl⟩:=hx79.form;refine oZ (sK 1 ar I I I I I sB) ?_;refine tZ (rE ?_);exact ST.retCD 1 s (.inl I) results61 I aY ar I I uR ⟨I,hle1.trans (hle2.trans (hle77.trans (hle78.trans hle79))),_,I,hx79⟩
   ·have hall:dU k=lc k++l7 k k++[⟨2 * (k:Int)+1,2,fu k k⟩]:=by unfold dU; rw[zf7 hev,zc4]
    refine kP (tN (sQ (fS fun g78 hle78 hs78=>?_)));have hov:ao g78 (.slice q9 rc3.length d9) (dU k):=(by rw[hall]; exact⟨_,hs78,hrcs3.mono fun _ _=>aq.mono hle78⟩);refine rG (lK (qV 0 aY ar I I I) (lW (cL call110 I (eH E g78 _ _ (dU k) hov hfit)) ?_));rintro _ g79 _ ⟨rfl,hle79,x79,rfl,hx79⟩;obtain ⟨q79,d79,rfl⟩:=hx79.form;refine oZ (sK 1 ar I I I I I sB) ?_;refine tZ (rE ?_);exact ST.retCD 1 s (.inl I) results61 I aY ar I I uR ⟨I,hle1.trans (hle2.trans (hle78.trans hle79)),_,I,hx79⟩
theorem aB (a b:Int)(h0:0<b)(h1:b≤1000):0≤aI a b∧aI a b<b:=by
 have h2:a.tmod b<b:=Int.tmod_lt_of_pos a h0;have h3 : -b<a.tmod b:=by
  have:=Int.lt_tmod_of_pos a h0;omega
 unfold aI;rw[zk5 _ oM,Int.tmod_eq_emod_of_nonneg oM];exact⟨zk2 _ oM,zk1 _ h0⟩
def ya (y:Int):Int:=1+2 * aI (IntKind.i64.wrap (y.tdiv 7)) 3
def CK (y:Int):Int:=aI (IntKind.i64.wrap (y.tdiv 5)) 4
def iC (t:Int)(x:Cl):Bool:=decide (t>1)&&decide (x.id.tmod t=1)
def gX (t:Int)(x:Cl)(q:Int):Bool:=(decide (t>1)&&decide (x.dim>1))&&decide (q.tmod t=1)
def te (b:Bool)(a:Int):Int:=if b then IntKind.i64.wrap (0 - a) else a
def bg (k t:Int)(x:Cl)(q:aj):aj:=⟨dZ q.cell k,te (gX t x q.cell) (te (iC t x) q.sign)⟩
def aN (k t:Int)(x:Cl):Cl:=⟨dZ x.id k,x.dim,x.sides.map (bg k t x)⟩
def EB (l:List Cl)(y:Int):List Cl:=aa (l.map (aN (ya y) (CK y)))
theorem wd {l:List Cl}(h:cU l)(k t:Int):cU (l.map (aN k t)):=by
 refine⟨by simpa using h.1,fun c hc=>?_⟩;obtain ⟨x,hx,rfl⟩:=ze9.1 hc;simpa [aN] using h.2 x hx
theorem jo (E:World)(g:PH)(s:Own)(v:Value)(l:List Cl)(y:Int)(hv:ao g v l)(hf:cU l) :
  Ctr Tryz.prog E 63 #[.agg #[v],vi y] g s (fun r g' s'=>s=s'∧Le g g'∧∃ x,r = .agg #[x]∧ao g' x (EB l y)):=by
 obtain ⟨rs,hrs,hall⟩:=hv;have el:=hall.length;obtain ⟨p,c,rfl⟩:=hrs.form;have hll:=hf.1;have hk3:=aB (IntKind.i64.wrap (y.tdiv 7)) 3 dC dC;have ht4:=aB (IntKind.i64.wrap (y.tdiv 5)) 4 dC dC;refine za9 (args:=[.agg #[.slice p rs.length c],vi y]) func63 I ntmps63 (bE I) ?_;refine rZ (bW (bO I) fun b2=>?_);refine bW (aL zk8) fun b4=>?_;refine tZ (sW I (lU (SU.quo I I dC) (lW (cL dD I (ah E g _ _ 3 dC)) ?_)));rintro _ _ _ ⟨rfl,rfl,rfl⟩;refine lU (SU.mul I I oM) (yD I (aT I (sW I (lU (SU.quo I I dC) (lW (cL dD I (ah E g _ _ 4 dC)) ?_)))));rintro _ _ _ ⟨rfl,rfl,rfl⟩;refine aT I (rZ (bW (aL zk8) fun b7=>?_));refine tZ (sQ (rZ (aT I (bK (zb4 64 3 ?_)))));have hke:1+2 * aI (IntKind.i64.wrap (y.tdiv 7)) 3=ya y:=rfl;have hte:aI (IntKind.i64.wrap (y.tdiv 5)) 4=CK y:=rfl;rw[hte] at ht4;unfold EB;simp only[hke,hte];generalize ya y=k at *;generalize CK y=t at *;refine oP (ι:=PH×Value×List Rc×Nat) (fun i=>[(2,pp b2 0),(4,pp b4 0),(5,vi k),(6,vi t),(7,pp b7 0),(8,vi i.2.2.2)]) (fun i=>i.1) (fun i=>rowA encCell 64 i.2.1 i.2.2.1::pt b7 (.cells #[i.2.1] 31 (0,0))::pt b4 (.cells #[.slice none 0 0] 31 (0,0))::pt b2 (.cells #[.slice p rs.length c] 31 (0,0))::s)
  (fun i=>Le g i.1∧i.2.2.2≤rs.length∧au (aq i.1) ((l.take i.2.2.2).map (aN k t)) i.2.2.1) (fun i=>rs.length - i.2.2.2)
  (g,.slice none 0 0,[],0) sB rfl rfl ⟨zb7 g,zf4 _,trivial⟩ ?_
 rintro ⟨g1,ov,rcs,i⟩ ⟨hle,hi,hrcs⟩;dsimp only at hle hi hrcs ⊢;have hrl:=hrcs.length;rw[ze4,ze2] at hrl;refine sQ (sW I (lU (fA cH I bG I) (lK (qL (v:=.slice p rs.length c) dg I (cO 3 I I)) (lU (eN az I) (yL I (tZ ?_))))));refine iP I (fun hlt=>?_) (fun hlt=>?_)
 ·have hil:i<l.length:=oM;have hir:i<rs.length:=oM;have hb1:=hrs.based oM;have hxr:=(hall.get (gE hil) (gE hir)).mono hle;have hgx:rs[((i:Nat):Int).toNat]?=some rs[i]:=gE hir;have hsucc:=fy hil (aN k t);have hxl:=hf.2 _ (gM hil);generalize hxe:l[i]=x at *;obtain ⟨xp,xcap,hrx,hxs⟩:=dq hxr;rw[hrx] at hgx;refine kP (tN (sQ (bK (rZ (lU (fA cH I bG I) (lK (qL (v:=.slice p rs.length c) dg I (cO 3 I I)) (lM I (lU (iA az aw I I hb1 oM sL) (lK (eA eO aw I (hrs.mono hle).rd hgx) (bW (aL zk9) fun b9=>?_))))))))));refine oZ (sK 0 aw I I I I I sB) ?_;refine tZ ?_;refine SC.to (fun w hw=>hw) (g':=g1) (s':=pt b9 (.cells #[vi x.id,vi x.dim,.slice xp x.sides.length xcap] 64 (0,0))::rowA encCell 64 ov rcs::pt b7 (.cells #[ov] 31 (0,0))::pt b4 (.cells #[.slice none 0 0] 31 (0,0))::pt b2 (.cells #[.slice p rs.length c] 31 (0,0))::s) ?_;refine SC.cut (ι:=Nat) (fun b10=>[(2,pp b2 0),(4,pp b4 0),(5,vi k),(6,vi t),(7,pp b7 0),(8,vi i),(9,pp b9 0),(10,pp b10 0)]) (fun _=>g1) (fun b10=>pt b10 (.cells #[vi (dZ x.id k),vi x.dim,.slice none 0 0] 64 (0,0))::pt b9 (.cells #[vi x.id,vi x.dim,.slice xp x.sides.length xcap] 64 (0,0))::rowA encCell 64 ov rcs::pt b7 (.cells #[ov] 31 (0,0))::pt b4 (.cells #[.slice none 0 0] 31 (0,0))::pt b2 (.cells #[.slice p rs.length c] 31 (0,0))::s) (fun _=>True) ?_ ?_
  ·refine SC.drawX [] ze1 kR ?_;refine SX.u (i:=0) I kR (fA am I zT3 I) dC (SX.q (i:=1) I kR (qL (v:=vi x.id) iT3 I (cO 0 I I)) dC (SX.u (i:=2) I kR (mV I) dC (SX.u (i:=4) I kR (fA am I zT3 I) dC (SX.q (i:=5) I kR (qL (v:=vi x.dim) iT3 I (cO 0 I I)) dC ?_))))
   repeat' (first
    | (refine SB.o (i:=3) I (cL call111 I (jt E g1 _ x.id k)) dC (.inr iR) ?_; rintro _ _ _ ⟨rfl,rfl,rfl⟩; refine SX.u (i:=6) I kD (za1 I (buildC64 _ _)) dC ?_)
    | (refine SB.o (i:=3) I (cL call111 I (jt E g1 _ x.id k)) dC (.inr iR) ?_; rintro _ _ _ ⟨rfl,rfl,rfl⟩; refine SX.u (i:=6) I kD (za1 I (buildC64 _ _)) dC ?_)
    | (refine SB.o (i:=7) I (aL zk9) dC (.inr iR) ?_; rintro _ _ _ ⟨b10,rfl,rfl,rfl⟩)
    | (refine SB.on (i:=8) I (sK 0 aw I I I I I sB) (.inr iR) ?_; rintro _ _ _ ⟨rfl,rfl⟩)
    | refine zd5 3 7 kD ?_ ?_
    | refine zd4 7 kD ?_
    | refine zd4 8 kD ?_
    | refine zd4 3 kD ?_
    | (refine SX.nil kD ?_; exact za7 b10 sB I I trivial))
  rintro b10 -;try dsimp only
  refine zb4 67 2 (sQ (rZ (aT I (bK ?_))));refine oP (ι:=Value×Nat) (fun j=>[(2,pp b2 0),(4,pp b4 0),(5,vi k),(6,vi t),(7,pp b7 0),(8,vi i),(9,pp b9 0),(10,pp b10 0),(11,vi j.2)]) (fun _=>g1) (fun j=>rowA encSide 67 j.1 ((x.sides.take j.2).map (bg k t x))::pt b10 (.cells #[vi (dZ x.id k),vi x.dim,j.1] 64 (0,0))::pt b9 (.cells #[vi x.id,vi x.dim,.slice xp x.sides.length xcap] 64 (0,0))::rowA encCell 64 ov rcs::pt b7 (.cells #[ov] 31 (0,0))::pt b4 (.cells #[.slice none 0 0] 31 (0,0))::pt b2 (.cells #[.slice p rs.length c] 31 (0,0))::s)
   (fun j=>j.2≤x.sides.length) (fun j=>x.sides.length - j.2) (.slice none 0 0,0) sB rfl rfl (zf4 _) ?_
  rintro ⟨sv,j⟩ hj;dsimp only at hj ⊢;refine sQ (sW I (lU (fA am I aX I) (lK (qL (v:=.slice xp x.sides.length xcap) bH I (cO 2 I I)) (lU (eN bF I) (yL I (tZ ?_))))));refine iP I (fun hlt2=>?_) (fun hlt2=>?_)
  ·have hjl:j<x.sides.length:=oM;have hb3:=hxs.based oM;have hjx:x.sides[((j:Nat):Int).toNat]?=some x.sides[j]:=gE hjl;have hjs:=fy hjl (bg k t x);generalize x.sides[j]=z at *;refine kP (tN (sQ (bK ?_)));refine SC.cut (ι:=Nat) (fun b12=>[(2,pp b2 0),(4,pp b4 0),(5,vi k),(6,vi t),(7,pp b7 0),(8,vi i),(9,pp b9 0),(10,pp b10 0),(11,vi j),(12,pp b12 0)]) (fun _=>g1) (fun b12=>pt b12 (.cells #[vi (dZ z.cell k),vi z.sign] 67 (0,0))::rowA encSide 67 sv ((x.sides.take j).map (bg k t x))::pt b10 (.cells #[vi (dZ x.id k),vi x.dim,sv] 64 (0,0))::pt b9 (.cells #[vi x.id,vi x.dim,.slice xp x.sides.length xcap] 64 (0,0))::rowA encCell 64 ov rcs::pt b7 (.cells #[ov] 31 (0,0))::pt b4 (.cells #[.slice none 0 0] 31 (0,0))::pt b2 (.cells #[.slice p rs.length c] 31 (0,0))::s) (fun _=>True) ?_ ?_
   ·refine SC.drawX [] ze1 kR ?_;refine SX.u (i:=0) I kR (fA am I aX I) dC (SX.q (i:=1) I kR (qL (v:=.slice xp x.sides.length xcap) bH I (cO 2 I I)) dC (SX.u (i:=2) I kR (mV I) dC (SX.u (i:=3) I kR (iA bF bJ I I hb3 oM sL) dC (SX.u (i:=4) I kR (fC de I zT3 I hb3) dC (SX.q (i:=5) I kR (aZ (e:=encSide) (o:=0) (u:=vi z.cell) iT3 I hxs.rd hjx I) dC (SX.u (i:=6) I kR (mV I) dC (SX.u (i:=8) I kR (fA am I aX I) dC (SX.q (i:=9) I kR (qL (v:=.slice xp x.sides.length xcap) bH I (cO 2 I I)) dC (SX.u (i:=10) I kR (mV I) dC (SX.u (i:=11) I kR (iA bF bJ I I hb3 oM sL) dC (SX.u (i:=12) I kR (fC de I zT3 I hb3) dC (SX.q (i:=13) I kR (aZ (e:=encSide) (o:=1) (u:=vi z.sign) iT3 I hxs.rd hjx I) dC ?_))))))))))))
    repeat' (first
     | (refine SB.o (i:=7) I (cL call111 I (jt E g1 _ z.cell k)) dC (.inr iR) ?_; rintro _ _ _ ⟨rfl,rfl,rfl⟩; refine SX.u (i:=14) I kD (za1 I (buildS67 _ _)) dC ?_)
     | (refine SB.o (i:=7) I (cL call111 I (jt E g1 _ z.cell k)) dC (.inr iR) ?_; rintro _ _ _ ⟨rfl,rfl,rfl⟩; refine SX.u (i:=14) I kD (za1 I (buildS67 _ _)) dC ?_)
     | (refine SB.o (i:=15) I (aL zk7) dC (.inr iR) ?_; rintro _ _ _ ⟨b12,rfl,rfl,rfl⟩)
     | (refine SB.on (i:=16) I (sK 0 bJ I I I I I sB) (.inr iR) ?_; rintro _ _ _ ⟨rfl,rfl⟩)
     | refine zd5 7 15 kD ?_ ?_
     | refine zd4 15 kD ?_
     | refine zd4 16 kD ?_
     | refine zd4 7 kD ?_
     | (refine SX.nil kD ?_; exact za7 b12 sB I I trivial))
   rintro b12 -;try dsimp only
   have e1:t>1→iC t x=decide (x.id.tmod t=1):=fun h=>by simp[iC,h]
   have e2:¬ t>1→iC t x=false:=fun h=>by simp only[iC,h,decide_false,Bool.false_and]
   have e3:t>1→x.dim>1→gX t x z.cell=decide (z.cell.tmod t=1):=fun h h'=>by simp[gX,h,h']
   have e4:t>1→¬ x.dim>1→gX t x z.cell=false:=fun h h'=>by simp only[gX,h',decide_false,Bool.and_false,Bool.false_and]
   have e5:¬ t>1→gX t x z.cell=false:=fun h=>by simp only[gX,h,decide_false,Bool.false_and]
   refine SC.cut (ι:=Int) (fun _=>[(2,pp b2 0),(4,pp b4 0),(5,vi k),(6,vi t),(7,pp b7 0),(8,vi i),(9,pp b9 0),(10,pp b10 0),(11,vi j),(12,pp b12 0)]) (fun _=>g1) (fun sg=>pt b12 (.cells #[vi (dZ z.cell k),vi sg] 67 (0,0))::rowA encSide 67 sv ((x.sides.take j).map (bg k t x))::pt b10 (.cells #[vi (dZ x.id k),vi x.dim,sv] 64 (0,0))::pt b9 (.cells #[vi x.id,vi x.dim,.slice xp x.sides.length xcap] 64 (0,0))::rowA encCell 64 ov rcs::pt b7 (.cells #[ov] 31 (0,0))::pt b4 (.cells #[.slice none 0 0] 31 (0,0))::pt b2 (.cells #[.slice p rs.length c] 31 (0,0))::s) (fun sg=>sg=te (iC t x) z.sign) ?_ ?_
   ·refine SC.cutB 69 ((iC t x)) ?_ ?_
    ·refine rG (lM I (lU (gR I I) (lM I ?_)));refine sP ?_ ?_
     ·intro h64;refine lY I I I (fA am I zT3 I) (SL.gq (gT I I I dC) (qL (v:=vi x.id) iT3 I (cO 3 I I)) dC (yC I (SL.go (gT I I I dC) (cL call112 I (nP E g1 _ x.id t oM)) dC ?_)));rintro _ _ _ ⟨rfl,rfl,rfl⟩;refine yP I (nL ?_);exact za8 (by (rw[e1 h64]; rfl)) mI
     ·intro h64;refine yA I (yA I (yA I (yA I (yF I (nL ?_)))));exact za8 (by (rw[e2 h64]; rfl)) mI
    refine iQ I (fun hq1=>?_) (fun hq1=>?_)
    ·refine rG (lU (fA de rfl zT3 rfl) (lK (qL (v:=vi z.sign) iT3 rfl (cO 0 rfl rfl)) (lU (SU.neg rfl) (lU (fA de rfl zT3 rfl) (oZ (SO.store1 0 zT3 rfl rfl rfl rfl (bE rfl) (by rfl)) ?_)))));refine nL ?_;exact za7 (IntKind.i64.wrap (0 - z.sign)) sB I I (by rw[hq1]; rfl)
    ·refine kP ?_;exact za7 z.sign sB I I (by rw[hq1]; rfl)
   rintro s1 hs1;try dsimp only
   refine SC.cut (ι:=Int) (fun _=>[(2,pp b2 0),(4,pp b4 0),(5,vi k),(6,vi t),(7,pp b7 0),(8,vi i),(9,pp b9 0),(10,pp b10 0),(11,vi j),(12,pp b12 0)]) (fun _=>g1) (fun sg=>pt b12 (.cells #[vi (dZ z.cell k),vi sg] 67 (0,0))::rowA encSide 67 sv ((x.sides.take j).map (bg k t x))::pt b10 (.cells #[vi (dZ x.id k),vi x.dim,sv] 64 (0,0))::pt b9 (.cells #[vi x.id,vi x.dim,.slice xp x.sides.length xcap] 64 (0,0))::rowA encCell 64 ov rcs::pt b7 (.cells #[ov] 31 (0,0))::pt b4 (.cells #[.slice none 0 0] 31 (0,0))::pt b2 (.cells #[.slice p rs.length c] 31 (0,0))::s) (fun sg=>sg=te (gX t x z.cell) s1) ?_ ?_
   ·refine SC.cutB 90 ((gX t x z.cell)) ?_ ?_
    ·refine rG (lM I (lU (gR I I) (lM I ?_)));refine sP ?_ ?_
     ·intro h76;refine lY I I I (fA am I zT3 I) (SL.gq (gT I I I dC) (qL (v:=vi x.dim) iT3 I (cO 3 I I)) dC (lY I I I (gR I I) (yP I (lM I ?_))));refine sP ?_ ?_
      ·intro h81;refine lY I I I (fA am I aX I) (SL.gq (gT I I I dC) (qL (v:=.slice xp x.sides.length xcap) bH I (cO 3 I I)) dC (yC I (lY I I I (iA bF bJ I I hb3 oM sL) (lY I I I (fC de I zT3 I hb3) (SL.gq (gT I I I dC) (aZ (e:=encSide) (o:=0) (u:=vi z.cell) iT3 I hxs.rd hjx I) dC (yC I (SL.go (gT I I I dC) (cL call112 I (nP E g1 _ z.cell t oM)) dC ?_)))))));rintro _ _ _ ⟨rfl,rfl,rfl⟩;refine yP I (nL ?_);exact za8 (by (rw[e3 h76 h81]; rfl)) mI
      ·intro h81;refine yA I (yA I (yA I (yA I (yA I (yA I (yA I (yA I (yF I (nL ?_)))))))));exact za8 (by (rw[e4 h76 h81]; rfl)) mI
     ·intro h76;refine yA I (yA I (yA I (yF I (lM I (yA I (yA I (yA I (yA I (yA I (yA I (yA I (yA I (yF I (nL ?_))))))))))))));exact za8 (by (rw[e5 h76]; rfl)) mI
    refine iQ I (fun hq2=>?_) (fun hq2=>?_)
    ·refine rG (lU (fA de rfl zT3 rfl) (lK (qL (v:=vi s1) iT3 rfl (cO 0 rfl rfl)) (lU (SU.neg rfl) (lU (fA de rfl zT3 rfl) (oZ (SO.store1 0 zT3 rfl rfl rfl rfl (bE rfl) (by rfl)) ?_)))));refine nL ?_;exact za7 (IntKind.i64.wrap (0 - s1)) sB I I (by rw[hq2]; rfl)
    ·refine kP ?_;exact za7 s1 sB I I (by rw[hq2]; rfl)
   rintro s2 hs2;try dsimp only
   have hrz:bg k t x z=⟨dZ z.cell k,s2⟩:=by unfold bg; rw[hs2,hs1]
   rw[hrz] at hjs;have hml:((x.sides.take j).map (bg k t x)).length=j:=by rw[ze4,ze2]; omega
   refine rG (lU (fA am I aX I) (lK (qL (v:=sv) bH I (cO 2 I I)) (lK (qV 0 mD bJ I I I) (lW (bS sty62 I I I (ab sB) dC) ?_))));rintro _ _ _ ⟨b98,rfl,rfl,rfl⟩;refine lW (aP (e:=encSide) 1 ⟨dZ z.cell k,s2⟩ sty62 I I I I I oM oM) ?_;rintro sv' _ _ ⟨rfl,rfl⟩;rw[← hjs];refine zd1 fun ⟨w0,hw0⟩=>?_;obtain ⟨q6,d6,rfl⟩:=ag (i:=1) hw0 rfl;clear hw0 w0;refine lU (fA am rfl aX rfl) (oZ (SO.store1 2 aX rfl rfl rfl rfl (bE rfl) (by rfl)) ?_);refine nL (bN (tN (rG (lM I (yD I (lA I (nL (dR (s':=rowA encSide 67 (.slice q6 ((x.sides.take (j+1)).map (bg k t x)).length d6) ((x.sides.take (j+1)).map (bg k t x))::pt b10 (.cells #[vi (dZ x.id k),vi x.dim,(.slice q6 ((x.sides.take (j+1)).map (bg k t x)).length d6)] 64 (0,0))::pt b9 (.cells #[vi x.id,vi x.dim,.slice xp x.sides.length xcap] 64 (0,0))::rowA encCell 64 ov rcs::pt b7 (.cells #[ov] 31 (0,0))::pt b4 (.cells #[.slice none 0 0] 31 (0,0))::pt b2 (.cells #[.slice p rs.length c] 31 (0,0))::s) (.cons _ (.refl _)) ?_))))))));exact gA (_,j+1) sB I I lN lN
  ·have hjj:x.sides.take j=x.sides:=tL oM;rw[hjj];refine xI (tX (tX (bX (tN (fS fun g2 hle2 hs2=>?_)))));have hsd:SlA encSide g2 sv (x.sides.map (bg k t x)):=hs2;obtain ⟨q8,d8,rfl⟩:=za2 hsd;obtain ⟨nc,hnc⟩:∃ nc:Rc,nc=⟨dZ x.id k,x.dim,⟨q8,(x.sides.map (bg k t x)).length,d8⟩⟩:=⟨_,rfl⟩;refine rG (lU (fA cH I bG I) (lK (qL (v:=ov) dg I (cO 3 I I)) (lK (qV 0 eO aw I I I) (lW (bS sty29 I I I (ab sB) dC) ?_))));rintro _ _ _ ⟨b104,rfl,rfl,rfl⟩;refine lW (aP (e:=encCell) 2 nc sty29 I I I I (by rw[hnc]; rfl) oM oM) ?_;rintro v105 _ _ ⟨rfl,rfl⟩;refine zd1 fun ⟨w0,hw0⟩=>?_;obtain ⟨q9,d9,rfl⟩:=ag (i:=2) hw0 rfl;clear hw0 w0;refine lU (fA cH I bG I) (oZ (sK 3 bG I I I I I sB) ?_);refine nL (bN (tN (rG (lM I (yD I (lA I (nL (dR (s':=rowA encCell 64 (.slice q9 (rcs++[nc]).length d9) (rcs++[nc])::pt b7 (.cells #[(.slice q9 (rcs++[nc]).length d9)] 31 (0,0))::pt b4 (.cells #[.slice none 0 0] 31 (0,0))::pt b2 (.cells #[.slice p rs.length c] 31 (0,0))::s) (.cons _ (.cons _ (.refl _))) ?_))))))));refine gA (g2,_,rcs++[nc],i+1) sB I I ⟨hle.trans hle2,lN,?_⟩ lN;dsimp only;rw[hsucc];exact (hrcs.mono fun _ _=>aq.mono hle2).append ⟨(by rw[hnc]; exact⟨I,I,hsd⟩),trivial⟩
 ·have hii:l.take i=l:=tL oM;rw[hii] at hrcs;refine xI (tX (tX (bX (tN (sQ (fS fun g2 hle2 hs2=>?_))))));have hov:ao g2 ov (l.map (aN k t)):=⟨rcs,hs2,hrcs.mono fun _ _=>aq.mono hle2⟩;obtain ⟨qo,do_,rfl⟩:=hov.form;refine rG (lK (qV 0 aY ar I I I) (lW (cL call110 I (eH E g2 _ _ _ hov (wd hf k t))) ?_));rintro _ g3 _ ⟨rfl,hle3,x3,rfl,hx3⟩;obtain ⟨q3,d3,rfl⟩:=hx3.form;refine oZ (sK 1 ar I I I I I sB) ?_;refine tZ (rE ?_);exact ST.retCD 1 s (.inl I) results63 I aY ar I I uR ⟨I,hle.trans (hle2.trans hle3),_,I,hx3⟩
def uz (j:Int):List (List Int):=if j=0 then [[0,1]] else if j=1 then [[0,1],[1,2]] else [[0,1],[1,2],[0,2]]
def D5 (j:Int)(a b c:Value):Value:=if j=0 then a else if j=1 then b else c
theorem wa {j:Int}(h:0≤j∧j<3)(a b c:Value) : #[a,b,c][0+j.toNat * 1]?=some (D5 j a b c):=by
 rcases (by omega:j=0∨j=1∨j=2) with rfl | rfl | rfl <;> rfl
theorem nR {g:PH}{j:Int}(h:0≤j∧j<3){a b c:Value}(ha:aH g a [[0,1]])(hb:aH g b [[0,1],[1,2]])(hc:aH g c [[0,1],[1,2],[0,2]]):aH g (D5 j a b c) (uz j):=by
 rcases (by omega:j=0∨j=1∨j=2) with rfl | rfl | rfl
 ·exact ha
 ·exact hb
 ·exact hc
theorem eS (j:Int):(uz j).length≤3∧∀ x∈uz j,x.length≤2:=by
 unfold uz;split
 ·exact⟨by decide,by decide⟩
 ·split
  ·exact⟨by decide,by decide⟩
  ·exact⟨by decide,by decide⟩
theorem pj (y:Int):4≤(lX y).length∧(lX y).length≤14∧∀ x∈lX y,x.length≤3:=by
 unfold lX;split
 ·exact⟨by decide,by decide,by decide⟩
 ·split
  ·exact⟨by decide,by decide,by decide⟩
  ·refine⟨by rw[je]; decide,by rw[je]; decide,fun x hx=>?_⟩;obtain ⟨i,_,hx⟩:=List.mem_flatMap.1 hx;simp at hx
   rcases hx with rfl | rfl <;> simp
def nm (m:Int)(ls:List (List Int))(y:Int):List Cl :=
 if m=3 then bT (lX y) else if m=4 then bM (bT (uz (aI y 3))) (bT (uz (aI (IntKind.i64.wrap (y.tdiv 3)) 3)))
 else if m=5 then td (2+aI y 5).toNat else if m=6 then bM (bM (bT [[0,1]]) (bT [[0,1]])) (bT [[0,1]])
 else if m=7 then bT (l5 ls++(lX y).take (2+aI y 2).toNat) else bT (l5 ls)
theorem p8 (m:Int)(ls:List (List Int))(y:Int):cU (nm m ls y):=by
 unfold nm;have h5:=aB y 5 dC dC
 repeat' split
 ·exact (dL _).1
 ·exact (eG _ _).1
 ·exact bw (mu oM).1
 ·exact (eG _ _).1
 ·exact (dL _).1
 ·exact (dL _).1
def o8 (b:List Cl):List Cl:=if (b.length:Int)>45 then oT else b
def jA (kd:Int)(ls:List (List Int))(y:Int):List Cl:=EB (o8 (nm (aI kd 8) ls y)) y
theorem AF {b:List Cl}(h:cU b):cU (o8 b):=by
 unfold o8;split
 ·exact (eG _ _).1
 ·exact h
theorem lB (kd:Int)(ls:List (List Int))(y:Int):cU (jA kd ls y):=bw (wd (AF (p8 _ _ _)) _ _)
theorem Tryz.build113 (p1:Option Addr)(n1 c1:Nat)(p2:Option Addr)(n2 c2:Nat)(p3:Option Addr)(n3 c3:Nat)(w:World):(Instr.build 113 #[(0,.slice p1 n1 c1),(1,.slice p2 n2 c2),(2,.slice p3 n3 c3)]).run Tryz.prog w = .ok (.agg #[.slice p1 n1 c1,.slice p2 n2 c2,.slice p3 n3 c3]) w:=by
 have hz:(Value.agg #[Value.slice none 0 0,Value.slice none 0 0,Value.slice none 0 0]).cells = #[.slice none 0 0,.slice none 0 0,.slice none 0 0]:=rfl;have h1:(Value.slice p1 n1 c1).cells = #[.slice p1 n1 c1]:=rfl;have h2:(Value.slice p2 n2 c2).cells = #[.slice p2 n2 c2]:=rfl;have h3:(Value.slice p3 n3 c3).cells = #[.slice p3 n3 c3]:=rfl;simp[Instr.build,Instr.fill,hz,h1,h2,h3]
theorem se (E:World)(g:PH)(s:Own)(v:Value)(kd y:Int)(ls:List (List Int))(hv:aH g v ls) :
  Ctr Tryz.prog E 22 #[.agg #[vi kd,v,vi y]] g s (fun r g' s'=>s=s'∧Le g g'∧∃ x,r = .agg #[x]∧ao g' x (jA kd ls y)):=by
 obtain ⟨p,n,c,rfl⟩:∃ p n c,v = .slice p n c:=by
  obtain ⟨rs0,hrs0,_⟩:=hv;obtain ⟨p,c,rfl⟩:=za2 hrs0;exact⟨_,_,_,I⟩
 have hm8:=aB kd 8 dC dC;have hy3:=aB y 3 dC dC;have hy33:=aB (IntKind.i64.wrap (y.tdiv 3)) 3 dC dC;have hy5:=aB y 5 dC dC;have hy2:=aB y 2 dC dC;have hss:=xf ls;have hsf:=pj y;unfold jA;have hfit:=p8 (aI kd 8) ls y;refine za9 (args:=[.agg #[vi kd,.slice p n c,vi y]]) func22 I ntmps22 (bE I) ?_;refine rZ (bW (bO I) fun b1=>?_);refine bW (aL zk8) fun b2=>?_;refine tZ (rZ (bW (aL zk8) fun b3=>?_));refine tZ ?_;refine SC.to (fun w hw=>hw) (g':=g) (s':=pt b3 (.cells #[.slice none 0 0] 31 (0,0))::pt b2 (.cells #[.slice none 0 0] 31 (0,0))::pt b1 (.cells #[vi kd,.slice p n c,vi y] 24 (0,0))::s) ?_;refine SC.cut (ι:=PH×Value) (fun _=>[(1,pp b1 0),(2,pp b2 0),(3,pp b3 0)]) (fun i=>i.1) (fun i=>pt b3 (.cells #[i.2] 31 (0,0))::pt b2 (.cells #[.slice none 0 0] 31 (0,0))::pt b1 (.cells #[vi kd,.slice p n c,vi y] 24 (0,0))::s) (fun i=>Le g i.1∧ao i.1 i.2 (nm (aI kd 8) ls y)) ?_ ?_
 ·rcases (by omega:(aI kd 8=0∨aI kd 8=1∨aI kd 8=2)∨aI kd 8=3∨aI kd 8=4∨aI kd 8=5∨aI kd 8=6∨aI kd 8=7) with (hm | hm | hm) | hm | hm | hm | hm | hm
  ·refine rZ (lU (fA j9 I zT3 I) (lK (qL (v:=vi kd) iT3 I (cO 2 I I)) (lW (cL dD I (ah E g _ _ 8 dC)) ?_)));rintro _ _ _ ⟨rfl,rfl,rfl⟩;rw[hm];refine tZ (bK (sQ (rZ (yE I (aT I (cT I (kP (tN (cT I (rG (lU (fA j9 I rL I) (lK (qL (v:=.slice p n c) isAgg22 I (cO 2 I I)) (lW (cL call58 I (kH E g _ _ ls hv)) ?_)))))))))))));rintro v16 g1 _ ⟨rs1,rfl,hle1,hall1⟩;refine fR fun g2 hle2 hs2=>?_;have hls:aH g2 v16 (l5 ls):=⟨rs1,hs2,hall1.mono fun _ _=>be.mono hle2⟩;refine lW (cL call24 I (aO E g2 _ _ _ hls oM (fun x hx=>by have:=hss.2 x hx; omega))) ?_;rintro _ g3 _ ⟨rfl,hle3,u,rfl,hu⟩;obtain ⟨q,d,rfl⟩:=hu.form;refine oZ (sK 0 ar I I I I I sB) ?_;refine nL (bN ?_);exact za7 (g3,_) sB I I ⟨hle1.trans (hle2.trans hle3),hu⟩
  ·refine rZ (lU (fA j9 I zT3 I) (lK (qL (v:=vi kd) iT3 I (cO 2 I I)) (lW (cL dD I (ah E g _ _ 8 dC)) ?_)));rintro _ _ _ ⟨rfl,rfl,rfl⟩;rw[hm];refine tZ (bK (sQ (rZ (yE I (aT I (cF I (rZ (yE I (aT I (cT I (kP (tN (cT I (rG (lU (fA j9 I rL I) (lK (qL (v:=.slice p n c) isAgg22 I (cO 2 I I)) (lW (cL call58 I (kH E g _ _ ls hv)) ?_)))))))))))))))));rintro v16 g1 _ ⟨rs1,rfl,hle1,hall1⟩;refine fR fun g2 hle2 hs2=>?_;have hls:aH g2 v16 (l5 ls):=⟨rs1,hs2,hall1.mono fun _ _=>be.mono hle2⟩;refine lW (cL call24 I (aO E g2 _ _ _ hls oM (fun x hx=>by have:=hss.2 x hx; omega))) ?_;rintro _ g3 _ ⟨rfl,hle3,u,rfl,hu⟩;obtain ⟨q,d,rfl⟩:=hu.form;refine oZ (sK 0 ar I I I I I sB) ?_;refine nL (bN ?_);exact za7 (g3,_) sB I I ⟨hle1.trans (hle2.trans hle3),hu⟩
  ·refine rZ (lU (fA j9 I zT3 I) (lK (qL (v:=vi kd) iT3 I (cO 2 I I)) (lW (cL dD I (ah E g _ _ 8 dC)) ?_)));rintro _ _ _ ⟨rfl,rfl,rfl⟩;rw[hm];refine tZ (bK (sQ (rZ (yE I (aT I (cF I (rZ (yE I (aT I (cF I (rG (yE I (aT I (cT I (rG (lU (fA j9 I rL I) (lK (qL (v:=.slice p n c) isAgg22 I (cO 2 I I)) (lW (cL call58 I (kH E g _ _ ls hv)) ?_))))))))))))))))));rintro v16 g1 _ ⟨rs1,rfl,hle1,hall1⟩;refine fR fun g2 hle2 hs2=>?_;have hls:aH g2 v16 (l5 ls):=⟨rs1,hs2,hall1.mono fun _ _=>be.mono hle2⟩;refine lW (cL call24 I (aO E g2 _ _ _ hls oM (fun x hx=>by have:=hss.2 x hx; omega))) ?_;rintro _ g3 _ ⟨rfl,hle3,u,rfl,hu⟩;obtain ⟨q,d,rfl⟩:=hu.form;refine oZ (sK 0 ar I I I I I sB) ?_;refine nL (bN ?_);exact za7 (g3,_) sB I I ⟨hle1.trans (hle2.trans hle3),hu⟩
  ·refine rZ (lU (fA j9 I zT3 I) (lK (qL (v:=vi kd) iT3 I (cO 2 I I)) (lW (cL dD I (ah E g _ _ 8 dC)) ?_)));rintro _ _ _ ⟨rfl,rfl,rfl⟩;rw[hm];refine tZ (bK (sQ (rZ (yE I (aT I (cF I (rZ (yE I (aT I (cF I (rG (yE I (aT I (cF I (rZ (yE I (aT I ?_)))))))))))))))));refine cT I (rG (lU (fA j9 I zT3 I) (lK (qL (v:=vi y) iT3 I (cO 2 I I)) (lW (cL call59 I (me E g _ y)) ?_))));rintro v22 g1 _ ⟨rfl,hle1,hls⟩;refine lW (cL call24 I (aO E g1 _ _ _ hls oM (fun x hx=>by have:=hsf.2.2 x hx; omega))) ?_;rintro _ g3 _ ⟨rfl,hle3,u,rfl,hu⟩;obtain ⟨q,d,rfl⟩:=hu.form;refine oZ (sK 0 ar I I I I I sB) ?_;refine nL (bN ?_);exact za7 (g3,_) sB I I ⟨hle1.trans hle3,hu⟩
  ·refine rZ (lU (fA j9 I zT3 I) (lK (qL (v:=vi kd) iT3 I (cO 2 I I)) (lW (cL dD I (ah E g _ _ 8 dC)) ?_)));rintro _ _ _ ⟨rfl,rfl,rfl⟩;rw[hm];refine tZ (bK (sQ (rZ (yE I (aT I (cF I (rZ (yE I (aT I (cF I (rG (yE I (aT I (cF I (rZ (yE I (aT I ?_)))))))))))))))));refine cF I (rZ (yE I (aT I (cT I (rZ (lU (fA j9 I zT3 I) (lK (qL (v:=vi y) iT3 I (cO 2 I I)) (lW (cL dD I (ah E g _ _ 3 dC)) ?_))))))));rintro _ _ _ ⟨rfl,rfl,rfl⟩;refine aT I (rZ (lW (bS sty25 I I I (ab sB) dC) ?_));rintro _ _ _ ⟨b29,rfl,rfl,rfl⟩;refine zb3 fun g1 hle1 hb29=>?_;refine lW (bS sty22 I I I (ab ⟨I,trivial⟩) dC) ?_;rintro _ _ _ ⟨b30,rfl,rfl,rfl⟩;refine zb3 fun g2 hle2 hb30=>?_;have hlit30:aH g2 (.slice (some ⟨b30,0,none⟩) 1 1) [[0,1]]:=⟨[eL (.slice (some ⟨b29,0,none⟩) 2 2)],SlA.lit hb30 rfl rfl,⟨SlA.lit (hle2 _ _ hb29) rfl rfl,trivial⟩⟩;refine lW (bS sty25 I I I (ab sB) dC) ?_;rintro _ _ _ ⟨b31,rfl,rfl,rfl⟩;refine zb3 fun g3 hle3 hb31=>?_;refine lW (bS sty25 I I I (ab sB) dC) ?_;rintro _ _ _ ⟨b32,rfl,rfl,rfl⟩;refine zb3 fun g4 hle4 hb32=>?_;refine lW (bS sty22 I I I (ab sB) dC) ?_;rintro _ _ _ ⟨b33,rfl,rfl,rfl⟩;refine zb3 fun g5 hle5 hb33=>?_;have hlit33:aH g5 (.slice (some ⟨b33,0,none⟩) 2 2) [[0,1],[1,2]]:=⟨[eL (.slice (some ⟨b31,0,none⟩) 2 2),eL (.slice (some ⟨b32,0,none⟩) 2 2)],SlA.lit hb33 rfl rfl,⟨SlA.lit (hle5 _ _ (hle4 _ _ hb31)) rfl rfl,SlA.lit (hle5 _ _ hb32) rfl rfl,trivial⟩⟩;refine lW (bS sty25 I I I (ab sB) dC) ?_;rintro _ _ _ ⟨b34,rfl,rfl,rfl⟩;refine zb3 fun g6 hle6 hb34=>?_;refine lW (bS sty25 I I I (ab sB) dC) ?_;rintro _ _ _ ⟨b35,rfl,rfl,rfl⟩;refine zb3 fun g7 hle7 hb35=>?_;refine lW (bS sty25 I I I (ab sB) dC) ?_;rintro _ _ _ ⟨b36,rfl,rfl,rfl⟩;refine zb3 fun g8 hle8 hb36=>?_;refine lW (bS sty22 I I I (ab sB) dC) ?_;rintro _ _ _ ⟨b37,rfl,rfl,rfl⟩;refine zb3 fun g9 hle9 hb37=>?_;have hlit37:aH g9 (.slice (some ⟨b37,0,none⟩) 3 3) [[0,1],[1,2],[0,2]]:=⟨[eL (.slice (some ⟨b34,0,none⟩) 2 2),eL (.slice (some ⟨b35,0,none⟩) 2 2),eL (.slice (some ⟨b36,0,none⟩) 2 2)],SlA.lit hb37 rfl rfl,⟨SlA.lit (hle9 _ _ (hle8 _ _ (hle7 _ _ hb34))) rfl rfl,SlA.lit (hle9 _ _ (hle8 _ _ hb35)) rfl rfl,SlA.lit (hle9 _ _ hb36) rfl rfl,trivial⟩⟩;refine lU (za1 I (build113 _ _ _ _ _ _ _ _ _)) (bW (aL zeroValue113) fun b5=>?_);refine oZ (sK 0 sizeOf113 I I I I I sB) ?_;refine tZ ?_;have hl1:=nR hy3 (hlit30.mono (hle3.trans (hle4.trans (hle5.trans (hle6.trans (hle7.trans (hle8.trans hle9))))))) (hlit33.mono (hle6.trans (hle7.trans (hle8.trans hle9)))) hlit37;have hl2:=nR hy33 (hlit30.mono (hle3.trans (hle4.trans (hle5.trans (hle6.trans (hle7.trans (hle8.trans hle9))))))) (hlit33.mono (hle6.trans (hle7.trans (hle8.trans hle9)))) hlit37;refine SC.to (fun w hw=>hw) (g':=g9) (s':=pt b5 (.cells #[.slice (some ⟨b30,0,none⟩) 1 1,.slice (some ⟨b33,0,none⟩) 2 2,.slice (some ⟨b37,0,none⟩) 3 3] 113 (0,0))::pt b3 (.cells #[.slice none 0 0] 31 (0,0))::pt b2 (.cells #[.slice none 0 0] 31 (0,0))::pt b1 (.cells #[vi kd,.slice p n c,vi y] 24 (0,0))::s) ?_;refine dW [12] [(0,2),(1,2),(2,1),(4,2),(5,1),(6,2),(3,0),(7,0),(8,2),(9,1),(10,0),(11,0),(12,0)] ze1 kR ?_;refine yM I (pU I (iB underlying113 rL I I oM oM) (pK I (qL (v:=D5 (aI y 3) (.slice (some ⟨b30,0,none⟩) 1 1) (.slice (some ⟨b33,0,none⟩) 2 2) (.slice (some ⟨b37,0,none⟩) 3 3)) isAgg22 I (cO 0 I (wa hy3 _ _ _))) (pU I (fA j9 I zT3 I) (pK I (qL (v:=vi y) iT3 I (cO 3 I I)) (pU I (SU.quo I I dC) (SP.o I (cL call24 I (aO E g9 _ _ _ hl1 (by have:=(eS (aI y 3)).1; omega) (fun x hx=>by have:=(eS (aI y 3)).2 x hx; omega))) dC (.inr iR) ?_))))));rintro _ ga _ ⟨rfl,hlea,ua,rfl,hua⟩;obtain ⟨qa,da,rfl⟩:=hua.form;refine SP.o I (cL dD I (ah E ga _ _ 3 dC)) dC (.inr iR) ?_;rintro _ _ _ ⟨rfl,rfl,rfl⟩;refine pU I (iB underlying113 rL I I oM oM) (pK I (qL (v:=D5 (aI (IntKind.i64.wrap (y.tdiv 3)) 3) (.slice (some ⟨b30,0,none⟩) 1 1) (.slice (some ⟨b33,0,none⟩) 2 2) (.slice (some ⟨b37,0,none⟩) 3 3)) isAgg22 I (cO 0 I (wa hy33 _ _ _))) (SP.o I (cL call24 I (aO E ga _ _ _ (hl2.mono hlea) (by have:=(eS (aI (IntKind.i64.wrap (y.tdiv 3)) 3)).1; omega) (fun x hx=>by have:=(eS (aI (IntKind.i64.wrap (y.tdiv 3)) 3)).2 x hx; omega))) dC (.inr (by rintro _ gb _ ⟨rfl,hleb,ub,rfl,hub⟩; exact⟨by exact Le.trans (by assumption) (by assumption),(by exact .refl _)⟩)) ?_));rintro _ gb _ ⟨rfl,hleb,ub,rfl,hub⟩;obtain ⟨qb,db,rfl⟩:=hub.form;have hleab:=hlea.trans hleb;refine SP.o rfl (cL call60 rfl (eI E gb _ _ _ _ _ (hua.mono hleb) hub (dL _).1 (dL _).1)) dC (.inr (by rintro _ gc _ ⟨rfl,hlec,uc,rfl,huc⟩; exact⟨by exact Le.trans (by assumption) (by assumption),(by exact .refl _)⟩)) ?_;rintro _ gc _ ⟨rfl,hlec,uc,rfl,huc⟩;obtain ⟨qc,dc,rfl⟩:=huc.form;refine SP.on I (sK 1 ar I I I I I sB) (.inl dC) ?_;rintro _ _ _ ⟨rfl,rfl⟩;refine pN (bN (dR (s':=pt b3 (.cells #[(Value.slice qc _ dc)] 31 (0,0))::pt b2 (.cells #[.slice none 0 0] 31 (0,0))::pt b1 (.cells #[vi kd,.slice p n c,vi y] 24 (0,0))::s) (.cons _ (.refl _)) ?_));exact za7 (gc,_) sB I I ⟨(hle1.trans (hle2.trans (hle3.trans (hle4.trans (hle5.trans (hle6.trans (hle7.trans (hle8.trans hle9)))))))).trans (hlea.trans (hleb.trans hlec)),huc⟩
  ·refine rZ (lU (fA j9 I zT3 I) (lK (qL (v:=vi kd) iT3 I (cO 2 I I)) (lW (cL dD I (ah E g _ _ 8 dC)) ?_)));rintro _ _ _ ⟨rfl,rfl,rfl⟩;rw[hm];refine tZ (bK (sQ (rZ (yE I (aT I (cF I (rZ (yE I (aT I (cF I (rG (yE I (aT I (cF I (rZ (yE I (aT I ?_)))))))))))))))));refine cF I (rZ (yE I (aT I (cF I (rZ (yE I (aT I (cT I (rG (lU (fA j9 I zT3 I) (lK (qL (v:=vi y) iT3 I (cO 2 I I)) (lW (cL dD I (ah E g _ _ 5 dC)) ?_))))))))))));rintro _ _ _ ⟨rfl,rfl,rfl⟩;refine lU (SU.eq (v':=vi (((2+aI y 5).toNat:Nat):Int)) (aD I I oM) (zd9 vi oM)) (lW (cL call61 I (tA E g _ (2+aI y 5).toNat oM oM)) ?_);rintro _ g3 _ ⟨rfl,hle3,u,rfl,hu⟩;obtain ⟨q,d,rfl⟩:=hu.form;refine oZ (sK 0 ar I I I I I sB) ?_;refine nL (bN ?_);exact za7 (g3,_) sB I I ⟨hle3,hu⟩
  ·refine rZ (lU (fA j9 I zT3 I) (lK (qL (v:=vi kd) iT3 I (cO 2 I I)) (lW (cL dD I (ah E g _ _ 8 dC)) ?_)));rintro _ _ _ ⟨rfl,rfl,rfl⟩;rw[hm];refine tZ (bK (sQ (rZ (yE I (aT I (cF I (rZ (yE I (aT I (cF I (rG (yE I (aT I (cF I (rZ (yE I (aT I ?_)))))))))))))))));refine cF I (rZ (yE I (aT I (cF I (rZ (yE I (aT I (cF I (rZ (yE I (aT I (cT I (rZ (lW (bS sty25 I I I (ab sB) dC) ?_))))))))))))));rintro _ _ _ ⟨b60,rfl,rfl,rfl⟩;refine zb3 fun g1 hle1 hb60=>?_;refine lW (bS sty22 I I I (ab ⟨I,trivial⟩) dC) ?_;rintro _ _ _ ⟨b61,rfl,rfl,rfl⟩;refine zb3 fun g2 hle2 hb61=>?_;have hlit61:aH g2 (.slice (some ⟨b61,0,none⟩) 1 1) [[0,1]]:=⟨[eL (.slice (some ⟨b60,0,none⟩) 2 2)],SlA.lit hb61 rfl rfl,⟨SlA.lit (hle2 _ _ hb60) rfl rfl,trivial⟩⟩;refine lW (cL call24 I (aO E g2 _ _ _ hlit61 dC dC)) ?_;rintro _ ga _ ⟨rfl,hlea,ua,rfl,hua⟩;obtain ⟨qa,da,rfl⟩:=hua.form;refine bW (aL zk8) fun b6=>?_;refine oZ (sK 0 ar I I I I I sB) ?_;refine tZ ?_;refine SC.to (fun w hw=>hw) (g':=ga) (s':=pt b6 (.cells #[.slice qa (bT [[0,1]]).length da] 31 (0,0))::pt b3 (.cells #[.slice none 0 0] 31 (0,0))::pt b2 (.cells #[.slice none 0 0] 31 (0,0))::pt b1 (.cells #[vi kd,.slice p n c,vi y] 24 (0,0))::s) ?_;refine dW [5] [(0,1),(1,1),(3,1),(2,0),(4,0),(5,0)] ze1 kR ?_;refine pK I (qV 0 aY ar I I I) (pK I (qV 0 aY ar I I I) (pK I (qV 0 aY ar I I I) (SP.o I (cL call60 I (eI E ga _ _ _ _ _ hua hua (dL _).1 (dL _).1)) dC (.inr iR) ?_)));rintro _ gb _ ⟨rfl,hleb,ub,rfl,hub⟩;obtain ⟨qb,db,rfl⟩:=hub.form;refine SP.o rfl (cL call60 rfl (eI E gb _ _ _ _ _ hub (hua.mono hleb) (eG _ _).1 (dL _).1)) dC (.inr (by rintro _ gc _ ⟨rfl,hlec,uc,rfl,huc⟩; exact⟨by exact Le.trans (by assumption) (by assumption),(by exact .refl _)⟩)) ?_;rintro _ gc _ ⟨rfl,hlec,uc,rfl,huc⟩;obtain ⟨qc,dc,rfl⟩:=huc.form;refine SP.on I (sK 1 ar I I I I I sB) (.inl dC) ?_;rintro _ _ _ ⟨rfl,rfl⟩;refine pN (bN (dR (s':=pt b3 (.cells #[(Value.slice qc _ dc)] 31 (0,0))::pt b2 (.cells #[.slice none 0 0] 31 (0,0))::pt b1 (.cells #[vi kd,.slice p n c,vi y] 24 (0,0))::s) (.cons _ (.refl _)) ?_));exact za7 (gc,_) sB I I ⟨(hle1.trans hle2).trans (hlea.trans (hleb.trans hlec)),huc⟩
  ·refine rZ (lU (fA j9 I zT3 I) (lK (qL (v:=vi kd) iT3 I (cO 2 I I)) (lW (cL dD I (ah E g _ _ 8 dC)) ?_)));rintro _ _ _ ⟨rfl,rfl,rfl⟩;rw[hm];refine tZ (bK (sQ (rZ (yE I (aT I (cF I (rZ (yE I (aT I (cF I (rG (yE I (aT I (cF I (rZ (yE I (aT I ?_)))))))))))))))));refine cF I (rZ (yE I (aT I (cF I (rZ (yE I (aT I (cF I (rZ (yE I (aT I (cF I (rZ (yE I (aT I (cT I ?_))))))))))))))));refine dW [13] [(0,2),(1,1),(3,2),(4,1),(6,2),(7,1),(2,0),(5,0),(8,0),(9,2),(10,2),(11,0),(12,0),(13,0)] ze1 kR ?_;refine pU I (fA j9 I rL I) (pK I (qL (v:=.slice p n c) isAgg22 I (cO 2 I I)) (pU I (fA j9 I zT3 I) (pK I (qL (v:=vi y) iT3 I (cO 2 I I)) (pU I (fA j9 I zT3 I) (pK I (qL (v:=vi y) iT3 I (cO 2 I I)) (SP.o I (cL call58 I (kH E g _ _ ls hv)) dC (.inr iR) ?_))))));rintro v72 g1 _ ⟨rs1,rfl,hle1,hall1⟩;refine SP.o rfl (cL call59 rfl (me E g1 _ y)) dC (.inr (by rintro v75 g2 _ ⟨rfl,hle2,hsv⟩; exact⟨by exact Le.trans (by assumption) (by assumption),(by exact .cons _ (.refl _))⟩)) ?_;rintro v75 g2 _ ⟨rfl,hle2,hsv⟩;obtain ⟨rs2,hrs2,hall2⟩:=hsv;have hrl2:=hall2.length;have hrl1:=hall1.length;obtain ⟨q2,d2,rfl⟩:=za2 hrs2;have hcap2:=(SlA.cap hrs2).2;have hcut:=SlA.cut hrs2 (l:=0) (m:=(2+aI y 2).toNat) (zf4 _) oM;rw[List.drop_zero,Nat.sub_zero] at hcut;refine SP.o rfl (cL dD rfl (ah E g2 _ _ 2 dC)) dC (.inr (by rintro _ _ _ ⟨rfl,rfl,rfl⟩; exact⟨by exact Le.trans (by assumption) (by assumption),(by exact .cons _ (.refl _))⟩)) ?_;rintro _ _ _ ⟨rfl,rfl,rfl⟩;refine pU I (aD I I oM) (pU I (SU.sliceH br bP I I oM oM) (SP.o I (aQ (e:=aA) 0 sty22 I I I hcut (by rw[ze2]; omega) (by rw[ze2]; omega)) dC (.inr (by rintro v81 _ _ ⟨rfl,rfl⟩; exact⟨by exact Le.trans (by assumption) (by assumption),(by exact .cons _ (.refl _))⟩)) ?_));rintro v81 _ _ ⟨rfl,rfl⟩;refine SP.freezeRow fun g3 hle3 hs3=>?_;have hls:aH g3 v81 (l5 ls++(lX y).take (2+aI y 2).toNat):=⟨_,hs3,(hall1.mono fun _ _=>be.mono (hle2.trans hle3)).append ((au.take _ hall2).mono fun _ _=>be.mono hle3)⟩;have hle13:=hle1.trans (hle2.trans hle3);refine SP.o I (cL call24 I (aO E g3 _ _ _ hls (by rw[ze3,ze2]; omega) (fun x hx=>by rcases zf1.1 hx with h | h; (have:=hss.2 x h; omega); (have:=hsf.2.2 x (List.mem_of_mem_take h); omega)))) dC (.inr (by rintro _ g4 _ ⟨rfl,hle4,u,rfl,hu⟩; exact⟨by exact Le.trans (by assumption) (by assumption),(by exact .refl _)⟩)) ?_;rintro _ g4 _ ⟨rfl,hle4,u,rfl,hu⟩;obtain ⟨q,d,rfl⟩:=hu.form;refine SP.on I (sK 0 ar I I I I I sB) (.inl dC) ?_;rintro _ _ _ ⟨rfl,rfl⟩;refine pN (bN ?_);exact za7 (g4,_) sB I I ⟨hle1.trans (hle2.trans (hle3.trans hle4)),hu⟩
 rintro ⟨g1,bv⟩ ⟨hle1,hbv⟩;dsimp only at hle1 hbv ⊢;generalize hB:nm (aI kd 8) ls y=B at *;obtain ⟨qb,db,rfl⟩:=hbv.form;refine sQ (rZ (lU (fA cH I bG I) (lK (qL (v:=.slice qb B.length db) dg I (cO 0 I I)) (lU (eN az I) (lU (gR I I) (tZ ?_))))));refine iP I (fun hbig=>?_) (fun hbig=>?_)
 ·refine rG (lW (cL call62 I (wQ E g1 _)) ?_);rintro _ g2 _ ⟨rfl,hle2,ut,rfl,hut⟩;obtain ⟨qt,dt,rfl⟩:=hut.form;refine oZ (sK 0 ar I I I I I sB) ?_;refine tZ (sQ ?_);refine SC.to (fun w hw=>hw) (g':=g2) (s':=pt b3 (.cells #[(Value.slice qt oT.length dt)] 31 (0,0))::pt b2 (.cells #[.slice none 0 0] 31 (0,0))::pt b1 (.cells #[vi kd,.slice p n c,vi y] 24 (0,0))::s) ?_;refine rG (lK (qV 0 aY ar I I I) (lU (fA j9 I zT3 I) (lK (qL (v:=vi y) iT3 I (cO 2 I I)) (lW (cL call63 I (jo E g2 _ _ oT y hut (eG _ _).1)) ?_))));rintro _ g3 _ ⟨rfl,hle3,x3,rfl,hx3⟩;obtain ⟨q3,d3,rfl⟩:=hx3.form;refine oZ (sK 1 ar I I I I I sB) ?_;refine tZ (rE ?_);exact ST.retCD 1 s (.inl I) results22 I aY ar I I uR ⟨I,hle1.trans (hle2.trans hle3),_,I,by unfold o8; rw[zf8 hbig]; exact hx3⟩
 ·refine kP (tN (sQ ?_));refine SC.to (fun w hw=>hw) (g':=g1) (s':=pt b3 (.cells #[(Value.slice qb B.length db)] 31 (0,0))::pt b2 (.cells #[.slice none 0 0] 31 (0,0))::pt b1 (.cells #[vi kd,.slice p n c,vi y] 24 (0,0))::s) ?_;refine rG (lK (qV 0 aY ar I I I) (lU (fA j9 I zT3 I) (lK (qL (v:=vi y) iT3 I (cO 2 I I)) (lW (cL call63 I (jo E g1 _ _ B y hbv hfit)) ?_))));rintro _ g3 _ ⟨rfl,hle3,x3,rfl,hx3⟩;obtain ⟨q3,d3,rfl⟩:=hx3.form;refine oZ (sK 1 ar I I I I I sB) ?_;refine tZ (rE ?_);exact ST.retCD 1 s (.inl I) results22 I aY ar I I uR ⟨I,hle1.trans hle3,_,I,by unfold o8; rw[zf7 hbig]; exact hx3⟩
theorem jW (a b:Int)(h0:0<b)(h1:b≤1099511627776):0≤aI a b∧aI a b<b:=by
 have h2:a.tmod b<b:=Int.tmod_lt_of_pos a h0;have h3 : -b<a.tmod b:=by
  have:=Int.lt_tmod_of_pos a h0;omega
 unfold aI;rw[zk5 _ oM,Int.tmod_eq_emod_of_nonneg oM];exact⟨zk2 _ oM,zk1 _ h0⟩
theorem ku (a:Int)(n:Nat)(h0:0<n)(h1:n≤1099511627776):aI a n=(((aI a n).toNat:Nat):Int)∧(aI a n).toNat<n:=by
 have:=jW a n oM oM;omega
def ET:Cl:=⟨0,0,[]⟩
def tV:aj:=⟨0,0⟩
def AZ (z:aj):aj:=⟨z.cell,IntKind.i64.wrap (0 - z.sign)⟩
def jy (x:Cl)(ss:List aj):Cl:=⟨x.id,x.dim,ss⟩
def di (l:List Cl)(n:Int):Cl:=l.getD (aI n l.length).toNat ET
def rH (m:Int)(l:List Cl)(k:Nat)(x:Cl)(n:Int)(j:Nat):List Cl :=
 if m=0 then l.set k ⟨aI n 9 - 1,x.dim,x.sides⟩
 else if m=1 then l.set k ⟨x.id,aI n 12 - 1,x.sides⟩
 else if m=2 then l.eraseIdx k
 else if m=3 then l.set k (jy x (x.sides.set j ⟨(x.sides.getD j tV).cell,aI n 4 - 2⟩))
 else if m=4 then l.set k (jy x (x.sides.set j (AZ (x.sides.getD j tV))))
 else if m=5 then l.set k (jy x (x.sides.set j ⟨(di l (IntKind.i64.wrap (n.tdiv 3))).id,(x.sides.getD j tV).sign⟩))
 else if m=6 then l.set k (jy x (x.sides.eraseIdx j))
 else if m=7 then l.set k (jy x (x.sides++[⟨(di l n).id,1 - 2 * aI n 2⟩]))
 else if m=8 then l++[x]
 else if m=9 then l.set k (jy x (x.sides++(di l n).sides))
 else if m=10 then l.set k (jy x (x.sides.map AZ))
 else if m=11 then l++[⟨500+aI n 3,aI n 4,x.sides⟩]
 else l
def dI (x:Cl)(n:Int):Nat:=if 0<x.sides.length then (aI n x.sides.length).toNat else 0
def jk (l:List Cl)(q0 q1 q2:Int):List Cl :=
 if l.length=0 then [⟨q1,0,[]⟩] else rH (aI q0 13) l (aI q1 l.length).toNat (di l q1) q2 (dI (di l q1) q2)
end Go.Proofs.YtcfkpajlakidbaaGreatDoor
