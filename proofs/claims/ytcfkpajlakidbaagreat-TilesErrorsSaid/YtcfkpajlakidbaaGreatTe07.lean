/- 7 -/
import Derived.Test.YtcfkpajlakidbaaGreatTe06
import Derived.Test.YtcfkpajlakidbaaGreatTe03
set_option linter.unusedSimpArgs false
set_option linter.unusedVariables false
namespace Go.Proofs.YtcfkpajlakidbaaGreat
open _root_.Go.Proofs.Tryz _root_.Go.Proofs.YtcfkpajlakidbaaGreat.Tryz
open Go Go.Sy Go.Pl Go.Proofs
set_option maxRecDepth 100000
theorem jM {tl:List Cl}{c:Cl}(h:bP tl c=0):∀ x∈c.sides,(a6 tl x.cell).isSome=true:=by
 intro x hx;unfold bP at h;split at h
 ·cases h
 split at h
 ·cases h
 split at h
 ·cases h
 rename_i hno;have hno':(List.range c.sides.length).any (gy tl c)=false:=by simpa using hno
 obtain ⟨k,hk,rfl⟩:=zc3 hx;have h1:=zj7.1 hno' k (List.mem_range.2 hk);cases hf:(a6 tl c.sides[k].cell).isSome with
 | true=>rfl
 | false =>
  exfalso;apply h1;unfold gy;rw[gE hk];exact ld (by rw[hf]; simp)
theorem iY {tl:List Cl}:∀ {L:List Cl} {last:Int},eZ tl L last=none→(∀ x∈L,last<x.id)∧L.Pairwise fun a b=>a.id<b.id
 | [],_,_=>⟨by simp,List.Pairwise.nil⟩
 | x::r,last,h=>by
  unfold eZ at h;split at h
  ·cases h
  ·rename_i h1;split at h
   ·cases h
   ·obtain ⟨h2,h3⟩:=iY h;refine⟨fun y hy=>?_,zj5.2 ⟨h2,h3⟩⟩
    rcases ze6.1 hy with rfl | hy
    ·omega
    ·have:=h2 y hy; omega
theorem kf:∀ {L acc:List Cl},(acc++L).Pairwise (fun a b=>a.id<b.id)→L.foldl eU acc=acc++L
 | [],acc,_=>by simp
 | x::r,acc,h=>by
  have h1:acc.any (fun y=>y.id == x.id)=false:=by
   rw[zj7];intro y hy;have:=(List.pairwise_append.1 h).2.2 y hy x (by simp);simp;omega
  rw[zi3,jg h1,kf (by simpa using h)];simp
theorem a8 {l:List Cl}(h:(aa l).Pairwise fun a b=>a.id<b.id):ae l=aa l:=by
 unfold ae;rw[kf (by simpa using h)];rfl
def j3 (tl:List Cl):List Cl→Option (Int×Int)
 | []=>none
 | x::r=>if x.dim>1∧fu tl x≠0 then some (x.id,fu tl x) else j3 tl r
def aA (l:List Cl):Int×Int:=if (l.length:Int)>4000 then (0,2) else (eZ (ae l) (aa l) 0).getD ((j3 (aa l) (aa l)).getD (0,0))
def eT (L:List Cl)(i:Nat):Int:=if i=0 then 0 else (L.getD (i - 1) fX).id
theorem qR {L:List Cl}{i:Nat}(h:i<L.length):eT L (i+1)=L[i].id:=by
 unfold eT;rw[zf5 oM];simp[h]
theorem oa (E:World)(g:PH)(s:Own)(v:Value)(l:List Cl)(hv:au g v l)(hf:di l) :
  Ctr Tryz.prog E 71 #[.agg #[v]] g s (fun r g' s'=>r = .tuple #[vi (aA l).1,vi (aA l).2]∧s=s'∧Le g g'):=by
 obtain ⟨p,c,rfl⟩:=hv.form;have hsrt:=fo l;have hcl:=aw l;have hfc:=bZ hf;have hft:=kW hf;have hts:=fH l;have hcs:=fW l;refine za9 (args:=[.agg #[.slice p l.length c]]) func71 I ntmps71 (bE I) ?_;refine rZ (bW (bO I) fun b1=>?_);refine lA I (aT I (sQ (rZ (lU (fA cJ I bQ I) (lK (qL dI I (cO 0 I I)) (lU (eN aN I) (lU (gR I I) (tZ ?_))))))));refine iP I (fun hmany=>?_) (fun hmany=>?_)
 ·refine rZ (lA I (aT I (rE (tR (dR (s':=s) uR ?_)))));exact ST.ret2 (.inl I) results71 I I ⟨by unfold aA; rw[zf6 oM],I,zb7 g⟩
 ·refine kP (tN (rZ (lU (fA cJ I bQ I) (lK (qL dI I (cO 0 I I)) (lW (cL call96 I (gK E l.length g _ _ l (lR _) hv hf)) ?_)))));rintro v16 g1 _ ⟨rfl,hle1,hL⟩;obtain ⟨rs,hrs,hall⟩:=hL;have hrl:=hall.length;obtain ⟨q,d,rfl⟩:=hrs.form;refine aT I (rZ (lK (qV 0 bh az I I I) (lW (cL call61 I (fV E g1 _ _ l (hv.mono hle1) hf)) ?_)));rintro v18 g2 _ ⟨rfl,hle2,hO⟩;have hrs2:=hrs.mono hle2;have hall2:=hall.mono fun _ _=>ao.mono hle2;obtain ⟨q2,d2,rfl⟩:=hO.form;refine aT I (sQ (rZ (aT I (bK ?_))));have hLc:au g2 (.slice q rs.length d) (aa l):=⟨rs,hrs2,hall2⟩;have hchk:aA l=(eZ (ae l) (aa l) 0).getD ((j3 (aa l) (aa l)).getD (0,0)):=by unfold aA; rw[zf5 oM]
  refine oP (ι:=Nat) (fun i=>[(1,pp b1 0),(4,.slice q rs.length d),(5,.slice q2 (ae l).length d2),(6,vi i)]) (fun _=>g2) (fun _=>pt b1 (.cells #[.slice p l.length c] 30 (0,0))::s)
   (fun i=>i≤rs.length∧eZ (ae l) (aa l) 0=eZ (ae l) ((aa l).drop i) (eT (aa l) i)∧(0<i→1≤eT (aa l) i)) (fun i=>rs.length - i) 0
   sB rfl rfl ⟨zf2 _,rfl,fun h=>absurd h oM⟩ ?_
  rintro i ⟨hi,hc1,hl1⟩;refine sQ (sW I (lM I (lU (eN aN I) (yL I (tZ ?_)))));refine iP I (fun hlt=>?_) (fun hlt=>?_)
  ·have hil:i<(aa l).length:=oM;have hir:i<rs.length:=oM;have hb1:=hrs2.based oM;have hcr:=hall2.get (gE hil) (gE hir);have hgx:rs[((i:Nat):Int).toNat]?=some rs[i]:=gE hir;have hdrop:(aa l).drop i=(aa l)[i]::(aa l).drop (i+1):=zg2 hil;have hxl:=hfc.2 _ (gM hil);have hls:=qR hil;rw[hdrop] at hc1;have hprev:0<i→∃ (r:Rc),rs[((i:Int) - 1).toNat]?=some r∧r.id=eT (aa l) i∧eT (aa l) i≤(aa l)[i].id:=fun h=>by
    have h2:i - 1<rs.length:=oM;have h3:i - 1<(aa l).length:=oM;refine⟨rs[i - 1],by rw[show ((i:Int) - 1).toNat=i - 1 by omega]; exact gE h2,?_,?_⟩
    ·have:=(hall2.get (gE h3) (gE h2)).1;rw[this];unfold eT;rw[zf5 oM];simp[h3]
    ·have:=zc5.1 hsrt (i - 1) i h3 hil oM;unfold eT;rw[zf5 oM];simpa [h3] using this
   generalize (aa l)[i]=x at *;generalize rs[i]=rx at *;obtain ⟨hx1,hx2,hx3⟩:=hcr;have hcr:ao g2 x rx:=⟨hx1,hx2,hx3⟩;have hbad:x.id≤eT (aa l) i→aA l=(x.id,20):=fun h=>by rw[hchk,hc1,eZ,zf6 h]; rfl
   by_cases hx0:x.id<1
   ·have hle0:x.id≤eT (aa l) i:=by
     by_cases h0:0<i
     ·have:=hl1 h0; omega
     ·have:i=0:=oM;subst this;show x.id≤0;omega
    refine kP (tN (sQ (bK (sQ (sQ ?_)))));refine dW [] [(0,2),(1,2),(2,2),(3,2),(4,1),(5,2),(6,2),(7,2),(8,2),(9,2),(10,2),(11,2),(12,2),(13,2),(14,1),(15,2),(16,2),(17,2),(18,2),(19,2),(20,1),(21,2),(22,2),(23,2)] zd8 kR ?_;refine yM I (yM I (pU I (iA aN aC I I hb1 oM sL) (pU I (fC am I zT3 I hb1) (pK I (aZ (e:=encCell) (o:=0) (u:=vi x.id) iT3 I hrs2.rd hgx (by rw[← hx1]; rfl)) ?_))));refine pU I (SU.eq (v':=vb true) (lS I I) (zd7 vb (zf4 hx0))) (yM I (yG I (yG I (yG I (yH I (yH I (yH I (yH I (SP.off1 I (zb2 I I I dC) dC (yH I (yH I (yH I (yH I (yH I (SP.off1 I (zb2 I I I dC) dC (yH I (yG I (pU I (wT I I) (pN (tN (cT I (sW I (lM I (lU (iA aN aC I I hb1 oM sL) (lU (fC am I zT3 I hb1) (lK (aZ (e:=encCell) (o:=0) (u:=vi x.id) iT3 I hrs2.rd hgx (by rw[← hx1]; rfl)) ?_))))))))))))))))))))))))));refine lA I (aT I (rE (tR (bR (tR (tR (bR (tR (dR (s':=s) uR ?_)))))))));exact ST.ret2 (.inl I) results71 I I ⟨by rw[hbad hle0],I,hle1.trans hle2⟩
   ·have hgo:eT (aa l) i<x.id→eZ (ae l) (aa l) 0=if bP (ae l) x≠0 then some (x.id,bP (ae l) x) else eZ (ae l) ((aa l).drop (i+1)) (eT (aa l) (i+1)):=fun h=>by
     rw[hc1,eZ,zf5 oM,hls]
    by_cases hi0:(i:Int)>0
    ·obtain ⟨rp,hrp,hrpi,hrple⟩:=hprev oM;refine kP (tN (sQ (bK (sQ (sQ ?_)))));refine dW [] [(0,2),(1,2),(2,2),(3,2),(4,1),(5,2),(6,2),(7,2),(8,2),(9,2),(10,2),(11,2),(12,2),(13,2),(14,1),(15,2),(16,2),(17,2),(18,2),(19,2),(20,1),(21,2),(22,2),(23,2)] zd8 kR ?_;refine yM I (yM I (pU I (iA aN aC I I hb1 oM sL) (pU I (fC am I zT3 I hb1) (pK I (aZ (e:=encCell) (o:=0) (u:=vi x.id) iT3 I hrs2.rd hgx (by rw[← hx1]; rfl)) ?_))));refine pU I (SU.eq (v':=vb false) (lS I I) (zd7 vb (zf3 hx0))) (yM I (yJ I (zb1 I (gT I I I dC) (SU.eq (v':=vb true) (gR I I) (zd7 vb (zf4 hi0))) dC (yJ I (yJ I (yJ I (zb1 I (gT I I I dC) (iA aN aC I I hb1 oM sL) dC (zb1 I (gT I I I dC) (fC am I zT3 I hb1) dC (SP.gq I (gT I I I dC) (aZ (e:=encCell) (o:=0) (u:=vi x.id) iT3 I hrs2.rd hgx (by rw[← hx1]; rfl)) dC ?_)))))))));refine yJ I (yJ I (zb1 I (gT I I I dC) (sU I I oM) dC (zb1 I (gT I I I dC) (iA aN aC I I hb1 oM sL) dC (zb1 I (gT I I I dC) (fC am I zT3 I hb1) dC (SP.gq I (gT I I I dC) (aZ (e:=encCell) (o:=0) (u:=vi (eT (aa l) i)) iT3 I hrs2.rd hrp (by rw[← hrpi]; rfl)) dC ?_)))));refine zb1 I (gT I I I dC) (eQ I I) dC (zb1 I (gT I I I dC) (wT I I) dC (pU I (wF I I) (pN (tN ?_))));refine iP I (fun heq=>?_) (fun heq=>?_)
     ·refine sW I (lM I (lU (iA aN aC I I hb1 oM sL) (lU (fC am I zT3 I hb1) (lK (aZ (e:=encCell) (o:=0) (u:=vi x.id) iT3 I hrs2.rd hgx (by rw[← hx1]; rfl)) ?_))));refine lA I (aT I (rE (tR (bR (tR (tR (bR (tR (dR (s':=s) uR ?_)))))))));exact ST.ret2 (.inl I) results71 I I ⟨by rw[hbad oM],I,hle1.trans hle2⟩
     ·refine kP (tN (sW I (lM I (lM I (lU (iA aN aC I I hb1 oM sL) (lK (eA (e:=encCell) eL aC I hrs2.rd hgx) (lW (cL call106 I (mU E g2 _ _ (ae l) x rx hO hft.1 hts hcr hxl)) ?_)))))));rintro _ _ _ ⟨rfl,rfl,rfl⟩;refine aT I (sW I (lU (nQ I I) (tZ ?_)));have hg:=hgo oM;refine iP I (fun he=>?_) (fun he=>?_)
      ·rw[zf6 he] at hg;refine sW I (lM I (lU (iA aN aC I I hb1 oM sL) (lU (fC am I zT3 I hb1) (lK (aZ (e:=encCell) (o:=0) (u:=vi x.id) iT3 I hrs2.rd hgx (by rw[← hx1]; rfl)) ?_))));refine lM I (lA I (aT I (rE (bR (tR (tR (bR (tR (dR (s':=s) uR ?_)))))))));exact ST.ret2 (.inl I) results71 I I ⟨by rw[hchk,hg]; rfl,rfl,hle1.trans hle2⟩
      ·rw[zf5 he] at hg;refine kP (bN (tN (rG (lM I (yD I (lA I (nL ?_)))))));exact gA (i+1) sB I I ⟨oM,hg,fun _=>by rw[hls]; omega⟩ oM
    ·have hi00:i=0:=oM;have hg:=hgo (by rw[hi00]; show (0:Int)<x.id; omega);refine kP (tN (sQ (bK (sQ (sQ ?_)))));refine dW [] [(0,2),(1,2),(2,2),(3,2),(4,1),(5,2),(6,2),(7,2),(8,2),(9,2),(10,2),(11,2),(12,2),(13,2),(14,1),(15,2),(16,2),(17,2),(18,2),(19,2),(20,1),(21,2),(22,2),(23,2)] zd8 kR ?_;refine yM I (yM I (pU I (iA aN aC I I hb1 oM sL) (pU I (fC am I zT3 I hb1) (pK I (aZ (e:=encCell) (o:=0) (u:=vi x.id) iT3 I hrs2.rd hgx (by rw[← hx1]; rfl)) ?_))));refine pU I (SU.eq (v':=vb false) (lS I I) (zd7 vb (zf3 hx0))) (yM I (yJ I (zb1 I (gT I I I dC) (SU.eq (v':=vb false) (gR I I) (zd7 vb (zf3 hi0))) dC (yJ I (yG I (yG I (yG I (yG I (yI I (yG I (yG I (yG I (yG I (yG I (yI I (yG I (zb1 I (gT I I I dC) (wF I I) dC (pU I (wF I I) (pN (tN (cF I (kP (tN (sW I (lM I (lM I (lU (iA aN aC I I hb1 oM sL) ?_)))))))))))))))))))))))))));refine lK (eA (e:=encCell) eL aC I hrs2.rd hgx) (lW (cL call106 I (mU E g2 _ _ (ae l) x rx hO hft.1 hts hcr hxl)) ?_);rintro _ _ _ ⟨rfl,rfl,rfl⟩;refine aT I (sW I (lU (nQ I I) (tZ ?_)));refine iP I (fun he=>?_) (fun he=>?_)
     ·rw[zf6 he] at hg;refine sW I (lM I (lU (iA aN aC I I hb1 oM sL) (lU (fC am I zT3 I hb1) (lK (aZ (e:=encCell) (o:=0) (u:=vi x.id) iT3 I hrs2.rd hgx (by rw[← hx1]; rfl)) ?_))));refine lM I (lA I (aT I (rE (bR (tR (tR (bR (tR (dR (s':=s) uR ?_)))))))));exact ST.ret2 (.inl I) results71 I I ⟨by rw[hchk,hg]; rfl,rfl,hle1.trans hle2⟩
     ·rw[zf5 he] at hg;refine kP (bN (tN (rG (lM I (yD I (lA I (nL ?_)))))));exact gA (i+1) sB I I ⟨oM,hg,fun _=>by rw[hls]; omega⟩ oM
  ·have hid:(aa l).drop i=[]:=List.drop_eq_nil_of_le oM;rw[hid] at hc1;have hnone:eZ (ae l) (aa l) 0=none:=hc1;have hst:=(iY hnone).2;have htab:=a8 hst;have hform:=jp hnone;rw[hnone] at hchk;have hchk2:aA l=(j3 (aa l) (aa l)).getD (0,0):=hchk;refine xI (tX (tX (bX (tN (sQ (rZ (aT I (bK ?_))))))));refine oP (ι:=Nat) (fun i=>[(1,pp b1 0),(4,.slice q rs.length d),(8,vi i)]) (fun _=>g2) (fun _=>pt b1 (.cells #[.slice p l.length c] 30 (0,0))::s)
    (fun i=>i≤rs.length∧j3 (aa l) (aa l)=j3 (aa l) ((aa l).drop i)) (fun i=>rs.length - i) 0
    sB rfl rfl ⟨zf2 _,rfl⟩ ?_
   rintro j ⟨hj,hc2⟩;refine sQ (sW I (lM I (lU (eN aN I) (yL I (tZ ?_)))));refine iP I (fun hlt2=>?_) (fun hlt2=>?_)
   ·have hjl:j<(aa l).length:=oM;have hjr:j<rs.length:=oM;have hb1:=hrs2.based oM;have hcr:=hall2.get (gE hjl) (gE hjr);have hgx:rs[((j:Nat):Int).toNat]?=some rs[j]:=gE hjr;have hdrop:(aa l).drop j=(aa l)[j]::(aa l).drop (j+1):=zg2 hjl;have hxm:(aa l)[j]∈aa l:=gM hjl;rw[hdrop] at hc2;generalize (aa l)[j]=x at *;generalize rs[j]=rx at *;obtain ⟨hx1,hx2,hx3⟩:=hcr;have hcr:ao g2 x rx:=⟨hx1,hx2,hx3⟩;have haok:=uy hform hxm;have hfound:=jM (hform x hxm);rw[htab] at haok hfound;refine kP (tN (sQ (bK (sQ (sW I (lM I (lU (iA aN aC I I hb1 oM sL) (lU (fC am I zT3 I hb1) (lK (aZ (e:=encCell) (o:=1) (u:=vi x.dim) iT3 I hrs2.rd hgx (by rw[← hx2]; rfl)) ?_)))))))));refine yL I (tZ ?_);refine iP I (fun hdm=>?_) (fun hdm=>?_)
    ·refine xI (tX (bX (tN (rG (lM I (yD I (lA I (nL ?_))))))));exact gA (j+1) sB I I ⟨oM,by rw[hc2,j3,zf5 (fun h=>by omega)]⟩ oM
    ·refine kP (tN (sW I (lM I (lM I (lU (iA aN aC I I hb1 oM sL) (lK (eA (e:=encCell) eL aC I hrs2.rd hgx) (lW (cL call107 I (qC E g2 _ _ (aa l) x rx hLc hfc.1 hcs hcr haok.1 hfound (fun y hy=>(haok.2.2 y hy).1))) ?_)))))));rintro _ _ _ ⟨rfl,rfl,rfl⟩;refine aT I (sW I (lU (nQ I I) (tZ ?_)));refine iP I (fun he=>?_) (fun he=>?_)
     ·refine sW I (lM I (lU (iA aN aC I I hb1 oM sL) (lU (fC am I zT3 I hb1) (lK (aZ (e:=encCell) (o:=0) (u:=vi x.id) iT3 I hrs2.rd hgx (by rw[← hx1]; rfl)) ?_))));refine lM I (lA I (aT I (rE (bR (tR (tR (bR (tR (dR (s':=s) uR ?_)))))))));exact ST.ret2 (.inl I) results71 I I ⟨by rw[hchk2,hc2,j3,zf6 ⟨oM,he⟩]; rfl,rfl,hle1.trans hle2⟩
     ·refine kP (bN (tN (rG (lM I (yD I (lA I (nL ?_)))))));exact gA (j+1) sB I I ⟨oM,by rw[hc2,j3,zf5 (fun h=>he h.2)]⟩ oM
   ·have hjd:(aa l).drop j=[]:=List.drop_eq_nil_of_le oM;rw[hjd] at hc2;refine xI (tX (tX (bX (tN (rZ (lA I (aT I (rE (dR (s':=s) uR ?_)))))))));exact ST.ret2 (.inl I) results71 I I ⟨by rw[hchk2,hc2]; rfl,rfl,hle1.trans hle2⟩
theorem fU (E:World)(g:PH)(s:Own)(v:Value)(l:List Cl)(hv:au g v l)(hf:di l) :
  Ctr Tryz.prog E 40 #[.agg #[v]] g s (fun r g' s'=>r=vb (decide ((aA l).2=0))∧s=s'∧Le g g'):=by
 refine za9 (args:=[.agg #[v]]) func40 I ntmps40 (bE I) ?_;refine rZ (bW (bO I) fun b1=>?_);refine aT I (rZ (lK (qV 0 bh az I I I) (lW (cL call71 I (oa E g _ _ l hv hf)) ?_)));rintro _ g1 _ ⟨rfl,rfl,hle⟩;refine lM I (yX I (yX I (lA I (aT I (sW I (yE I (aT I (rE (dR (s':=s) uR ?_)))))))));exact za6 (.inl I) results40 I ⟨I,I,hle⟩
theorem pP {a b:List Int}(h:a.length≠b.length):decide (ah a b<0)=decide ((a.length:Int)<b.length):=by
 unfold ah
 rcases ba a.length b.length with ⟨h1,e⟩ | ⟨h1,e⟩ | ⟨h1,e⟩
 ·rw[e]; simp; omega
 ·omega
 ·rw[e]; simp; omega
theorem eC {a b:List Int}(h:a.length=b.length):ah a b=eP a b:=by
 unfold ah
 rcases ba a.length b.length with ⟨h1,e⟩ | ⟨h1,e⟩ | ⟨h1,e⟩
 ·omega
 ·rw[e]; simp
 ·omega
theorem pR {x y:Int}{a b:List Int}(h:x≠y):decide (eP (x::a) (y::b)<0)=decide (x<y):=by
 rw[decide_eq_decide];simp only[eP]
 rcases ba x y with ⟨h1,e⟩ | ⟨h1,e⟩ | ⟨h1,e⟩
 ·rw[e]; simp; omega
 ·omega
 ·rw[e]; simp; omega
theorem pS {x y:Int}{a b:List Int}(h:x=y):eP (x::a) (y::b)=eP a b:=by
 simp only[eP]
 rcases ba x y with ⟨h1,e⟩ | ⟨h1,e⟩ | ⟨h1,e⟩
 ·omega
 ·rw[e]; simp
 ·omega
theorem lJ (E:World)(g:PH)(s:Own)(v u:Value)(a b:List Int)(hv:bU g v a)(hu:bU g u b)(hl:a.length<1099511627776) :
  Ctr Tryz.prog E 78 #[v,u] g s (fun r g' s'=>r=vb (decide (ah a b<0))∧g=g'∧s=s'):=by
 obtain ⟨p,c,rfl⟩:=za2 hv;obtain ⟨q,d,rfl⟩:=za2 hu;refine za9 (args:=[.slice p a.length c,.slice q b.length d]) func78 I ntmps78 (bE I) ?_;refine rZ (aT I (sQ (sW I (lU (eN ak I) (lM I (lU (eN ak I) (lU (nQ I I) (tZ ?_))))))));refine iP I (fun hne=>?_) (fun hne=>?_)
 ·refine sW I (lU (eN ak I) (lM I (lU (eN ak I) (yL I (aT I (rE (tR ?_)))))));exact za6 (.inl I) results78 I ⟨by rw[pP oM],I,I⟩
 ·have hlen:a.length=b.length:=oM;have hcc:=eC hlen;refine kP (tN (sQ (rZ (aT I (bK ?_)))));refine oP (ι:=Nat) (fun k=>[(0,.slice p a.length c),(1,.slice q b.length d),(5,vi k)]) (fun _=>g) (fun _=>s) (fun k=>k≤a.length∧eP a b=eP (a.drop k) (b.drop k)) (fun k=>a.length - k) 0
   sB rfl rfl ⟨zf2 _,by simp⟩ ?_
  rintro k ⟨hk,heq⟩;refine sQ (sW I (lM I (lU (eN ak I) (yL I (tZ ?_)))));refine iP I (fun hlt=>?_) (fun hlt=>?_)
  ·have hka:k<a.length:=oM;have hkb:k<b.length:=oM;have hb1:=za4 hv oM;have hb2:=za4 hu oM;rw[zg2 hka,zg2 hkb] at heq;refine kP (tN (sQ (bK (sQ ?_))));refine dW [] [(0,2),(1,2),(2,2),(3,1),(4,2),(5,2),(6,2),(7,1),(8,2)] zd8 kR ?_;refine yM I (yM I (pU I (iA ak zT3 I I (by assumption) oM (by (simp[slen]; omega))) ?_));refine pQ I (eB iT3 I (za5 hv) (gE hka) I) dC ?_;refine yM I (yM I (pU I (iA ak zT3 I I (by assumption) oM (by (simp[slen]; omega))) ?_));refine pQ I (eB iT3 I (za5 hu) (gE hkb) I) dC ?_;refine pU I (nQ I I) (pN (tN ?_));refine iP I (fun hd=>?_) (fun hd=>?_)
   ·refine sQ ?_;refine dW [] [(0,2),(1,2),(2,2),(3,1),(4,2),(5,2),(6,2),(7,1),(8,2),(9,2)] zd8 kR ?_;refine yM I (yM I (pU I (iA ak zT3 I I (by assumption) oM (by (simp[slen]; omega))) ?_));refine pQ I (eB iT3 I (za5 hv) (gE hka) I) dC ?_;refine yM I (yM I (pU I (iA ak zT3 I I (by assumption) oM (by (simp[slen]; omega))) ?_));refine pQ I (eB iT3 I (za5 hu) (gE hkb) I) dC ?_;refine pU I (lS I I) (pU I (aS I) (pN (tN (rE (bR (tR (tR (bR (tR ?_)))))))));exact za6 (.inl I) results78 I ⟨by rw[hcc,heq,pR hd],I,I⟩
   ·refine kP (bN (tN (rG (lM I (yD I (lA I (nL ?_)))))));exact gA (k+1) sB I I ⟨oM,by rw[heq,pS (zg5 hd)]⟩ oM
  ·rw[List.drop_eq_nil_of_le oM,List.drop_eq_nil_of_le oM] at heq;refine xI (tX (tX (bX (tN (rZ (aT I (rE ?_)))))));exact za6 (.inl I) results78 I ⟨by rw[hcc,heq]; rfl,rfl,rfl⟩
theorem mH (E:World)(g:PH)(s:Own)(v u:Value)(ls:List (List Int))(t:List Int)(hv:aI g v ls)(hu:bU g u t)(hl:ls.length<1099511627776)(hll:∀ x∈ls,x.length<1099511627776)(htl:t.length<1099511627776)(hs:nX ls) :
  Ctr Tryz.prog E 48 #[v,u] g s (fun r g' s'=>r = .tuple #[vi (lbL ls t),vb (ls.contains t)]∧g=g'∧s=s'):=by
 obtain ⟨rs,hrs,hall⟩:=hv;have hlen:=hall.length;have hmono:=rI hs t;obtain ⟨p,c,rfl⟩:=za2 hrs;refine za9 (args:=[.slice p rs.length c,u]) func48 I ntmps48 (bE I) ?_;refine rZ (lA I (aT I (rZ (aT I (sW I (lU (eN bL I) (aT I (sQ (bK ?_)))))))));refine oP (ι:=Nat×Nat) (fun q=>[(0,.slice p rs.length c),(1,u),(6,vi q.1),(7,vi q.2)]) (fun _=>g) (fun _=>s)
  (fun q=>q.1≤q.2∧q.2≤ls.length∧(∀ k (h:k<ls.length),k<q.1→ah ls[k] t<0)∧∀ k (h:k<ls.length),q.2≤k→¬ ah ls[k] t<0) (fun q=>q.2 - q.1) (0,ls.length)
  ⟨rfl,rfl,rfl,bk oM,trivial⟩ rfl rfl ⟨zf2 _,lR _,fun k _ h=>absurd h oM,fun k h1 h2=>absurd h1 (by dsimp only at h2; omega)⟩ ?_
 rintro ⟨i,j⟩ ⟨hij,hj,hlo,hhi⟩;dsimp only at hij hj hlo hhi ⊢;refine sQ (sW I (lM I (yL I (tZ ?_))));refine iP I (fun hlt=>?_) (fun hlt=>?_)
 ·have hb1:=hrs.based oM;have hml:(i+j) / 2<ls.length:=oM;have hmr:(i+j) / 2<rs.length:=oM;have hmx:rs[((((i+j) / 2:Nat):Int)).toNat]?=some rs[(i+j) / 2]:=gE hmr;have hR:=hall.get (gE hml) (gE hmr);have hxl:=hll _ (gM hml);refine kP (tN (bK (sW I (lM I (yD I (lU (SU.eq (v':=vi (((i+j) / 2:Nat):Int)) (SU.quo I I dC) (zd7 vi (by rw[← Int.natCast_add]; exact jo _ oM))) ?_))))));refine aT I (sW I (lM I (lU (iA bL ci I I hb1 oM sL) (lK (eB dF I hrs.rd hmx I) (lM I (lW (cL call78 I (lJ E g _ _ _ ls[(i+j) / 2] t hR hu hxl)) ?_))))));rintro _ _ _ ⟨rfl,rfl,rfl⟩;refine tZ ?_;refine iP I (fun hc=>?_) (fun hc=>?_)
  ·refine rG (lM I (yD I (lA I (nL (bN ?_)))));refine gA ((i+j) / 2+1,j) sB I I ⟨lN,hj,fun k hk h=>?_,hhi⟩ lN;dsimp only at h
   rcases Nat.eq_or_lt_of_le (show k≤(i+j) / 2 by omega) with rfl | h'
   ·exact hc
   ·exact hmono k ((i+j) / 2) hk hml h' hc
  ·refine rG (lM I (lA I (nL (bN ?_))));refine gA (i,(i+j) / 2) sB I I ⟨lN,lN,hlo,fun k hk h=>?_⟩ lN;dsimp only at h
   rcases Nat.eq_or_lt_of_le (show (i+j) / 2≤k by omega) with h' | h'
   ·subst h'; exact hc
   ·exact fun hx=>hc (hmono ((i+j) / 2) k hml hk h' hx)
 ·have hie:i=j:=oM;subst hie;have hlb:lbL ls t=i:=ym hj (fun k h h'=>by simpa using hlo k h h') (fun k h h'=>by simpa using hhi k h h');by_cases hin:(i:Int)<(rs.length:Int)
  ·have hil:i<ls.length:=oM;have hir:i<rs.length:=oM;have hb1:=hrs.based oM;have hmx:rs[((i:Nat):Int).toNat]?=some rs[i]:=gE hir;have hR:=hall.get (gE hil) (gE hir);have hfound:(!decide (ah t ls[i]<0))=ls.contains t:=by
    have h1:=hhi i hil (lR _);by_cases h2:ah t ls[i]<0
    ·rw[zf4 h2];symm;rw[Bool.not_true,← zj1];intro hm;have hm':t∈ls:=by simpa using hm
     obtain ⟨k,hk,rfl⟩:=zc3 hm'
     rcases Nat.lt_trichotomy k i with h3 | h3 | h3
     ·have:=hlo k hk h3; rw[bD] at this; omega
     ·subst h3; rw[bD] at h2; omega
     ·exact zc5.1 hs i k hil hk h3 h2
    ·rw[zf3 h2];have h3:t=ls[i]:=by
      rcases cD t ls[i] with h | h | h
      ·exact absurd h h2
      ·exact h
      ·exact absurd h h1
     symm;rw[Bool.not_false];have:t∈ls:=by rw[h3]; exact gM hil
     simpa using this
   refine xI (tX (tX (bX (tN (sW I (lM I (lM I (lU (eN bL I) (lU (SU.eq (v':=vb true) (lS I I) (zd7 vb (zf4 hin))) (lM I (yC I (yC I (yC I (lY I I I (iA bL ci I I hb1 oM sL) (SL.gq (gT I I I dC) (eB dF I hrs.rd hmx I) dC (SL.go (gT I I I dC) (cL call78 I (lJ E g _ _ _ t ls[i] hu hR htl)) dC ?_))))))))))))))));rintro _ _ _ ⟨rfl,rfl,rfl⟩;refine lY I I I (SU.not I) (yP I (lA I (aT I (rE ?_))));exact ST.ret2 (.inl I) results48 I I ⟨by rw[hlb,← hfound],I,I⟩
  ·have hnf:ls.contains t=false:=by
    rw[← zj1];intro hm;have hm':t∈ls:=by simpa using hm
    obtain ⟨k,hk,rfl⟩:=zc3 hm';have:=hlo k hk oM;rw[bD] at this;omega
   refine xI (tX (tX (bX (tN (sW I (lM I (lM I (lU (eN bL I) (lU (SU.eq (v':=vb false) (lS I I) (zd7 vb (zf3 hin))) (lM I (yA I (yA I (yA I (yA I (yA I (yA I (yA I (yF I (lA I (aT I (rE ?_)))))))))))))))))))));exact ST.ret2 (.inl I) results48 I I ⟨by rw[hlb,hnf],I,I⟩
abbrev cG (l:List Int):Prop:=l.Pairwise (· < ·)
theorem fM:∀ {l m:List Int},cG l→cG m→(∀ x,x∈l↔x∈m)→l=m
 | [],[],_,_,_=>rfl
 | [],y::m,_,_,h=>by have:=(h y).2 (by simp); simp at this
 | x::l,[],_,_,h=>by have:=(h x).1 (by simp); simp at this
 | x::l,y::m,hl,hm,h=>by
  obtain ⟨h1,h2⟩:=zj5.1 hl;obtain ⟨h3,h4⟩:=zj5.1 hm;have hxy:x=y:=by
   rcases ze6.1 ((h x).1 (by simp)) with e | hx
   ·exact e
   ·rcases ze6.1 ((h y).2 (by simp)) with e | hy
    ·exact e.symm
    ·have:=h3 x hx; have:=h1 y hy; omega
  subst hxy;rw[fM h2 h4 fun z=>?_];constructor
  ·intro hz
   rcases ze6.1 ((h z).1 (by simp[hz])) with e | hz'
   ·have:=h1 z hz; omega
   ·exact hz'
  ·intro hz
   rcases ze6.1 ((h z).2 (by simp[hz])) with e | hz'
   ·have:=h3 z hz; omega
   ·exact hz'
theorem fK:∀ {x:Int} {l:List Int},(x::l).Pairwise (· ≤ ·)→cG (aW (fun a b:Int=>decide (a=b)) x l)∧(∀ y∈aW (fun a b:Int=>decide (a=b)) x l,x<y)∧∀ y,y∈l→y=x∨y∈aW (fun a b:Int=>decide (a=b)) x l
 | x,[],_=>⟨List.Pairwise.nil,by simp[aW],by simp⟩
 | x,y::r,h=>by
  obtain ⟨h1,h2⟩:=zj5.1 h;obtain ⟨i1,i2,i3⟩:=fK h2;have hxy:=h1 y (by simp);unfold aW;by_cases e:y=x
  ·subst e;simp only[decide_true,if_true];refine⟨i1,i2,fun z hz=>?_⟩
   rcases ze6.1 hz with rfl | hz
   ·exact .inl I
   ·exact i3 z hz
  ·simp only[e,decide_false];refine⟨zj5.2 ⟨i2,i1⟩,fun z hz=>?_,fun z hz=>?_⟩
   ·rcases ze6.1 hz with rfl | hz
    ·omega
    ·have:=i2 z hz; omega
   ·rcases ze6.1 hz with rfl | hz
    ·exact .inr (by simp)
    ·rcases i3 z hz with rfl | h
     ·exact .inr (by simp)
     ·exact .inr (by simp[h])
theorem gH (l:List Int):(dj l).Pairwise (· ≤ ·):=by
 have:=List.pairwise_mergeSort (le:=fun x y:Int=>decide (x≤y)) (fun a b c h1 h2=>by simp at *; omega) (fun a b=>by simp; omega) l;exact this.imp fun h=>by simpa using h
theorem iH (l:List Int):cG (bG l):=by
 have hs:=gH l;unfold bG;cases h:dj l with
 | nil=>exact List.Pairwise.nil
 | cons x r =>
  rw[h] at hs;obtain ⟨h1,h2,_⟩:=fK hs;exact zj5.2 ⟨h2,h1⟩
theorem kq (l:List Int)(y:Int):y∈bG l↔y∈l:=by
 have hs:=gH l;have hp:=jI l;rw[← hp.mem_iff];unfold bG;refine⟨fun h=>(nk _ _).subset h,fun h=>?_⟩;cases hc:dj l with
 | nil=>rw[hc] at h; simp at h
 | cons x r =>
  rw[hc] at hs h
  rcases ze6.1 h with rfl | h
  ·simp[fh]
  ·rcases (fK hs).2.2 y h with rfl | h
   ·simp[fh]
   ·simp[fh,h]
theorem y7 {l out:List Int}(hs:cG out)(hm:∀ x,x∈out↔x∈l):out=bG l:=fM hs (iH l) fun x=>by rw[hm,kq]
theorem vC {a b:List Int}(ha:cG a)(h:∀ x∈a,x∈b):a.length≤b.length:=ny (ha.imp fun h=>by omega) h
def okS (l:List Int):Bool:=!(l.any fun x=>decide (x<0))&&decide ((bG l).length≤9)
theorem zm {l:List Int}(h:okS l=false):ge (bG l)=true:=by
 unfold okS at h;rw[Bool.and_eq_false_iff] at h;cases hc:bG l with
 | nil=>rfl
 | cons a r =>
  unfold ge
  rcases h with h | h
  ·simp only[Bool.not_eq_false',zj2,zi8] at h;obtain ⟨x,hx,hx0⟩:=h;have h1:=(kq l x).2 hx;rw[hc] at h1;have hs:=iH l;rw[hc] at hs;have:a≤x:=by
    rcases ze6.1 h1 with rfl | h2
    ·omega
    ·have:=(zj5.1 hs).1 x h2; omega
   simp;omega
  ·rw[hc] at h;simp at h ⊢;omega
theorem xw {l:List Int}(h:okS l=true):(bG l).length≤9∧(ge (bG l)=true→bG l=[]):=by
 unfold okS at h;simp only[zi6,Bool.not_eq_true',zi8] at h;refine⟨h.2,fun hb=>?_⟩;cases hc:bG l with
 | nil=>rfl
 | cons a r =>
  rw[hc] at hb;unfold ge at hb;rw[hc] at h;simp at hb;have ha:a∈l:=(kq l a).1 (by rw[hc]; simp);have h3:=zj7.1 h.1 a ha;simp at h3;have h4:=h.2;simp at h4;omega
theorem tA {out:List Int}{x:Int}{k:Nat}(hs:cG out)(h1:∀ y∈out.take k,y<x)(h2:∀ y∈out.drop k,x<y):cG (out.take k++x::out.drop k):=by
 have hs':cG (out.take k++out.drop k):=by rw[zi5]; exact hs
 have h3:=List.pairwise_append.1 hs';refine List.pairwise_append.2 ⟨h3.1,zj5.2 ⟨h2,h3.2.1⟩,fun y hy z hz=>?_⟩
 rcases ze6.1 hz with rfl | hz
 ·exact h1 y hy
 ·exact h3.2.2 y hy z hz
theorem uQ {α:Type}{out:List α}{x y:α}{k:Nat}:y∈out.take k++x::out.drop k↔y=x∨y∈out:=by
 rw[ze8,ze6];constructor
 ·rintro (h | h | h)
  ·exact .inr (List.mem_of_mem_take h)
  ·exact .inl h
  ·exact .inr (List.mem_of_mem_drop h)
 ·rintro (h | h)
  ·exact .inr (.inl h)
  ·rw[← zi5 k out] at h
   rcases ze8.1 h with h | h
   ·exact .inl h
   ·exact .inr (.inr h)
theorem lm {out:List Int}{c:Int}{k:Nat}(hs:cG out)(hk:k<out.length)(h:c≤out[k]):∀ y∈out.drop k,c≤y:=by
 rw[zg2 hk];intro y hy;have h1:cG (out.drop k):=List.Pairwise.sublist (List.drop_sublist k out) hs;rw[zg2 hk] at h1
 rcases ze6.1 hy with rfl | hy
 ·exact h
 ·have:=(zj5.1 h1).1 y hy;omega
theorem xe (E:World)(g:PH)(s:Own)(v:Value)(l:List Int)(hv:bU g v l)(hl:l.length<17592186044416) :
  Ctr Tryz.prog E 47 #[v] g s (fun r g' s'=>s=s'∧Le g g'∧((okS l=true∧∃ u,r = .tuple #[u,vb true]∧bU g' u (bG l))∨(okS l=false∧r = .tuple #[.slice none 0 0,vb false]))):=by
 obtain ⟨p,c,rfl⟩:=za2 hv;refine za9 (args:=[.slice p l.length c]) func47 I ntmps47 (bE I) ?_;refine rZ (lA I (aT I (rZ (aT I (sQ (rZ (aT I (bK ?_))))))));refine oP (ι:=PH×Value×List Int×Nat) (fun i=>[(0,.slice p l.length c),(4,i.2.1),(5,vi i.2.2.2)]) (fun i=>i.1) (fun _=>s)
  (fun i=>Le g i.1∧bU i.1 i.2.1 i.2.2.1∧i.2.2.2≤l.length∧cG i.2.2.1∧(∀ x,x∈i.2.2.1↔x∈l.take i.2.2.2)∧((l.take i.2.2.2).any (fun x=>decide (x<0))=false∧i.2.2.1.length≤9)) (fun i=>l.length - i.2.2.2)
  (g,.slice none 0 0,[],0) sB rfl rfl ⟨zb7 g,zb8 g _,zf2 _,List.Pairwise.nil,by simp,by simp,by simp⟩ ?_
 rintro ⟨g1,ov,out,i⟩ ⟨hle,hov,hi,hstr,hmem,hneg,h9⟩;dsimp only at hle hov hi hstr hmem hneg h9 ⊢;obtain ⟨q,d,rfl⟩:=za2 hov;have hqc:=(SlA.cap hov).2;refine sQ (sW I (lM I (lU (eN ak I) (yL I (tZ ?_)))));refine iP I (fun hlt=>?_) (fun hlt=>?_)
 ·have hil:i<l.length:=oM;have hb1:=za4 (hv.mono hle) oM;have hgi:l[((i:Nat):Int).toNat]?=some l[i]:=gE hil;have htk:l.take (i+1)=l.take i++[l[i]]:=tS hil;have hxm:l[i]∈l:=gM hil;generalize l[i]=x at *;refine kP (tN (sQ (bK (rZ (aT I ?_)))));refine SC.cut (ι:=Nat) (fun k=>[(0,.slice p l.length c),(4,.slice q out.length d),(5,vi i),(6,vi k)]) (fun _=>g1) (fun _=>s) (fun k=>k≤out.length∧(∀ y∈out.take k,y<x)∧∀ y∈out.drop k,x≤y) ?_ ?_
  ·refine bK ?_;refine oP (ι:=Nat) (fun k=>[(0,.slice p l.length c),(4,.slice q out.length d),(5,vi i),(6,vi k)]) (fun _=>g1) (fun _=>s) (fun k=>k≤out.length∧∀ y∈out.take k,y<x) (fun k=>out.length - k) 0
    sB rfl rfl ⟨zf2 _,by simp⟩ ?_
   rintro k ⟨hk,htake⟩;by_cases hin:(k:Int)<(out.length:Int)
   ·have hkl:k<out.length:=oM;have hb2:=za4 hov oM;refine sQ (sQ ?_);refine dW [] [(0,2),(1,2),(2,2),(3,2),(4,2),(5,2),(6,2),(7,2),(8,1),(9,2),(10,2),(11,2),(12,1),(13,2),(14,2)] zd8 kR ?_;refine yM I (yM I (pU I (eN ak I) (pU I (SU.eq (v':=vb true) (lS I I) (zd7 vb (zf4 hin))) (yM I (yJ I (yJ I (zb1 I (gT I I I dC) (iA ak zT3 I I hb2 oM sL) dC ?_)))))));refine SP.gq I (gT I I I dC) (eB iT3 I (za5 hov) (gE hkl) I) dC ?_;refine yJ I (yJ I (zb1 I (gT I I I dC) (iA ak zT3 I I hb1 oM sL) dC (SP.gq I (gT I I I dC) (eB iT3 I (za5 (hv.mono hle)) hgi I) dC (zb1 I (gT I I I dC) (lS I I) dC (pU I (wT I I) (pN (tN ?_)))))));refine iP I (fun hc=>?_) (fun hc=>?_)
    ·refine kP (tN (bK (rG (lM I (yD I (lA I (nL (bN ?_))))))));exact gA (k+1) sB I I ⟨oM,by
      rw[tS hkl];intro y hy
      rcases ze8.1 hy with h | h
      ·exact htake y h
      ·simp at h; subst h; exact hc⟩ oM
    ·refine xI (tX (tX (bX ?_)));exact za7 k sB I I ⟨hk,htake,lm hstr hkl oM⟩
   ·refine sQ (sQ ?_);refine dW [] [(0,2),(1,2),(2,2),(3,2),(4,2),(5,2),(6,2),(7,2),(8,1),(9,2),(10,2),(11,2),(12,1),(13,2),(14,2)] zd8 kR ?_;refine yM I (yM I (pU I (eN ak I) (pU I (SU.eq (v':=vb false) (lS I I) (zd7 vb (zf3 hin))) (yM I (yG I (yG I (yG I (yI I (yG I (yG I (yG I (yI I (yG I (pU I (wF I I) (pN (tN (cF I (xI (tX (tX (bX ?_)))))))))))))))))))));exact za7 k sB I I ⟨hk,htake,by rw[List.drop_eq_nil_of_le oM]; simp⟩
  ·rintro k ⟨hk,hk1,hk2⟩;have hskip:x∈out→∀ y,y∈out↔y∈l.take (i+1):=fun h y=>by
    rw[htk,ze8,← hmem];constructor
    ·exact .inl
    ·rintro (h' | h')
     ·exact h'
     ·simp at h'; rw[h']; exact h
   have hxneg:x∈out→(l.take (i+1)).any (fun x=>decide (x<0))=false:=fun h=>by
    have h1:=zj7.1 hneg x ((hmem x).1 h);rw[htk,List.any_append,hneg];simpa using h1
   have hins:(∀ y∈out.drop k,x<y)→cG (out.take k++x::out.drop k)∧∀ y,y∈out.take k++x::out.drop k↔y∈l.take (i+1):=fun h=>⟨tA hstr hk1 h,fun y=>by
    rw[uQ,htk,ze8,← hmem];simp;exact or_comm⟩
   have hc1:=SlA.cut hov (l:=k) (m:=out.length) hk (lR _);have hc2:=SlA.cut hov (l:=0) (m:=k) (zf2 _) hk;rw[tL (by rw[ze5]; exact lR _)] at hc1;rw[List.drop_zero,Nat.sub_zero] at hc2;have hnl:(out.take k++x::out.drop k).length=out.length+1:=lN;obtain ⟨nw,hnw⟩:∃ nw,nw=out.take k++x::out.drop k:=⟨_,rfl⟩;have hbad1:x<0→okS l=false:=fun h=>by
    unfold okS;have:l.any (fun x=>decide (x<0))=true:=zj2.2 ⟨x,hxm,by simpa using h⟩;rw[this]; rfl
   have hbad2:(∀ y∈out.drop k,x<y)→9<(out.take k++x::out.drop k).length→okS l=false:=fun h h'=>by
    obtain ⟨h1,h2⟩:=hins h;have h3:=vC h1 (b:=bG l) (fun y hy=>by rw[kq]; exact List.mem_of_mem_take ((h2 y).1 hy));unfold okS;have:decide ((bG l).length≤9)=false:=zf3 oM;rw[this]; simp
   have hgo:∀ g3 q3 d3,(∀ y∈out.drop k,x<y)→Le g g3→bU g3 (.slice q3 (out.take k++x::out.drop k).length d3) (out.take k++x::out.drop k)→¬ x<0→(out.take k++x::out.drop k).length≤9 →
     Le g g3∧bU g3 (.slice q3 (out.take k++x::out.drop k).length d3) (out.take k++x::out.drop k)∧i+1≤l.length∧cG (out.take k++x::out.drop k)∧(∀ y,y∈out.take k++x::out.drop k↔y∈l.take (i+1))∧((l.take (i+1)).any (fun x=>decide (x<0))=false∧(out.take k++x::out.drop k).length≤9):=fun g3 q3 d3 h1 h2 h3 h4 h5 =>
    ⟨h2,h3,oM,(hins h1).1,(hins h1).2,by rw[htk,List.any_append,hneg]; simpa using h4,h5⟩
   have hgt:out.contains x=false→∀ y∈out.drop k,x<y:=fun h y hy=>by
    have h1:=hk2 y hy;have h2:y≠x:=fun e=>by
     have:out.contains x=true:=by rw[← e]; simpa using List.mem_of_mem_drop hy
     rw[h] at this; cases this
    omega
   have hgetk:(k:Int)<(out.length:Int)→out[((k:Nat):Int).toNat]?=some (out.getD k 0):=fun h=>by
    have h2:k<out.length:=oM;rw[show ((k:Nat):Int).toNat=k by omega,gE h2,zg6,gE h2]; rfl
   have hA:(k:Int)<(out.length:Int)→out.contains x=decide (out.getD k 0=x):=fun h=>by
    have h2:k<out.length:=oM;rw[zg6,gE h2,Option.getD_some,Bool.eq_iff_iff,zi9];constructor
    ·intro hm;have hm':x∈out:=by simpa using hm
     rw[← zi5 k out] at hm'
     rcases ze8.1 hm' with h3 | h3
     ·have:=hk1 x h3; omega
     ·have h4:=hk2 _ (by rw[zg2 h2]; exact List.mem_cons_self:out[k]∈out.drop k);have h5:=lm hstr h2 (Int.le_refl out[k]) x h3;omega
    ·intro e;rw[← e];simp
   have hB:¬ (k:Int)<(out.length:Int)→out.contains x=false:=fun h=>by
    rw[← zj1];intro hm;have hm':x∈out:=by simpa using hm
    rw[← zi5 k out,List.drop_eq_nil_of_le oM,zc2] at hm';have:=hk1 x hm';omega
   have hb2:=fun h=>za4 hov h;generalize out.getD k 0=yk at hgetk hA;obtain ⟨nl,hnl2⟩:∃ nl,nl=(out.take k++x::out.drop k).length:=⟨_,rfl⟩;have f1:x<0→(decide (x<0)||decide ((((out.take k++x::out.drop k).length:Nat):Int)>9))=true:=fun h=>by simp[h]
   have f2:¬ x<0→(decide (x<0)||decide ((((out.take k++x::out.drop k).length:Nat):Int)>9))=decide ((((out.take k++x::out.drop k).length:Nat):Int)>9):=fun h=>by simp only[h,decide_false,Bool.false_or]
   refine sQ ?_;refine SC.cutB 45 ((out.contains x)) ?_ ?_
   ·refine dW [] [(0,2),(1,2),(2,2),(3,2),(4,2),(5,2),(6,2),(7,2),(8,1),(9,2),(10,2),(11,2),(12,1),(13,2),(14,2)] zd8 kR ?_;refine yM I (yM I (pU I (eN ak I) (pU I (lS I I) (yM I ?_))));refine SP.split ?_ ?_
    ·intro h35;refine yJ I (yJ I (zb1 I (gT I I I dC) (iA ak zT3 I I (hb2 oM) oM sL) dC (SP.gq I (gT I I I dC) (eB iT3 I (za5 hov) (hgetk h35) I) dC (yJ I (yJ I (zb1 I (gT I I I dC) (iA ak zT3 I I hb1 oM sL) dC (SP.gq I (gT I I I dC) (eB iT3 I (za5 (hv.mono hle)) hgi I) dC (zb1 I (gT I I I dC) (eQ I I) dC (pU I (wT I I) (pN ?_))))))))));exact za8 (by (rw[hA h35]; rfl)) mI
    ·intro h35;refine yG I (yG I (yG I (yI I (yG I (yG I (yG I (yI I (yG I (pU I (wF I I) (pN ?_))))))))));exact za8 (by (rw[hB h35]; rfl)) mI
   refine iQ I (fun hthere=>?_) (fun hthere=>?_)
   ·have hxo:x∈out:=by simpa using hthere
    refine xI (tX (bX (tN (rG (lM I (yD I (lA I (nL ?_))))))));exact gA (g1,_,out,i+1) sB I I ⟨hle,hov,lN,hstr,hskip hxo,hxneg hxo,h9⟩ lN
   ·have hg:=hgt hthere;refine kP (tN (sQ ?_));refine dW [8] [(0,2),(1,2),(2,2),(3,1),(5,2),(6,2),(7,2),(4,0),(8,0),(9,2)] zd8 kR ?_;refine yM I (yM I (pU I (iA ak zT3 I I hb1 oM sL) (pK I (eB iT3 I (za5 (hv.mono hle)) hgi I) (yM I (yM I (pU I (SU.sliceL ak zT3 I I oM oM) (SP.o I (bS sty25 I I I (ab ⟨I,trivial⟩) dC) dC (.inr iR) ?_)))))));rintro _ _ _ ⟨b50,rfl,rfl,rfl⟩;refine SP.to (fun w hw=>At.litRow (e:=encInt) (l:=[x]) (n:=0) hw I I dC) ?_;refine SP.o I (aQ (e:=encInt) 0 sty25 I I I hc1 (by rw[ze5]; (first | with_reducible rfl | ((try dsimp only); (try simp only[ze1,ze4,zb9,ze3,zd9,ze5])<;>omega))) (by rw[ze5]; (first | with_reducible rfl | ((try dsimp only); (try simp only[ze1,ze4,zb9,ze3,zd9,ze5])<;>omega)))) dC (.inl dC) ?_;rintro v54 _ _ ⟨rfl,rfl⟩;refine pU I (aS I) (pN (tN (sQ (fS fun g2 hle2 hs2=>?_))));have hrest:bU g2 v54 ([x]++out.drop k):=hs2;refine rG (lW (bS sty25 I I I (ab trivial) dC) ?_);rintro _ _ _ ⟨b55,rfl,rfl,rfl⟩;refine SL.emptyRow 3 1 (some ⟨b55,0,none⟩) (lM I (lM I (lU (SU.sliceH ak zT3 I I oM oM) (lW (aQ (e:=encInt) (l:=[]) 0 sty25 I I I (hc2.mono hle2) (by rw[zd9]; (first | with_reducible rfl | ((try dsimp only); (try simp only[ze1,ze4,zb9,ze3,zd9,ze5])<;>omega))) (by rw[zd9]; (first | with_reducible rfl | ((try dsimp only); (try simp only[ze1,ze4,zb9,ze3,zd9,ze5])<;>omega)))) ?_))));rintro v59 _ _ ⟨rfl,rfl⟩;refine lM I (lW (aQ (e:=encInt) 0 sty25 I I I hrest lN lN) ?_);rintro v61 _ _ ⟨rfl,rfl⟩;refine aT I (fS fun g3 hle3 hs3=>?_);have hres:bU g3 v61 (out.take k++x::out.drop k):=(by have h:bU g3 v61 ([]++out.take k++([x]++out.drop k)):=hs3; simpa using h);refine SC.drop (s':=s) (.cons _ (.refl _)) ?_;obtain ⟨q3,d3,rfl⟩:=za2 hres;refine SC.sub (f':=[(0,.slice p l.length c),(4,.slice q3 (out.take k++x::out.drop k).length d3),(5,vi i)]) sB ?_;refine SC.cutB 71 ((decide (x<0)||decide ((((out.take k++x::out.drop k).length:Nat):Int)>9))) ?_ ?_
    ·refine rG (lM I (lM I (lU (iA ak zT3 I I hb1 oM sL) (lK (eB iT3 I (za5 (hv.mono (hle.trans (hle2.trans hle3)))) hgi I) (yL I (lM I ?_))))));refine sP ?_ ?_
     ·intro h67;refine yA I (yA I (yA I (yP I (nL ?_))));exact za8 (by (rw[f1 h67]; rfl)) mI
     ·intro h67;refine yC I (lY I I I (eN ak I) (lY I I I (gR I I) (yF I (nL ?_))));exact za8 (by (rw[f2 h67]; rfl)) mI
    refine iQ I (fun hbad=>?_) (fun hbad=>?_)
    ·have hko:okS l=false:=by
      rw[zi7,zi9,zi9] at hbad
      rcases hbad with h | h
      ·exact hbad1 h
      ·exact hbad2 hg oM
     refine rZ (lA I (aT I (rE (bR (tR (tR (bR (tR ?_))))))));exact ST.ret2 (.inl I) results47 I I ⟨I,hle.trans (hle2.trans hle3),.inr ⟨hko,I⟩⟩
    ·rw[Bool.or_eq_false_iff,decide_eq_false_iff_not,decide_eq_false_iff_not] at hbad;refine kP (bN (tN (rG (lM I (yD I (lA I (nL ?_)))))));exact gA (g3,_,out.take k++x::out.drop k,i+1) sB I I (hgo g3 q3 d3 hg (hle.trans (hle2.trans hle3)) hres hbad.1 oM) lN
 ·have hii:l.take i=l:=tL oM;rw[hii] at hmem hneg;have hset:=y7 hstr hmem;have hok:okS l=true:=by unfold okS; rw[hneg,← hset]; simpa using h9
  refine xI (tX (tX (bX (tN (sW I (lA I (aT I (rE ?_))))))));exact ST.ret2 (.inl I) results47 I I ⟨I,hle,.inl ⟨hok,_,I,by rw[← hset]; exact hov⟩⟩
abbrev dz (l:List (List Int)):Prop:=l.Pairwise fun a b=>ah a b<0
theorem ff {a b:List Int}(h:ah a b<0):¬ ah b a<0:=by have:=fz a b; omega
theorem dz.srt {l:List (List Int)}(h:dz l):nX l:=h.imp fun h=>ff h
theorem fe:∀ {l m:List (List Int)},dz l→dz m→(∀ x,x∈l↔x∈m)→l=m
 | [],[],_,_,_=>rfl
 | [],y::m,_,_,h=>by have:=(h y).2 (by simp); simp at this
 | x::l,[],_,_,h=>by have:=(h x).1 (by simp); simp at this
 | x::l,y::m,hl,hm,h=>by
  obtain ⟨h1,h2⟩:=zj5.1 hl;obtain ⟨h3,h4⟩:=zj5.1 hm;have hxy:x=y:=by
   rcases ze6.1 ((h x).1 (by simp)) with e | hx
   ·exact e
   ·rcases ze6.1 ((h y).2 (by simp)) with e | hy
    ·exact e.symm
    ·exact absurd (h1 y hy) (ff (h3 x hx))
  subst hxy;have hself:¬ ah x x<0:=by rw[bD]; decide
  rw[fe h2 h4 fun z=>?_];constructor
  ·intro hz
   rcases ze6.1 ((h z).1 (by simp[hz])) with e | hz'
   ·subst e; exact absurd (h1 z hz) hself
   ·exact hz'
  ·intro hz
   rcases ze6.1 ((h z).2 (by simp[hz])) with e | hz'
   ·subst e; exact absurd (h3 z hz) hself
   ·exact hz'
theorem e8:∀ {x:List Int} {l:List (List Int)},nX (x::l)→dz (aW eqL x l)∧(∀ y∈aW eqL x l,ah x y<0)∧∀ y,y∈l→y=x∨y∈aW eqL x l
 | x,[],_=>⟨List.Pairwise.nil,by simp[aW],by simp⟩
 | x,y::r,h=>by
  obtain ⟨h1,h2⟩:=zj5.1 h;obtain ⟨i1,i2,i3⟩:=e8 h2;have hxy:=h1 y (by simp);unfold aW;by_cases e:y=x
  ·subst e;simp only[eqL,decide_true,if_true];refine⟨i1,i2,fun z hz=>?_⟩
   rcases ze6.1 hz with rfl | hz
   ·exact .inl I
   ·exact i3 z hz
  ·have hlt:ah x y<0:=by
    rcases cD x y with h | h | h
    ·exact h
    ·exact absurd h.symm e
    ·exact absurd h hxy
   simp only[eqL,e,decide_false];refine⟨zj5.2 ⟨i2,i1⟩,fun z hz=>?_,fun z hz=>?_⟩
   ·rcases ze6.1 hz with rfl | hz
    ·exact hlt
    ·exact dq _ _ _ hlt (i2 z hz)
   ·rcases ze6.1 hz with rfl | hz
    ·exact .inr (by simp)
    ·rcases i3 z hz with rfl | h
     ·exact .inr (by simp)
     ·refine .inr ?_;simp;exact .inr h
theorem im (all:List (List Int))(t:List Int):dz (dg all t):=by
 have hs:=gr (all++bg t);unfold dg;cases h:kO (all++bg t) with
 | nil=>exact List.Pairwise.nil
 | cons x r =>
  rw[h] at hs;obtain ⟨h1,h2,_⟩:=e8 hs;exact zj5.2 ⟨h2,h1⟩
theorem fJ (all:List (List Int))(t x:List Int):x∈dg all t↔x∈all∨x∈bg t:=by
 refine⟨iZ,fun h=>?_⟩;have hs:=gr (all++bg t);have hm:x∈kO (all++bg t):=(fj _).symm.subset (ze8.2 h);unfold dg;cases hc:kO (all++bg t) with
 | nil=>rw[hc] at hm; simp at hm
 | cons y r =>
  rw[hc] at hs hm
  rcases ze6.1 hm with rfl | hm
  ·simp[fh]
  ·rcases (e8 hs).2.2 x hm with rfl | h
   ·simp[fh]
   ·simp[fh,h]
theorem k5:∀ {l:List (List Int)} (t:List Int),nX l→(∀ y∈l.take (lbL l t),ah y t<0)∧∀ y∈l.drop (lbL l t),¬ ah y t<0
 | [],t,_=>⟨by simp,by simp⟩
 | a::r,t,hs=>by
  obtain ⟨h1,h2⟩:=zj5.1 hs;obtain ⟨i1,i2⟩:=k5 t h2;by_cases ha:ah a t<0
  ·have hl:lbL (a::r) t=lbL r t+1:=by simp[lbL,ha]
   rw[hl,List.take_succ_cons,List.drop_succ_cons];refine⟨fun y hy=>?_,i2⟩
   rcases ze6.1 hy with rfl | hy
   ·exact ha
   ·exact i1 y hy
  ·have hall:∀ y∈a::r,¬ ah y t<0:=fun y hy=>by
    rcases ze6.1 hy with rfl | hy
    ·exact ha
    ·exact eR y a t (h1 y hy) ha
   have hz:lbL (a::r) t=0:=by
    unfold lbL;rw[List.length_eq_zero_iff,List.filter_eq_nil_iff];intro y hy;simpa using hall y hy
   rw[hz];exact⟨by simp,by simpa using hall⟩
theorem qS {l:List (List Int)}{t:List Int}(hs:dz l)(hn:l.contains t=false):dz (l.take (lbL l t)++t::l.drop (lbL l t)):=by
 obtain ⟨h1,h2⟩:=k5 t hs.srt;have hs':dz (l.take (lbL l t)++l.drop (lbL l t)):=by rw[zi5]; exact hs
 have h3:=List.pairwise_append.1 hs';refine List.pairwise_append.2 ⟨h3.1,zj5.2 ⟨fun y hy=>?_,h3.2.1⟩,fun y hy z hz=>?_⟩
 ·rcases cD t y with h | h | h
  ·exact h
  ·have:l.contains t=true:=by rw[h]; simpa using List.mem_of_mem_drop hy
   rw[hn] at this; cases this
  ·exact absurd h (h2 y hy)
 ·rcases ze6.1 hz with rfl | hz
  ·exact h1 y hy
  ·exact h3.2.2 y hy z hz
theorem w8 (all:List (List Int)):Srt Cl.id (aV all):=by
 unfold Srt;rw[zc5];intro i j hi hj hij;simp[aV,km];omega
theorem m3 (all:List (List Int)):aa (aV all)=(aV all).map cg:=by
 unfold aa;rw[← df (w8 all) (aH.refl _)]
theorem wX (k:Nat):((k:Nat):Int).tmod 2=((k:Nat):Int) % 2:=Int.tmod_eq_emod_of_nonneg oM
theorem ay (E:World)(g:PH)(s:Own)(v:Value)(ls:List (List Int))(hv:aI g v ls)(hn:ls.length<1099511627776)(hl:∀ x∈ls,x.length<17592186044416) :
  Ctr Tryz.prog E 21 #[v] g s (fun r g' s'=>s=s'∧Le g g'∧∃ u,r = .agg #[u]∧au g' u (bA ls)):=by
 obtain ⟨rs0,hrs0,hall0⟩:=hv;have hlen0:=hall0.length;obtain ⟨p,c,rfl⟩:=za2 hrs0;refine za9 (args:=[.slice p rs0.length c]) func21 I ntmps21 (bE I) ?_;refine rZ (bW (aL zk6) fun b2=>?_);refine tZ (rZ (aT I (sQ (rZ (aT I (bK ?_))))));refine oP (ι:=PH×Value×List (List Int)×Nat) (fun i=>[(0,.slice p rs0.length c),(2,pp b2 0),(3,i.2.1),(4,vi i.2.2.2)]) (fun i=>i.1)
  (fun _=>pt b2 (.cells #[.slice none 0 0] 30 (0,0))::s)
  (fun i=>Le g i.1∧i.2.2.2≤rs0.length∧aI i.1 i.2.1 i.2.2.1∧(i.2.2.1.length≤4000∧∀ x∈i.2.2.1,x.length≤9)∧dz i.2.2.1∧aJ [] ls=aJ i.2.2.1 (ls.drop i.2.2.2)) (fun i=>rs0.length - i.2.2.2)
  (g,.slice none 0 0,[],0) sB rfl rfl ⟨zb7 g,zf2 _,⟨[],zb8 g _,trivial⟩,⟨zf2 _,by simp⟩,List.Pairwise.nil,rfl⟩ ?_
 rintro ⟨g1,av,all,i⟩ ⟨hle,hi,hav,⟨hal,has⟩,hstr,hsa⟩;dsimp only at hle hi hav hal has hstr hsa ⊢;refine sQ (sW I (lM I (lU (eN bL I) (yL I (tZ ?_)))));refine iP I (fun hlt=>?_) (fun hlt=>?_)
 ·have hkl:i<ls.length:=oM;have hkr:i<rs0.length:=oM;have hR:=(hall0.get (gE hkl) (gE hkr)).mono hle;have hxl:=hl _ (gM hkl);have hb1:=hrs0.based oM;have hdrop:ls.drop i=ls[i]::ls.drop (i+1):=zg2 hkl;rw[hdrop] at hsa;generalize hx:ls[i]=x at *;generalize hr:rs0[i]=r at *;have hgr:rs0[((i:Nat):Int).toNat]?=some r:=by rw[← hr]; exact gE hkr
  refine kP (tN (sQ (bK (sW I (lM I (lU (iA bL ci I I hb1 oM sL) (lK (eB dF I (hrs0.mono hle).rd hgr I) (lW (cL call47 I (xe E g1 _ _ x hR hxl)) ?_))))))));rintro v31 g2 _ ⟨rfl,hle2,hset⟩;have hav2:=hav.mono hle2
  rcases hset with ⟨hok,u,rfl,hu⟩ | ⟨hok,rfl⟩
  ·obtain ⟨hs9,hsb⟩:=xw hok;obtain ⟨q,d,rfl⟩:=za2 hu;have hpow:=ur (bG x).length hs9;refine lM I (yX I (yX I (lA I (aT I ?_))));refine SC.cut (ι:=PH×Value×List (List Int)) (fun j=>[(0,.slice p rs0.length c),(2,pp b2 0),(3,j.2.1),(4,vi i)]) (fun j=>j.1) (fun _=>pt b2 (.cells #[.slice none 0 0] 30 (0,0))::s)
    (fun j=>Le g j.1∧aI j.1 j.2.1 j.2.2∧dz j.2.2∧(∀ y,y∈j.2.2↔y∈all∨y∈bg (bG x))∧j.2.2.length≤4600) ?_ ?_
   ·refine rZ (aT I (bK ?_));refine oP (ι:=PH×Value×List (List Int)×Nat) (fun j=>[(0,.slice p rs0.length c),(2,pp b2 0),(3,j.2.1),(4,vi i),(5,.slice q (bG x).length d),(6,vb true),(7,vi (j.2.2.2+1:Nat))]) (fun j=>j.1) (fun _=>pt b2 (.cells #[.slice none 0 0] 30 (0,0))::s)
     (fun j=>Le g2 j.1∧j.2.2.2+1≤2 ^ (bG x).length∧aI j.1 j.2.1 j.2.2.1∧dz j.2.2.1∧(∀ y,y∈j.2.2.1↔y∈all∨y∈(List.range j.2.2.2).map fun m=>dv (m+1) (bG x))∧j.2.2.1.length≤4000+j.2.2.2) (fun j=>2 ^ (bG x).length - j.2.2.2)
     (g2,av,all,0) sB rfl rfl ⟨zb7 g2,Nat.one_le_two_pow,hav2,hstr,by simp,lN⟩ ?_
    rintro ⟨g3,bv,al,b⟩ ⟨hle3,hb,hbv,hbs,hbm,hbl⟩;dsimp only at hle3 hb hbv hbs hbm hbl ⊢;have hals:∀ y∈al,y.length≤9:=fun y hy=>by
     rcases (hbm y).1 hy with h | h
     ·exact has y h
     ·obtain ⟨m,_,rfl⟩:=ze7.1 h;exact zk1 (ec _ _) hs9
    refine sQ (sW I (lM I (yC I (yC I (lY I I I (eN ak I) (lY I I I (SU.eq (v':=vi ((2 ^ (bG x).length:Nat):Int)) (SU.shl I I oM) (zd7 vi (uH (bG x).length oM))) (lY I I I (lS I I) (yP I (tZ ?_)))))))));refine iP I (fun hlt2=>?_) (fun hlt2=>?_)
    ·have hbl2:b+1<2 ^ (bG x).length:=oM;refine kP (tN (sQ (bK (rZ (aT I (sQ (sQ (zb4 3 1 (rG (aT I (bK ?_)))))))))));refine oP (ι:=Value×Nat) (fun k=>[(0,.slice p rs0.length c),(2,pp b2 0),(3,bv),(4,vi i),(5,.slice q (bG x).length d),(6,vb true),(7,vi (b+1:Nat)),(8,k.1),(9,vi k.2)]) (fun _=>g3)
      (fun k=>rowA encInt 3 k.1 (dv (b+1) ((bG x).take k.2))::pt b2 (.cells #[.slice none 0 0] 30 (0,0))::s) (fun k=>k.2≤(bG x).length) (fun k=>(bG x).length - k.2) (.slice none 0 0,0)
      sB rfl rfl (zf2 _) ?_
     rintro ⟨cv,k⟩ hk;dsimp only at hk ⊢;have hpl:=ec (b+1) ((bG x).take k);rw[zd9] at hpl;refine sQ (sW I (lM I (lU (eN ak I) (yL I (tZ ?_)))));refine iP I (fun hlt3=>?_) (fun hlt3=>?_)
     ·have hkl:k<(bG x).length:=oM;have hbu:=za4 (hu.mono hle3) oM;have hsucc:=mJ (bits:=b+1) hkl;refine kP (tN (sQ (bK (sW I (lM I (lU (SU.shr I I oM) (lU (SU.eq (v':=vi (((b+1) / 2 ^ k % 2:Nat):Int)) (SU.and I I) (zd7 vi ((nj _).trans (uG (b+1) k oM)))) (yE I (tZ ?_)))))))));refine iP I (fun hbit=>?_) (fun hbit=>?_)
      ·refine rG (lM I (lM I (lM I (lU (iA ak zT3 I I hbu oM sL) ?_))));refine SL.q (eB iT3 I (za5 (hu.mono hle3)) (gE hkl) I) dC ?_;refine lW (bS sty25 I I I (ab sB) dC) ?_;rintro _ _ _ ⟨b60,rfl,rfl,rfl⟩;refine lW (aP (e:=encInt) 0 (bG x)[k] sty25 I I I I I oM oM) ?_;rintro cv' _ _ ⟨rfl,rfl⟩;refine lA I (nL (bN (tN (rG (lM I (yD I (lA I (nL ?_))))))));refine ST.to (fun w hw=>?_) (g':=g3) (s':=rowA encInt 3 cv' (dv (b+1) ((bG x).take (k+1)))::pt b2 (.cells #[.slice none 0 0] 30 (0,0))::s) ?_
       ·rw[hsucc,zf6 oM]; exact hw
       exact gA (cv',k+1) sB I I lN lN
      ·refine kP (bN (tN (rG (lM I (yD I (lA I (nL ?_)))))));refine ST.to (fun w hw=>?_) (g':=g3) (s':=rowA encInt 3 cv (dv (b+1) ((bG x).take (k+1)))::pt b2 (.cells #[.slice none 0 0] 30 (0,0))::s) ?_
       ·rw[hsucc,zf5 oM]; exact hw
       exact gA (cv,k+1) sB I I lN lN
     ·have hkk:(bG x).take k=bG x:=tL oM;have htl:=ec (b+1) (bG x);have hmem2:∀ nw:List (List Int),(∀ y,y∈nw↔y=dv (b+1) (bG x)∨y∈al)→∀ y,y∈nw↔y∈all∨y∈(List.range (b+1)).map fun m=>dv (m+1) (bG x):=fun nw h y=>by
       rw[h,hbm,List.range_succ,zg1,ze8];simp;constructor
       ·rintro (h | h | h)
        ·exact .inr (.inr h)
        ·exact .inl h
        ·exact .inr (.inl h)
       ·rintro (h | h | h)
        ·exact .inr (.inl h)
        ·exact .inr (.inr h)
        ·exact .inl h
      generalize hpk:dv (b+1) (bG x)=t at *;refine xI (tX (tX (bX (tN (sQ (fS fun g4 hle4 hs4=>?_))))));rw[hkk,hpk] at hs4;have ht:bU g4 cv t:=hs4;have hbv4:=hbv.mono hle4;refine rG (lM I (lM I (lW (cL call48 I (mH E g4 _ _ _ al t hbv4 ht oM (fun y hy=>by have:=hals y hy; omega) oM hbs.srt)) ?_)));rintro _ _ _ ⟨rfl,rfl,rfl⟩;refine lM I (yX I (yX I (lA I (aT I (sW I (lU (SU.not I) (tZ ?_)))))));refine iQ I (fun hthere=>?_) (fun hthere=>?_)
      ·have hth:al.contains t=false:=by simpa using hthere
       have hlb:=uv al t;obtain ⟨ra,hra,halr⟩:=hbv4;have hral:=halr.length;obtain ⟨qa,da,rfl⟩:=za2 hra;have hcapa:=(SlA.cap hra).2;obtain ⟨qt,dt,rfl⟩:=za2 ht;have hca:=SlA.cut hra (l:=lbL al t) (m:=ra.length) oM (lR _);have hcb:=SlA.cut hra (l:=0) (m:=lbL al t) (zf2 _) oM;rw[tL (by rw[ze5]; exact lR _)] at hca;rw[List.drop_zero,Nat.sub_zero] at hcb;refine sW I (lW (bS sty22 I I I (ab ⟨I,trivial⟩) dC) ?_);rintro _ _ _ ⟨b71,rfl,rfl,rfl⟩;refine SL.to (fun w hw=>At.litRow (e:=bq) (l:=[⟨qt,t.length,dt⟩]) (n:=0) hw I I dC) ?_;refine lM I (lM I (lU (SU.sliceL bL ci I I oM oM) (lW (aQ (e:=bq) 0 sty22 I I I hca (by rw[ze5]; (first | with_reducible rfl | ((try dsimp only); (try simp only[ze1,ze4,zb9,ze3,zd9,ze5])<;>omega))) (by rw[ze5]; (first | with_reducible rfl | ((try dsimp only); (try simp only[ze1,ze4,zb9,ze3,zd9,ze5])<;>omega)))) ?_)));rintro v75 _ _ ⟨rfl,rfl⟩;refine aT I (fS fun g5 hle5 hs5=>?_);have hrest:SlA bq g5 v75 ([⟨qt,t.length,dt⟩]++ra.drop (lbL al t)):=hs5;refine rG (lW (bS sty22 I I I (ab trivial) dC) ?_);rintro _ _ _ ⟨b76,rfl,rfl,rfl⟩;refine SL.emptyRow 25 1 (some ⟨b76,0,none⟩) (lM I (lM I (lU (SU.sliceH bL ci I I oM oM) (lW (aQ (e:=bq) (l:=[]) 0 sty22 I I I (hcb.mono hle5) (by rw[zd9]; (first | with_reducible rfl | ((try dsimp only); (try simp only[ze1,ze4,zb9,ze3,zd9,ze5])<;>omega))) (by rw[zd9]; (first | with_reducible rfl | ((try dsimp only); (try simp only[ze1,ze4,zb9,ze3,zd9,ze5])<;>omega)))) ?_))));rintro v80 _ _ ⟨rfl,rfl⟩;refine lM I (lW (aQ (e:=bq) 0 sty22 I I I hrest lN lN) ?_);rintro v82 _ _ ⟨rfl,rfl⟩;refine lA I (nL (bN (tN (rG (lM I (yD I (lA I (nL (fT fun g6 hle6 hs6=>?_)))))))));refine dR (s':=pt b2 (.cells #[.slice none 0 0] 30 (0,0))::s) (.cons _ (.refl _)) ?_;have hres:aI g6 v82 (al.take (lbL al t)++t::al.drop (lbL al t)):=by
        refine⟨ra.take (lbL al t)++⟨qt,t.length,dt⟩::ra.drop (lbL al t),?_,?_⟩
        ·have h:SlA bq g6 v82 ([]++ra.take (lbL al t)++([⟨qt,t.length,dt⟩]++ra.drop (lbL al t))):=hs6;simpa using h
        ·exact ((ar.take _ halr).mono fun _ _=>bC.mono (hle5.trans hle6)).append ⟨ht.mono (hle5.trans hle6),(ar.drop _ halr).mono fun _ _=>bC.mono (hle5.trans hle6)⟩
       exact gA (g6,v82,al.take (lbL al t)++t::al.drop (lbL al t),b+1) ⟨I,I,I,I,I,I,bk (by simp),trivial⟩ I I ⟨hle3.trans (hle4.trans (hle5.trans hle6)),hbl2,hres,qS hbs hth,hmem2 _ (fun y=>uQ),lN⟩ lN
      ·have hth:t∈al:=by simpa using hthere
       refine kP (bN (tN (rG (lM I (yD I (lA I (nL ?_)))))));exact gA (g4,bv,al,b+1) ⟨I,I,I,I,I,I,bk (by simp),trivial⟩ I I ⟨hle3.trans hle4,hbl2,hbv4,hbs,hmem2 _ (fun y=>⟨.inr,fun h=>h.elim (fun e=>by rw[e]; exact hth) id⟩),lN⟩ lN
    ·have hbb:b=2 ^ (bG x).length - 1:=oM;refine xI (tX (tX (bX ?_)));exact za7 (g3,bv,al) sB I I ⟨hle.trans (hle2.trans hle3),hbv,hbs,fun y=>by dsimp only; rw[hbm]; unfold bg; rw[hbb],lN⟩
   ·rintro ⟨g3,bv,al⟩ ⟨hle3,hbv,hbs,hbm,hbl⟩;dsimp only at hle3 hbv hbs hbm hbl ⊢;have hals:∀ y∈al,y.length≤9:=fun y hy=>by
     rcases (hbm y).1 hy with h | h
     ·exact has y h
     ·exact fa hs9 y h
    have key:((al.length:Int)>4000→aJ [] ls=none)∧(¬ (al.length:Int)>4000→aJ [] ls=aJ al (ls.drop (i+1))):=by
     by_cases hb:ge (bG x)=true
     ·have he:=hsb hb;have hal2:al=all:=fe hbs hstr fun y=>by rw[hbm,he]; simp[bg]
      refine⟨fun h=>by rw[hal2] at h; omega,fun _=>by rw[hsa,aJ,zf6 hb,hal2]⟩
     ·have hal2:al=dg all (bG x):=fe hbs (im _ _) fun y=>by rw[hbm,fJ]
      refine⟨fun h=>by rw[hsa,aJ,zf5 hb,zf6 (by rw[← hal2]; exact h)],fun h=>by rw[hsa,aJ,zf5 hb,zf5 (by rw[← hal2]; exact h),← hal2]⟩
    obtain ⟨ra,hra,halr⟩:=hbv;have hbv:aI g3 bv al:=⟨ra,hra,halr⟩;have hral:=halr.length;obtain ⟨qa,da,rfl⟩:=za2 hra;refine sW I (lU (eN bL I) (lU (gR I I) (tZ ?_)));refine iP I (fun hmany=>?_) (fun hmany=>?_)
    ·refine rZ (lU (za1 I (buildE30)) (oZ (sK 0 az I I I I I sB) ?_));refine tZ (rE (bR (tR (tR (bR (tR ?_))))));exact ST.retCD 0 s (.inl I) results21 I bh az I I uR ⟨I,hle3,_,I,by simp only[bA,key.1 oM]; exact⟨[],zb8 _ _,trivial⟩⟩
    ·refine kP (bN (tN (rG (lM I (yD I (lA I (nL ?_)))))));exact gA (g3,_,al,i+1) sB I I ⟨hle3,lN,hbv,⟨lN,hals⟩,hbs,key.2 oM⟩ lN
  ·have hb:=zm hok;obtain ⟨ra,hra,halr⟩:=hav2;have hav2:aI g2 av all:=⟨ra,hra,halr⟩;have hral:=halr.length;obtain ⟨qa,da,rfl⟩:=za2 hra;refine lM I (yX I (yX I (lA I (aT I (sQ (rZ (aT I (bK ?_))))))));refine oP (ι:=Unit) (fun _=>[(0,.slice p rs0.length c),(2,pp b2 0),(3,.slice qa ra.length da),(4,vi i),(5,.slice none 0 0),(6,vb false),(7,vi 1)]) (fun _=>g2) (fun _=>pt b2 (.cells #[.slice none 0 0] 30 (0,0))::s) (fun _=>True) (fun _=>0) () sB I I trivial ?_;rintro ⟨⟩ -;refine sQ (sW I (lM I (yA I (yA I (yA I (yA I (yA I (yF I (tZ (cF I (xI (tX (tX (bX (tN (sW I (lU (eN bL I) (lU (gR I I) (tZ ?_)))))))))))))))))));refine iP I (fun hmany=>?_) (fun hmany=>?_)
   ·exfalso;omega
   ·refine kP (bN (tN (rG (lM I (yD I (lA I (nL ?_)))))));exact gA (g2,_,all,i+1) sB I I ⟨hle.trans hle2,lN,hav2,⟨hal,has⟩,hstr,by dsimp only; rw[hsa,aJ,zf6 hb]⟩ lN
 ·have hk0:i=rs0.length:=oM;have hsome:aJ [] ls=some all:=by rw[hsa,hk0,← hlen0,List.drop_length]; rfl
  obtain ⟨rs,hrs,hall⟩:=hav;have hav:aI g1 av all:=⟨rs,hrs,hall⟩;have hrl:=hall.length;obtain ⟨q,d,rfl⟩:=za2 hrs;refine xI (tX (tX (bX (tN (rZ (bW (aL zk6) fun b13=>?_))))));refine tZ (sQ (rZ (aT I (bK (zb4 63 3 ?_)))));refine oP (ι:=PH×Value×List Rc×Nat) (fun i=>[(2,pp b2 0),(3,.slice q rs.length d),(13,pp b13 0),(14,vi i.2.2.2)]) (fun i=>i.1)
   (fun i=>rowA encCell 63 i.2.1 i.2.2.1::pt b13 (.cells #[i.2.1] 30 (0,0))::pt b2 (.cells #[.slice none 0 0] 30 (0,0))::s)
   (fun i=>Le g1 i.1∧i.2.2.2≤rs.length∧ar (ao i.1) (((aV all).take i.2.2.2).map cg) i.2.2.1) (fun i=>rs.length - i.2.2.2)
   (g1,.slice none 0 0,[],0) sB rfl rfl ⟨zb7 g1,zf2 _,trivial⟩ ?_
  rintro ⟨g3,ov,rcs,n⟩ ⟨hle3,hn3,hrcs⟩;dsimp only at hle3 hn3 hrcs ⊢;have hrcl:=hrcs.length;rw[ze2,zd9,be] at hrcl;refine sQ (sW I (lM I (lU (eN bL I) (yL I (tZ ?_)))));refine iP I (fun hlt2=>?_) (fun hlt2=>?_)
  ·have hnl:n<all.length:=oM;have hnr:n<rs.length:=oM;have hb1:=hrs.based oM;have hR:=(hall.get (gE hnl) (gE hnr)).mono hle3;have hRl:=hR.len;have hx9:=has _ (gM hnl);have hget:=fN hnl;generalize hx:all[n]=x at *;generalize hr:rs[n]=r at *;obtain ⟨rp,rn,rc⟩:=r;dsimp only at hRl;subst hRl;have hxs:bU g3 (.slice rp x.length rc) x:=hR;have hgr:rs[((n:Nat):Int).toNat]?=some ⟨rp,x.length,rc⟩:=by rw[← hr]; exact gE hnr
   refine kP (tN (sQ (bK (sW I (yD I (lM I (lM I (lU (iA bL ci I I hb1 oM sL) (lK (eB (u:=.slice rp x.length rc) dF I (hrs.mono hle3).rd hgr I) (lU (eN ak I) (lU (sU I I oM) (lU (za1 I (buildC63 _ _)) (bW (aL zk8) fun b15=>?_)))))))))))));refine oZ (sK 0 aC I I I I I sB) ?_;refine tZ ?_;refine SC.cut (ι:=PH×Value) (fun i=>[(2,pp b2 0),(3,.slice q rs.length d),(13,pp b13 0),(14,vi n),(15,pp b15 0)]) (fun i=>i.1)
    (fun i=>rowA encSide 87 i.2 (aM all x x.length)::pt b15 (.cells #[vi ((n:Int)+1),vi ((x.length:Int) - 1),i.2] 63 (0,0))::rowA encCell 63 ov rcs::pt b13 (.cells #[ov] 30 (0,0))::pt b2 (.cells #[.slice none 0 0] 30 (0,0))::s)
    (fun i=>Le g3 i.1) ?_ ?_
   ·refine sQ (zb4 87 2 (rG (aT I (bK ?_))));refine oP (ι:=PH×Value×Nat) (fun i=>[(2,pp b2 0),(3,.slice q rs.length d),(13,pp b13 0),(14,vi n),(15,pp b15 0),(16,vi i.2.2)]) (fun i=>i.1)
     (fun i=>rowA encSide 87 i.2.1 (aM all x i.2.2)::pt b15 (.cells #[vi ((n:Int)+1),vi ((x.length:Int) - 1),i.2.1] 63 (0,0))::rowA encCell 63 ov rcs::pt b13 (.cells #[ov] 30 (0,0))::pt b2 (.cells #[.slice none 0 0] 30 (0,0))::s)
     (fun i=>Le g3 i.1∧i.2.2≤x.length) (fun i=>x.length - i.2.2)
     (g3,.slice none 0 0,0) sB rfl rfl ⟨zb7 g3,zf2 _⟩ ?_
    rintro ⟨g4,sv,j⟩ ⟨hle4,hj⟩;dsimp only at hle4 hj ⊢;have hssl:=dw all x j;have hsucc:=dZ all x j;have hxs4:bU g4 (.slice rp x.length rc) x:=hxs.mono hle4;by_cases hjl:j<x.length
    ·have hjd:((j:Nat):Int)<((x.length:Nat):Int):=oM;by_cases hdim:((x.length:Int) - 1)>0
     ·have hel:(x.eraseIdx j).length=x.length - 1:=by rw[List.length_eraseIdx]; simp[hjl]
      have hside:dT all x j=[⟨lbL all (x.eraseIdx j)+1,bV j⟩]:=by unfold dT; rw[zf6 oM]
      have hlb:=uv all (x.eraseIdx j);rw[hside] at hsucc;have hcap:=(SlA.cap hxs4).2;have hc1:=SlA.cut hxs4 (l:=0) (m:=j) oM oM;have hc2:=SlA.cut hxs4 (l:=j+1) (m:=x.length) oM oM;have he1:(x.drop 0).take (j - 0)=x.take j:=by simp
      have he2:(x.drop (j+1)).take (x.length - (j+1))=x.drop (j+1):=tL (by rw[ze5]; omega);rw[he1] at hc1;rw[he2] at hc2;have her:[]++x.take j++x.drop (j+1)=x.eraseIdx j:=by rw[List.eraseIdx_eq_take_drop_succ]; simp
      have hcl1:([]++x.take j).length=j:=by simp; omega
      refine sQ (sW I (lM I (lM I (lU (iA bL ci I I hb1 oM sL) (lK (eB (u:=.slice rp x.length rc) dF I (hrs.mono (hle3.trans hle4)).rd hgr I) (lU (eN ak I) (lU (SU.eq (v':=vb true) (lS I I) (zd7 vb (zf4 hjd))) (lM I (lY I I I (fA am I zT3 I) (SL.gq (gT I I I dC) (qL (v:=vi ((x.length:Int) - 1)) iT3 I (cO 1 I I)) dC (lY I I I (SU.eq (v':=vb true) (gR I I) (zd7 vb (zf4 hdim))) (yP I (tZ (cT I (kP (tN (sQ (bK (sQ ?_)))))))))))))))))));refine dW [15] [(1,2),(2,2),(3,2),(4,1),(5,2),(6,2),(8,2),(9,2),(10,2),(11,1),(12,2),(13,2),(14,2),(0,0),(7,0),(15,0),(16,2)] zd8 kR ?_;refine yM I (yM I (pU I (iA bL ci I I hb1 oM sL) (pK I (eB (u:=.slice rp x.length rc) dF I (hrs.mono (hle3.trans hle4)).rd hgr I) (yM I (pU I (SU.sliceH ak zT3 I I oM oM) (yM I (yM I (pU I (iA bL ci I I hb1 oM sL) (pK I (eB (u:=.slice rp x.length rc) dF I (hrs.mono (hle3.trans hle4)).rd hgr I) (yM I (pU I (aD I I oM) (pU I (SU.eq (v':=sliced rp (j+1) x.length rc 1) (SU.sliceL ak zT3 I I oM oM) (by rw[show ((j:Int)+1).toNat=j+1 by omega])) ?_))))))))))));refine SP.o I (bS sty25 I I I (ab trivial) dC) dC (.inr iR) ?_;rintro _ _ _ ⟨b116,rfl,rfl,rfl⟩;refine SP.to (fun w hw=>hw.emptyRow 3 1 (some ⟨b116,0,none⟩)) ?_;refine SP.o I (aQ (e:=encInt) (l:=[]) 0 sty25 I I I hc1 (by rw[zd9]; (first | with_reducible rfl | ((try dsimp only); (try simp only[ze1,ze4,zb9,ze3,zd9,ze5])<;>omega))) (by rw[zd9]; (first | with_reducible rfl | ((try dsimp only); (try simp only[ze1,ze4,zb9,ze3,zd9,ze5])<;>omega)))) dC (.inr iR) ?_;rintro v123 _ _ ⟨rfl,rfl⟩;refine SP.o I (aQ (e:=encInt) 0 sty25 I I I hc2 (by rw[ze5,hcl1]; omega) (by rw[ze5,hcl1]; omega)) dC (.inl dC) ?_;rintro v131 _ _ ⟨rfl,rfl⟩;refine pU I (aS I) (pN (tN (sQ (fS fun g6 hle6 hs6=>?_))));have hrest:bU g6 v131 (x.eraseIdx j):=(by rw[← her]; exact hs6);refine SC.drop (s':=rowA encSide 87 sv (aM all x j)::pt b15 (.cells #[vi ((n:Int)+1),vi ((x.length:Int) - 1),sv] 63 (0,0))::rowA encCell 63 ov rcs::pt b13 (.cells #[ov] 30 (0,0))::pt b2 (.cells #[.slice none 0 0] 30 (0,0))::s) (.cons _ (.refl _)) (rG (lM I (lM I (lW (cL call48 I (mH E g6 _ _ _ all (x.eraseIdx j) (hav.mono (hle3.trans (hle4.trans hle6))) hrest oM (fun y hy=>by have:=has y hy; omega) oM hstr.srt)) ?_))));rintro _ _ _ ⟨rfl,rfl,rfl⟩;refine lM I (yX I (yX I (lA I (aT I (rG (lU (fA am I a7 I) (lK (qL (v:=sv) bT I (cO 1 I I)) (lM I (yD I (lM I (lU (SU.eq (v':=vi ((j:Int) % 2)) (zd4 I I dC) (zd7 vi (wX j))) (lU (SU.mul I I oM) (lU (SU.eq (v':=vi (bV j)) (sU I I oM) I) (lU (za1 I (buildS87 _ _)) (lW (bS sty61 I I I (ab sB) dC) ?_)))))))))))))));rintro _ _ _ ⟨b147,rfl,rfl,rfl⟩;refine lW (aP (e:=encSide) 0 ⟨lbL all (x.eraseIdx j)+1,bV j⟩ sty61 I I I I I oM oM) ?_;rintro v148 _ _ ⟨rfl,rfl⟩;rw[← hsucc];refine zc8 fun ⟨w0,hw0⟩=>?_;obtain ⟨q148,d148,rfl⟩:=ag (i:=0) hw0 rfl;clear hw0 w0;refine lU (fA am rfl a7 rfl) (oZ (SO.store1 1 a7 rfl rfl rfl rfl (bE rfl) (by rfl)) ?_);refine nL (bN (tN (rG (lM I (yD I (lA I (nL ?_)))))));exact gA (g6,_,j+1) sB I I ⟨hle4.trans hle6,lN⟩ lN
     ·have hx1:x.length=1:=oM;have hj0:j=0:=oM;have hempty:aM all x x.length=aM all x j:=by
       rw[hx1,hj0];have h0:=dZ all x 0;have hs0:dT all x 0=[]:=by
        unfold dT;rw[zf5];rw[List.length_eraseIdx];simp[hx1]
       rw[h0,hs0,zc2]
      rw[← hempty];refine sQ (sW I (lM I (lM I (lU (iA bL ci I I hb1 oM sL) (lK (eB (u:=.slice rp x.length rc) dF I (hrs.mono (hle3.trans hle4)).rd hgr I) (lU (eN ak I) (lU (SU.eq (v':=vb true) (lS I I) (zd7 vb (zf4 hjd))) (lM I (lY I I I (fA am I zT3 I) (SL.gq (gT I I I dC) (qL (v:=vi ((x.length:Int) - 1)) iT3 I (cO 1 I I)) dC (lY I I I (SU.eq (v':=vb false) (gR I I) (zd7 vb (zf3 hdim))) (yP I (tZ (cF I (xI (tX (tX (bX ?_))))))))))))))))));exact za7 (g4,sv) sB I I hle4
    ·have hjd:¬ ((j:Nat):Int)<((x.length:Nat):Int):=oM;have hjj:j=x.length:=oM;subst hjj;refine sQ (sW I (lM I (lM I (lU (iA bL ci I I hb1 oM sL) (lK (eB (u:=.slice rp x.length rc) dF I (hrs.mono (hle3.trans hle4)).rd hgr I) (lU (eN ak I) (lU (SU.eq (v':=vb false) (lS I I) (zd7 vb (zf3 hjd))) (lM I (yA I (yA I (yA I (yF I (tZ (cF I (xI (tX (tX (bX ?_))))))))))))))))));exact za7 (g4,sv) sB I I hle4
   ·rintro ⟨g4,sv⟩ hle4;dsimp only at hle4 ⊢;have hssl:=dw all x x.length;refine rZ (fR fun g5 hle5 hs5=>?_);have hsd:SlA encSide g5 sv (aM all x x.length):=hs5;refine lU (fA am I a7 I) (lK (qL (v:=sv) bT I (cO 0 I I)) (lW (cL call49 I (mD E g5 _ _ (aM all x x.length) hsd oM)) ?_));rintro v152 g6 _ ⟨rfl,hle6,hs6⟩;obtain ⟨q6,d6,rfl⟩:=za2 hs6;obtain ⟨nc,hnc⟩:∃ nc:Rc,nc=⟨(n:Int)+1,(x.length:Int) - 1,⟨q6,(sortBy aj.cell (aM all x x.length)).length,d6⟩⟩:=⟨_,rfl⟩;refine lU (fA am rfl a7 rfl) (oZ (SO.store1 0 a7 rfl rfl rfl rfl (bE rfl) (by rfl)) ?_);refine tZ (rG (lU (fA cJ I bQ I) (lK (qL dI I (cO 2 I I)) (lK (qV 0 eL aC I I I) (lW (bS sty28 I I I (ab sB) dC) ?_)))));rintro _ _ _ ⟨b157,rfl,rfl,rfl⟩;refine lW (aP (e:=encCell) 1 nc sty28 I I I I (by rw[hnc]; rfl) oM oM) ?_;rintro v158 _ _ ⟨rfl,rfl⟩;refine zc8 fun ⟨w0,hw0⟩=>?_;obtain ⟨q158,d158,rfl⟩:=ag (i:=1) hw0 rfl;clear hw0 w0;refine lU (fA cJ I bQ I) (oZ (sK 2 bQ I I I I I sB) ?_);refine nL (bN (tN (rG (lM I (yD I (lA I (nL (dR (s':=rowA encCell 63 (.slice q158 (rcs++[nc]).length d158) (rcs++[nc])::pt b13 (.cells #[.slice q158 (rcs++[nc]).length d158] 30 (0,0))::pt b2 (.cells #[.slice none 0 0] 30 (0,0))::s) (.cons _ (.refl _)) ?_))))))));refine gA (g6,_,rcs++[nc],n+1) sB I I ⟨hle3.trans (hle4.trans (hle5.trans hle6)),lN,?_⟩ lN;dsimp only;rw[d4 hget,zg1];exact (hrcs.mono fun _ _=>ao.mono (hle4.trans (hle5.trans hle6))).append ⟨(by rw[hnc]; exact⟨I,I,hs6⟩),trivial⟩
  ·have hnn:n=rs.length:=oM;have htk:(aV all).take n=aV all:=tL (by rw[be]; omega);rw[htk] at hrcs;refine xI (tX (tX (bX (tN (sQ (fS fun g4 hle4 hs4=>?_))))));have hov:au g4 ov (bA ls):=(by simp only[bA,hsome,m3]; exact⟨rcs,hs4,hrcs.mono fun _ _=>ao.mono hle4⟩);obtain ⟨q9,d9,rfl⟩:=hov.form;refine rG (lK (qV 0 bh az I I I) (oZ (sK 1 az I I I I I sB) ?_));refine tZ (rE ?_);exact ST.retCD 1 s (.inl I) results21 I bh az I I uR ⟨I,hle.trans (hle3.trans hle4),_,I,hov⟩
set_option maxHeartbeats 2000000
theorem cC {l:List Cl}(h:(aA l).2=0):l.length≤4000∧(aa l).Pairwise (fun a b=>a.id<b.id)∧ae l=aa l∧∀ x∈aa l,bP (ae l) x=0:=by
 unfold aA at h;split at h
 ·exact absurd h dC
 ·rename_i hl;cases hc:eZ (ae l) (aa l) 0 with
  | some p=>rw[hc] at h; exact absurd h (qf hc)
  | none =>
   have hst:=(iY hc).2;exact⟨oM,hst,a8 hst,jp hc⟩
theorem rX:∀ {l:List Int} {k:Nat} (h:k<l.length),l.Pairwise (· < ·)→lbI l l[k]=k:=by
 intro l;induction l with
 | nil=>intro k h; simp at h
 | cons a r ih =>
  intro k h hs;obtain ⟨h1,h2⟩:=zj5.1 hs;cases k with
  | zero =>
   unfold lbI;rw[List.length_eq_zero_iff,List.filter_eq_nil_iff];intro y hy
   rcases ze6.1 hy with rfl | hy
   ·simp
   ·have:=h1 y hy; simp; omega
  | succ k =>
   have hk:k<r.length:=by simpa using h
   have hlt:=h1 r[k] (gM hk);have:=ih hk h2;unfold lbI at this ⊢;simp[hlt,this]
theorem sC {tl:List Cl}(hs:(tl.map Cl.id).Pairwise (· ≤ ·)){id:Int}(h:(a6 tl id).isSome=true):atC tl id=lbI (tl.map Cl.id) id:=by
 obtain ⟨c,hc⟩:=zh4.1 h;have hm:(tl.map Cl.id).contains id=true:=by
  obtain ⟨h1,h2⟩:=eF hc;simp;exact⟨c,h1,h2⟩
 unfold atC;rw[zf6 hm]
def bF (a b:List Cl):Bool:=!decide ((aA a).2=0) || !decide ((aA b).2=0)||decide (((ae a).length:Int) * (ae b).length>4000)
def bH (a b:List Cl):List Cl:=if bF a b then [] else if (aA (cm a b)).2=0 then aa (cm a b) else []
theorem jV {α β:Type}{l:List α}{i:Nat}(h:i<l.length)(f:α→List β):(l.take (i+1)).flatMap f=(l.take i).flatMap f++f l[i]:=by
 rw[tS h,List.flatMap_append];simp
theorem dL (E:World)(g:PH)(s:Own)(v u:Value)(a b:List Cl)(hv:au g v a)(hu:au g u b)(ha:di a)(hb:di b) :
  Ctr Tryz.prog E 57 #[.agg #[v],.agg #[u]] g s (fun r g' s'=>s=s'∧Le g g'∧∃ x,r = .agg #[x]∧au g' x (bH a b)):=by
 obtain ⟨vp0,vc0,hvf⟩:=hv.form;obtain ⟨up0,uc0,huf⟩:=hu.form;have hbadA:¬ (aA a).2=0→bF a b=true:=fun h=>by simp[bF,h]
 have hbadB:(aA a).2=0→¬ (aA b).2=0→bF a b=true:=fun h h2=>by simp[bF,h2]
 have hbadC:(aA a).2=0→(aA b).2=0→bF a b=decide (((ae a).length:Int) * (ae b).length>4000):=fun h h2=>by simp[bF,h,h2]
 have hta:=lk a;have htb:=lk b;have hmul:(aA a).2=0→(aA b).2=0→((ae a).length:Int) * (ae b).length≤16000000∧0≤((ae a).length:Int) * (ae b).length:=fun h h2=>qO (zk1 hta (cC h).1) (zk1 htb (cC h2).1);refine za9 (args:=[.agg #[v],.agg #[u]]) func57 I ntmps57 (bE I) ?_;refine rZ (bW (bO I) fun b2=>?_);refine bW (bO I) fun b3=>?_;refine bW (aL zk6) fun b4=>?_;refine tZ (rZ (lK (qV 2 bh az I I I) (lW (cL call40 I (fU E g _ _ a hv ha)) ?_)));rintro _ g1 _ ⟨rfl,rfl,hle1⟩;refine aT I (rZ (lK (qV 1 bh az I I I) (lW (cL call40 I (fU E g1 _ _ b (hu.mono hle1) hb)) ?_)));rintro _ g2 _ ⟨rfl,rfl,hle2⟩;refine aT I (rZ (lK (qV 2 bh az I I I) (lW (cL call61 I (fV E g2 _ _ a (hv.mono (hle1.trans hle2)) ha)) ?_)));rintro v24 g3 _ ⟨rfl,hle3,hA⟩;refine aT I (rZ (lK (qV 1 bh az I I I) (lW (cL call61 I (fV E g3 _ _ b (hu.mono (hle1.trans (hle2.trans hle3))) hb)) ?_)));rintro v26 g4 _ ⟨rfl,hle4,hB⟩;obtain ⟨ra,hra0,halla0⟩:=hA;have hra:=hra0.mono hle4;have halla:=halla0.mono fun _ _=>ao.mono hle4;obtain ⟨rb,hrb,hallb⟩:=hB;have eal:=halla.length;have ebl:=hallb.length;obtain ⟨pa,ca,rfl⟩:=hra.form;obtain ⟨pb,cb,rfl⟩:=hrb.form;refine aT I (sQ ?_);refine SC.cutB 40 ((bF a b)) ?_ ?_
 ·refine rG (lM I (lU (SU.notP I) (lM I ?_)));refine sP ?_ ?_
  ·intro h29;refine yA I (yA I (yP I (lM I (yA I (yA I (yA I (yA I (yA I (yA I (yP I (nL ?_)))))))))));exact za8 (by (rw[hbadA h29]; rfl)) mI
  ·intro h29;refine yC I (lY I I I (SU.notP I) (yF I (lM I ?_)));refine sP ?_ ?_
   ·intro h33;refine yA I (yA I (yA I (yA I (yA I (yA I (yP I (nL ?_)))))));exact za8 (by (rw[hbadB (zg5 h29) h33]; rfl)) mI
   ·intro h33;refine yC I (lY I I I (eN aN I) (yC I (lY I I I (eN aN I) (lY I I I (SU.mul I I (by have:=hmul (zg5 h29) (zg5 h33); rw[eal,ebl] at this; omega)) ?_))));refine lY I I I (gR I I) (yF I (nL ?_));exact za8 (by (rw[hbadC (zg5 h29) (zg5 h33),eal,ebl]; rfl)) mI
 refine iQ I (fun hbad=>?_) (fun hbad=>?_)
 ·refine rZ (lU (za1 I (buildE30)) (oZ (sK 0 az I I I I I sB) ?_));refine tZ (rE (tR ?_));exact ST.retCD 0 s (.inl I) results57 I bh az I I uR ⟨I,hle1.trans (hle2.trans (hle3.trans hle4)),_,I,by unfold bH; rw[zf6 hbad]; exact⟨[],zb8 _ _,trivial⟩⟩
 ·have hra0:(aA a).2=0:=zg5 fun h=>by rw[hbadA h] at hbad; cases hbad
  have hrb0:(aA b).2=0:=zg5 fun h=>by rw[hbadB hra0 h] at hbad; cases hbad
  have hsz:((ae a).length:Int) * (ae b).length≤4000:=by rw[hbadC hra0 hrb0] at hbad; simp at hbad; omega
  obtain ⟨hal,hastr,hat,haf⟩:=cC hra0;obtain ⟨hbl,hbstr,hbt,hbf⟩:=cC hrb0;rw[← hat] at hastr haf;rw[← hbt] at hbstr hbf;have hats:=fH a;have hbts:=fH b;have hai:((ae a).map Cl.id).Pairwise (· < ·):=zj6.2 hastr;have hbi:((ae b).map Cl.id).Pairwise (· < ·):=zj6.2 hbstr;have hall4:ae a=aa a→ae b=aa b→cm a b=(ae a).flatMap fun x=>(ae b).map (cB (ae a) (ae b) x):=fun h h2=>by unfold cm; rw[← h,← h2]
  have hprod:=hall4 hat hbt;have hCa:au g4 (.slice pa ra.length ca) (ae a):=⟨ra,hra,halla⟩;have hCb:au g4 (.slice pb rb.length cb) (ae b):=⟨rb,hrb,hallb⟩;refine kP (tN (sW I (lU (eN aN I) (aT I (rZ (bW (aL zk6) fun b10=>?_))))));refine tZ (sQ (rZ (aT I (bK (zb4 63 3 ?_)))));refine oP (ι:=PH×Value×List Rc×Nat) (fun i=>[(2,pp b2 0),(3,pp b3 0),(4,pp b4 0),(7,.slice pa ra.length ca),(8,.slice pb rb.length cb),(9,vi rb.length),(10,pp b10 0),(11,vi i.2.2.2)]) (fun i=>i.1) (fun i=>rowA encCell 63 i.2.1 i.2.2.1::pt b10 (.cells #[i.2.1] 30 (0,0))::pt b4 (.cells #[.slice none 0 0] 30 (0,0))::pt b3 (.cells #[u] 30 (0,0))::pt b2 (.cells #[v] 30 (0,0))::s)
   (fun i=>Le g4 i.1∧i.2.2.2≤ra.length∧ar (ao i.1) (((ae a).take i.2.2.2).flatMap fun x=>(ae b).map (cB (ae a) (ae b) x)) i.2.2.1) (fun i=>ra.length - i.2.2.2)
   (g4,.slice none 0 0,[],0) sB rfl rfl ⟨zb7 g4,zf2 _,trivial⟩ ?_
  rintro ⟨g5,ov,rcs,i⟩ ⟨hle5,hi,hrcs⟩;dsimp only at hle5 hi hrcs ⊢;refine sQ (sW I (lM I (lU (eN aN I) (yL I (tZ ?_)))));refine iP I (fun hlt=>?_) (fun hlt=>?_)
  ·have hil:i<(ae a).length:=oM;have hir:i<ra.length:=oM;have hb1:=hra.based oM;have hxr:=halla.get (gE hil) (gE hir);have hgx0:ra[((i:Nat):Int).toNat]?=some ra[i]:=gE hir;have hxm:=gM hil;have hxi:lbI ((ae a).map Cl.id) (ae a)[i].id=i:=by
    have:=rX (l:=(ae a).map Cl.id) (k:=i) (by simpa using hil) hai;simpa using this
   have hsucc:=jV hil fun x=>(ae b).map (cB (ae a) (ae b) x);generalize hxe:(ae a)[i]=x at *;obtain ⟨xp,xcap,hrx,hxs⟩:=dQ hxr;rw[hrx] at hgx0;have hgx:=hgx0;have hxf:=haf x hxm;have hxd:=r9 hxf;have hxo:=gg hxf;have hxfd:=jM hxf;refine kP (tN (sQ (bK (rZ (aT I (bK ?_))))));refine oP (ι:=PH×Value×List Rc×Nat) (fun k=>[(2,pp b2 0),(3,pp b3 0),(4,pp b4 0),(7,.slice pa ra.length ca),(8,.slice pb rb.length cb),(9,vi rb.length),(10,pp b10 0),(11,vi i),(12,vi k.2.2.2)]) (fun k=>k.1) (fun k=>rowA encCell 63 k.2.1 k.2.2.1::pt b10 (.cells #[k.2.1] 30 (0,0))::pt b4 (.cells #[.slice none 0 0] 30 (0,0))::pt b3 (.cells #[u] 30 (0,0))::pt b2 (.cells #[v] 30 (0,0))::s)
    (fun k=>Le g5 k.1∧k.2.2.2≤rb.length∧ar (ao k.1) ((((ae a).take i).flatMap fun x=>(ae b).map (cB (ae a) (ae b) x))++((ae b).take k.2.2.2).map (cB (ae a) (ae b) x)) k.2.2.1) (fun k=>rb.length - k.2.2.2)
    (g5,ov,rcs,0) sB rfl rfl ⟨zb7 g5,zf2 _,by simpa using hrcs⟩ ?_
   rintro ⟨g6,ov2,rcs2,k⟩ ⟨hle6,hk,hrcs2⟩;dsimp only at hle6 hk hrcs2 ⊢;refine sQ (sW I (lM I (yL I (tZ ?_))));refine iP I (fun hlt2=>?_) (fun hlt2=>?_)
   ·have hkl:k<(ae b).length:=oM;have hkr:k<rb.length:=oM;have hb2:=hrb.based oM;have hyr:=hallb.get (gE hkl) (gE hkr);have hgy0:rb[((k:Nat):Int).toNat]?=some rb[k]:=gE hkr;have hym:=gM hkl;have hyi:lbI ((ae b).map Cl.id) (ae b)[k].id=k:=by
     have:=rX (l:=(ae b).map Cl.id) (k:=k) (by simpa using hkl) hbi;simpa using this
    have htk:((ae b).take (k+1)).map (cB (ae a) (ae b) x)=((ae b).take k).map (cB (ae a) (ae b) x)++[cB (ae a) (ae b) x (ae b)[k]]:=by rw[tS hkl,zg1]; rfl
    generalize hye:(ae b)[k]=y at *;obtain ⟨yp,ycap,hry,hys⟩:=dQ hyr;rw[hry] at hgy0;have hgy:=hgy0;have hyf:=hbf y hym;have hyd:=r9 hyf;have hyo:=gg hyf;have hyfd:=jM hyf;have hlenr:=hrcs2.length;have hbnd:(i:Int) * rb.length≤4000:=by
     have h1:(i:Int) * rb.length≤(ra.length:Int) * rb.length:=Int.mul_le_mul_of_nonneg_right oM oM;rw[eal,ebl] at hsz;omega
    have hbnd0:0≤(i:Int) * rb.length:=Int.mul_nonneg oM oM;have hrcl:rcs2.length≤4000:=by
     have h1:rcs2.length=i * rb.length+k:=by
      rw[← hlenr,ze1,ze2,zd9,fI,zd9,← ebl];rw[Nat.min_eq_left oM,Nat.min_eq_left oM]
     have h2:i * rb.length+k≤ra.length * rb.length:=by
      have h3:(i+1) * rb.length≤ra.length * rb.length:=Nat.mul_le_mul_right _ oM;rw[Nat.succ_mul] at h3;omega
     have h4:((ra.length * rb.length:Nat):Int)≤4000:=by rw[eal,ebl] at hsz; rw[Int.natCast_mul]; exact hsz
     omega
    have hid:aO (ae a) (ae b) x.id y.id=(i:Int) * rb.length+k+1:=by unfold aO; rw[hxi,hyi,ebl]
    have hra6:=hra.mono (hle5.trans hle6);have hrb6:=hrb.mono (hle5.trans hle6);have hxs6:=hxs.mono (hle5.trans hle6);have hys6:=hys.mono (hle5.trans hle6);refine kP (tN (sQ (bK (sQ ?_))));refine dW [] [(0,2),(1,2),(2,2),(3,2),(4,2),(5,2),(6,2),(7,2),(8,2),(9,2),(10,1),(11,2),(12,2),(13,2),(14,2),(15,1),(16,2),(17,2),(18,0),(19,0)] zd8 kR ?_;refine yM I (yM I (pU I (SU.mul I I oM) (yM I (pU I (aD I I oM) (pU I (aD I I oM) (yM I (yM I (pU I (iA aN aC I I hb1 oM sL) (pU I (fC am I zT3 I hb1) (pK I (aZ (e:=encCell) (o:=1) (u:=vi x.dim) iT3 I hra6.rd hgx I) (yM I (yM I (pU I (iA aN aC I I hb2 oM sL) (pU I (fC am I zT3 I hb2) (pK I (aZ (e:=encCell) (o:=1) (u:=vi y.dim) iT3 I hrb6.rd hgy I) (pU I (aD I I oM) (pU I (za1 I (buildC63 _ _)) (SP.o I (aL zk8) dC (.inr iR) ?_))))))))))))))))));rintro _ _ _ ⟨b13,rfl,rfl,rfl⟩;refine SP.on I (sK 0 aC I I I I I sB) (.inr iR) ?_;rintro _ _ _ ⟨rfl,rfl⟩;refine pN (tN (sQ (rZ (aT I (bK ?_)))));refine SC.to (fun w hw=>?_) (g':=g6) (s':=pt b13 (.cells #[vi (aO (ae a) (ae b) x.id y.id),vi (x.dim+y.dim),.slice none 0 0] 63 (0,0))::rowA encCell 63 ov2 rcs2::pt b10 (.cells #[ov2] 30 (0,0))::pt b4 (.cells #[.slice none 0 0] 30 (0,0))::pt b3 (.cells #[u] 30 (0,0))::pt b2 (.cells #[v] 30 (0,0))::s) ?_
    ·rw[hid]; exact hw
    refine zb4 87 2 ?_;refine oP (ι:=Value×Nat) (fun j=>[(2,pp b2 0),(3,pp b3 0),(4,pp b4 0),(7,.slice pa ra.length ca),(8,.slice pb rb.length cb),(9,vi rb.length),(10,pp b10 0),(11,vi i),(12,vi k),(13,pp b13 0),(14,vi j.2)]) (fun _=>g6)
     (fun j=>rowA encSide 87 j.1 ((x.sides.take j.2).map fun q=>(⟨aO (ae a) (ae b) q.cell y.id,q.sign⟩:aj))::pt b13 (.cells #[vi (aO (ae a) (ae b) x.id y.id),vi (x.dim+y.dim),j.1] 63 (0,0))::rowA encCell 63 ov2 rcs2::pt b10 (.cells #[ov2] 30 (0,0))::pt b4 (.cells #[.slice none 0 0] 30 (0,0))::pt b3 (.cells #[u] 30 (0,0))::pt b2 (.cells #[v] 30 (0,0))::s)
     (fun j=>j.2≤x.sides.length) (fun j=>x.sides.length - j.2) (.slice none 0 0,0) sB rfl rfl (zf2 _) ?_
    rintro ⟨sv,j⟩ hj;dsimp only at hj ⊢;refine sQ (sW I (lM I (lM I (lU (iA aN aC I I hb1 oM sL) (lU (fC am I a7 I hb1) (lK (aZ (e:=encCell) (o:=2) (u:=.slice xp x.sides.length xcap) bT I hra6.rd hgx I) (lU (eN bJ I) (yL I (tZ ?_)))))))));refine iP I (fun hlt3=>?_) (fun hlt3=>?_)
    ·have hjl:j<x.sides.length:=oM;have hb3:=hxs6.based oM;have hjx:x.sides[((j:Nat):Int).toNat]?=some x.sides[j]:=gE hjl;have htj:(x.sides.take (j+1)).map (fun q=>(⟨aO (ae a) (ae b) q.cell y.id,q.sign⟩:aj))=(x.sides.take j).map (fun q=>(⟨aO (ae a) (ae b) q.cell y.id,q.sign⟩:aj))++[⟨aO (ae a) (ae b) x.sides[j].cell y.id,x.sides[j].sign⟩]:=by rw[tS hjl,zg1]; rfl
     have hqf:=hxfd _ (gM hjl);generalize x.sides[j]=z at *;have hatz:=sC hats hqf;have hlbz:=yq ((ae a).map Cl.id) z.cell;rw[ze2] at hlbz;have hidz:aO (ae a) (ae b) z.cell y.id=((lbI ((ae a).map Cl.id) z.cell:Nat):Int) * rb.length+k+1:=by unfold aO; rw[hyi,ebl]
     have hbz:((lbI ((ae a).map Cl.id) z.cell:Nat):Int) * rb.length≤4000:=by
      have h1:((lbI ((ae a).map Cl.id) z.cell:Nat):Int) * rb.length≤(ra.length:Int) * rb.length:=Int.mul_le_mul_of_nonneg_right oM oM;rw[eal,ebl] at hsz;omega
     have hbz0:0≤((lbI ((ae a).map Cl.id) z.cell:Nat):Int) * rb.length:=Int.mul_nonneg oM oM;refine kP (tN (sQ (bK (sW I (lM I (lU (iA aN aC I I hb1 oM sL) (lU (fC am I a7 I hb1) (lK (aZ (e:=encCell) (o:=2) (u:=.slice xp x.sides.length xcap) bT I hra6.rd hgx I) (lM I (lU (iA bJ bI I I hb3 oM sL) (lK (eA lV bI I hxs6.rd hjx) (bW (aL zk7) fun b15=>?_))))))))))));refine oZ (sK 0 bI I I I I I sB) ?_;refine tZ ?_;refine SC.to (fun w hw=>hw) (g':=g6) (s':=pt b15 (.cells #[vi z.cell,vi z.sign] 87 (0,0))::rowA encSide 87 sv ((x.sides.take j).map fun q=>(⟨aO (ae a) (ae b) q.cell y.id,q.sign⟩:aj))::pt b13 (.cells #[vi (aO (ae a) (ae b) x.id y.id),vi (x.dim+y.dim),sv] 63 (0,0))::rowA encCell 63 ov2 rcs2::pt b10 (.cells #[ov2] 30 (0,0))::pt b4 (.cells #[.slice none 0 0] 30 (0,0))::pt b3 (.cells #[u] 30 (0,0))::pt b2 (.cells #[v] 30 (0,0))::s) ?_;refine dW [15,16,17] [(0,2),(1,1),(2,2),(3,2),(4,1),(6,2),(8,2),(11,2),(12,1),(5,0),(7,2),(9,2),(10,2),(13,2),(14,0),(15,0),(16,0),(17,0)] zd8 kR ?_;refine pU I (fA am I a7 I) (pK I (qL (v:=sv) bT I (cO 2 I I)) (yM I (pU I (fA cQ I zT3 I) (pK I (qL (v:=vi z.cell) iT3 I (cO 0 I I)) (yM I (yM I (pU I (fA cQ I zT3 I) (pK I (qL (v:=vi z.sign) iT3 I (cO 0 I I)) (SP.o I (cL call62 I (ia E g6 _ _ (ae a) z.cell (hCa.mono (hle5.trans hle6)) oM hats)) dC (.inr iR) ?_)))))))));rintro _ _ _ ⟨rfl,rfl,rfl⟩;rw[hatz];refine pU I (SU.mul I I oM) (pU I (aD I I oM) (pU I (SU.eq (v':=vi (aO (ae a) (ae b) z.cell y.id)) (aD I I oM) (zd7 vi hidz.symm)) (pU I (za1 I (buildS87 _ _)) (SP.o I (bS sty61 I I I (ab sB) dC) dC (.inr iR) ?_))));rintro _ _ _ ⟨b105,rfl,rfl,rfl⟩;refine SP.o I (aP (e:=encSide) 1 ⟨aO (ae a) (ae b) z.cell y.id,z.sign⟩ sty61 I I I I I (by simp; omega) (by simp; omega)) dC (.inl dC) ?_;rintro sv' _ _ ⟨rfl,rfl⟩;rw[← htj];refine zc7 fun ⟨w0,hw0⟩=>?_;obtain ⟨q6,d6,rfl⟩:=ag (i:=1) hw0 rfl;clear hw0 w0;refine oU rfl (fA am rfl a7 rfl) dC (.inl dC) (SP.on rfl (SO.store1 2 a7 rfl rfl rfl rfl (bE rfl) (by rfl)) (.inl dC) ?_);rintro _ _ _ ⟨rfl,rfl⟩;refine pN (bN (tN (rG (lM I (yD I (lA I (nL (dR (s':=rowA encSide 87 (.slice q6 ((x.sides.take (j+1)).map fun q=>(⟨aO (ae a) (ae b) q.cell y.id,q.sign⟩:aj)).length d6) ((x.sides.take (j+1)).map fun q=>(⟨aO (ae a) (ae b) q.cell y.id,q.sign⟩:aj))::pt b13 (.cells #[vi (aO (ae a) (ae b) x.id y.id),vi (x.dim+y.dim),.slice q6 ((x.sides.take (j+1)).map fun q=>(⟨aO (ae a) (ae b) q.cell y.id,q.sign⟩:aj)).length d6] 63 (0,0))::rowA encCell 63 ov2 rcs2::pt b10 (.cells #[ov2] 30 (0,0))::pt b4 (.cells #[.slice none 0 0] 30 (0,0))::pt b3 (.cells #[u] 30 (0,0))::pt b2 (.cells #[v] 30 (0,0))::s) (.cons _ (.refl _)) ?_))))))));exact gA (_,j+1) sB I I lN lN
    ·have hjj:x.sides.take j=x.sides:=tL oM;rw[hjj];generalize hfl1:x.sides.map (fun q=>(⟨aO (ae a) (ae b) q.cell y.id,q.sign⟩:aj))=fl1 at *;have hfl1l:fl1.length=x.sides.length:=by rw[← hfl1,ze2]
     refine xI (tX (tX (bX (tN (sQ (rZ (aT I (bK ?_))))))));refine oP (ι:=Value×Nat) (fun m=>[(2,pp b2 0),(3,pp b3 0),(4,pp b4 0),(7,.slice pa ra.length ca),(8,.slice pb rb.length cb),(9,vi rb.length),(10,pp b10 0),(11,vi i),(12,vi k),(13,pp b13 0),(16,vi m.2)]) (fun _=>g6)
      (fun m=>rowA encSide 87 m.1 (fl1++(y.sides.take m.2).map fun q=>(⟨aO (ae a) (ae b) x.id q.cell,bV x.dim * q.sign⟩:aj))::pt b13 (.cells #[vi (aO (ae a) (ae b) x.id y.id),vi (x.dim+y.dim),m.1] 63 (0,0))::rowA encCell 63 ov2 rcs2::pt b10 (.cells #[ov2] 30 (0,0))::pt b4 (.cells #[.slice none 0 0] 30 (0,0))::pt b3 (.cells #[u] 30 (0,0))::pt b2 (.cells #[v] 30 (0,0))::s)
      (fun m=>m.2≤y.sides.length) (fun m=>y.sides.length - m.2) (sv,0) sB rfl (by simp) (zf2 _) ?_
     rintro ⟨sv2,m⟩ hm;dsimp only at hm ⊢;refine sQ (sW I (lM I (lM I (lU (iA aN aC I I hb2 oM sL) (lU (fC am I a7 I hb2) (lK (aZ (e:=encCell) (o:=2) (u:=.slice yp y.sides.length ycap) bT I hrb6.rd hgy I) (lU (eN bJ I) (yL I (tZ ?_)))))))));refine iP I (fun hlt4=>?_) (fun hlt4=>?_)
     ·have hml:m<y.sides.length:=oM;have hb3:=hys6.based oM;have hmx:y.sides[((m:Nat):Int).toNat]?=some y.sides[m]:=gE hml;have htm:fl1++(y.sides.take (m+1)).map (fun q=>(⟨aO (ae a) (ae b) x.id q.cell,bV x.dim * q.sign⟩:aj))=fl1++(y.sides.take m).map (fun q=>(⟨aO (ae a) (ae b) x.id q.cell,bV x.dim * q.sign⟩:aj))++[⟨aO (ae a) (ae b) x.id y.sides[m].cell,bV x.dim * y.sides[m].sign⟩]:=by rw[tS hml,zg1]; simp
      have hqf:=hyfd _ (gM hml);have hqs:=hyo.2 _ (gM hml);generalize y.sides[m]=z at *;have hatz:=sC hbts hqf;have hlbz:=yq ((ae b).map Cl.id) z.cell;rw[ze2] at hlbz;have hidz:aO (ae a) (ae b) x.id z.cell=(i:Int) * rb.length+((lbI ((ae b).map Cl.id) z.cell:Nat):Int)+1:=by unfold aO; rw[hxi,ebl]
      have hsgn:z.sign * bV x.dim=bV x.dim * z.sign:=Int.mul_comm _ _;have hsgc:=qA x.dim;have htmod:x.dim.tmod 2=x.dim % 2:=Int.tmod_eq_emod_of_nonneg hxd.1;have hmulb : -1≤z.sign * bV x.dim∧z.sign * bV x.dim≤1:=by rcases hqs with h | h <;> rcases hsgc with h2 | h2 <;> rw[h,h2] <;> decide
      refine kP (tN (sQ (bK (sW I (lM I (lU (iA aN aC I I hb2 oM sL) (lU (fC am I a7 I hb2) (lK (aZ (e:=encCell) (o:=2) (u:=.slice yp y.sides.length ycap) bT I hrb6.rd hgy I) (lM I (lU (iA bJ bI I I hb3 oM sL) (lK (eA lV bI I hys6.rd hmx) (bW (aL zk7) fun b17=>?_))))))))))));refine oZ (sK 0 bI I I I I I sB) ?_;refine tZ ?_;refine SC.to (fun w hw=>hw) (g':=g6) (s':=pt b17 (.cells #[vi z.cell,vi z.sign] 87 (0,0))::rowA encSide 87 sv2 (fl1++(y.sides.take m).map fun q=>(⟨aO (ae a) (ae b) x.id q.cell,bV x.dim * q.sign⟩:aj))::pt b13 (.cells #[vi (aO (ae a) (ae b) x.id y.id),vi (x.dim+y.dim),sv2] 63 (0,0))::rowA encCell 63 ov2 rcs2::pt b10 (.cells #[ov2] 30 (0,0))::pt b4 (.cells #[.slice none 0 0] 30 (0,0))::pt b3 (.cells #[u] 30 (0,0))::pt b2 (.cells #[v] 30 (0,0))::s) ?_;refine dW [24,25,26] [(0,2),(1,1),(2,2),(3,2),(4,2),(5,2),(6,2),(7,1),(11,2),(12,1),(13,2),(14,2),(15,2),(16,2),(17,1),(18,2),(19,2),(20,2),(21,2),(8,0),(9,2),(10,2),(22,2),(23,0),(24,0),(25,0),(26,0)] zd8 kR ?_;refine pU I (fA am I a7 I) (pK I (qL (v:=sv2) bT I (cO 2 I I)) (yM I (yM I (pU I (SU.mul I I oM) (yM I (pU I (fA cQ I zT3 I) (pK I (qL (v:=vi z.cell) iT3 I (cO 0 I I)) (pU I (fA cQ I zT3 I) (pK I (qL (v:=vi z.sign) iT3 I (cO 0 I I)) (yM I (yM I (pU I (iA aN aC I I hb1 oM sL) (pU I (fC am I zT3 I hb1) (pK I (aZ (e:=encCell) (o:=1) (u:=vi x.dim) iT3 I hra6.rd hgx I) (pU I (SU.eq (v':=vi (x.dim % 2)) (zd4 I I dC) (zd7 vi htmod)) (pU I (SU.mul I I oM) (pU I (SU.eq (v':=vi (bV x.dim)) (sU I I oM) I) (pU I (SU.eq (v':=vi (bV x.dim * z.sign)) (SU.mul I I oM) (zd7 vi hsgn)) (SP.o I (cL call62 I (ia E g6 _ _ (ae b) z.cell (hCb.mono (hle5.trans hle6)) oM hbts)) dC (.inr iR) ?_)))))))))))))))))));rintro _ _ _ ⟨rfl,rfl,rfl⟩;rw[hatz];refine pU I (aD I I oM) (pU I (SU.eq (v':=vi (aO (ae a) (ae b) x.id z.cell)) (aD I I oM) (zd7 vi hidz.symm)) (pU I (za1 I (buildS87 _ _)) (SP.o I (bS sty61 I I I (ab sB) dC) dC (.inr iR) ?_)));rintro _ _ _ ⟨b149,rfl,rfl,rfl⟩;refine SP.o I (aP (e:=encSide) 1 ⟨aO (ae a) (ae b) x.id z.cell,bV x.dim * z.sign⟩ sty61 I I I I I (by simp; omega) (by simp; omega)) dC (.inl dC) ?_;rintro sv3 _ _ ⟨rfl,rfl⟩;rw[← htm];refine zc7 fun ⟨w0,hw0⟩=>?_;obtain ⟨q7,d7,rfl⟩:=ag (i:=1) hw0 rfl;clear hw0 w0;refine oU rfl (fA am rfl a7 rfl) dC (.inl dC) (SP.on rfl (SO.store1 2 a7 rfl rfl rfl rfl (bE rfl) (by rfl)) (.inl dC) ?_);rintro _ _ _ ⟨rfl,rfl⟩;refine pN (bN (tN (rG (lM I (yD I (lA I (nL (dR (s':=rowA encSide 87 (.slice q7 (fl1++(y.sides.take (m+1)).map fun q=>(⟨aO (ae a) (ae b) x.id q.cell,bV x.dim * q.sign⟩:aj)).length d7) (fl1++(y.sides.take (m+1)).map fun q=>(⟨aO (ae a) (ae b) x.id q.cell,bV x.dim * q.sign⟩:aj))::pt b13 (.cells #[vi (aO (ae a) (ae b) x.id y.id),vi (x.dim+y.dim),.slice q7 (fl1++(y.sides.take (m+1)).map fun q=>(⟨aO (ae a) (ae b) x.id q.cell,bV x.dim * q.sign⟩:aj)).length d7] 63 (0,0))::rowA encCell 63 ov2 rcs2::pt b10 (.cells #[ov2] 30 (0,0))::pt b4 (.cells #[.slice none 0 0] 30 (0,0))::pt b3 (.cells #[u] 30 (0,0))::pt b2 (.cells #[v] 30 (0,0))::s) (.cons _ (.refl _)) ?_))))))));exact gA (_,m+1) sB I I lN lN
     ·have hmm:y.sides.take m=y.sides:=tL oM;rw[hmm];have hpc:cB (ae a) (ae b) x y=⟨aO (ae a) (ae b) x.id y.id,x.dim+y.dim,fl1++y.sides.map fun q=>(⟨aO (ae a) (ae b) x.id q.cell,bV x.dim * q.sign⟩:aj)⟩:=by unfold cB; rw[hfl1]
      generalize hfl2:(fl1++y.sides.map fun q=>(⟨aO (ae a) (ae b) x.id q.cell,bV x.dim * q.sign⟩:aj))=fl2 at *;refine xI (tX (tX (bX (tN (rG (fR fun g7 hle7 hs7=>?_))))));have hsd:SlA encSide g7 sv2 fl2:=hs7;obtain ⟨q8,d8,rfl⟩:=za2 hsd;obtain ⟨nc,hnc⟩:∃ nc:Rc,nc=⟨aO (ae a) (ae b) x.id y.id,x.dim+y.dim,⟨q8,fl2.length,d8⟩⟩:=⟨_,rfl⟩;refine lU (fA cJ I bQ I) (lK (qL dI I (cO 2 I I)) (lK (qV 0 eL aC I I I) (lW (bS sty28 I I I (ab sB) dC) ?_)));rintro _ _ _ ⟨b155,rfl,rfl,rfl⟩;refine lW (aP (e:=encCell) 1 nc sty28 I I I I (by rw[hnc]; rfl) oM oM) ?_;rintro v156 _ _ ⟨rfl,rfl⟩;refine zc8 fun ⟨w0,hw0⟩=>?_;obtain ⟨q9,d9,rfl⟩:=ag (i:=1) hw0 rfl;clear hw0 w0;refine lU (fA cJ I bQ I) (oZ (sK 2 bQ I I I I I sB) ?_);refine nL (bN (tN (rG (lM I (yD I (lA I (nL (dR (s':=rowA encCell 63 (.slice q9 (rcs2++[nc]).length d9) (rcs2++[nc])::pt b10 (.cells #[(.slice q9 (rcs2++[nc]).length d9)] 30 (0,0))::pt b4 (.cells #[.slice none 0 0] 30 (0,0))::pt b3 (.cells #[u] 30 (0,0))::pt b2 (.cells #[v] 30 (0,0))::s) (.cons _ (.refl _)) ?_))))))));refine gA (g7,_,rcs2++[nc],k+1) sB I I ⟨hle6.trans hle7,lN,?_⟩ lN;dsimp only;rw[htk,← zg4];exact (hrcs2.mono fun _ _=>ao.mono hle7).append ⟨(by rw[hpc,hnc]; exact⟨I,I,hsd⟩),trivial⟩
   ·have hkk:(ae b).take k=ae b:=tL oM;rw[hkk] at hrcs2;refine xI (tX (tX (bX (bN (tN (rG (lM I (yD I (lA I (nL ?_))))))))));exact gA (g6,ov2,rcs2,i+1) sB I I ⟨hle5.trans hle6,lN,by dsimp only; rw[hsucc]; exact hrcs2⟩ lN
  ·have hii:(ae a).take i=ae a:=tL oM;rw[hii,← hprod] at hrcs;have hpl:(cm a b).length≤4000:=by
    rw[hprod,fI];have h4:(((ae a).length * (ae b).length:Nat):Int)≤4000:=by rw[Int.natCast_mul]; exact hsz
    omega
   have hfit:di (cm a b):=by
    refine⟨oM,fun c hc=>?_⟩;rw[hprod] at hc;obtain ⟨x,hx,hc⟩:=List.mem_flatMap.1 hc;obtain ⟨y,hy,rfl⟩:=ze7.1 hc;have h1:=(gg (haf x hx)).1;have h2:=(gg (hbf y hy)).1;simp[cB];omega
   refine xI (tX (tX (bX (tN (sQ (fS fun g6 hle6 hs6=>?_))))));have hov:au g6 ov (cm a b):=⟨rcs,hs6,hrcs.mono fun _ _=>ao.mono hle6⟩;refine rG (lK (qV 0 bh az I I I) (lW (cL call40 I (fU E g6 _ _ (cm a b) hov hfit)) ?_));rintro _ g7 _ ⟨rfl,rfl,hle7⟩;refine aT I (sQ (sW I (lU (SU.notP I) (tZ ?_))));refine iP I (fun hr=>?_) (fun hr=>?_)
   ·refine rZ (lU (za1 I (buildE30)) (oZ (sK 1 az I I I I I sB) ?_));refine tZ (rE (tR ?_));exact ST.retCD 1 s (.inl I) results57 I bh az I I uR ⟨I,hle1.trans (hle2.trans (hle3.trans (hle4.trans (hle5.trans (hle6.trans hle7))))),_,I,by unfold bH; rw[zf5 (by rw[hbad]; simp),zf5 hr]; exact⟨[],zb8 _ _,trivial⟩⟩
   ·refine kP (tN (rZ (lK (qV 0 bh az I I I) (lW (cL call75 I (ey E g7 _ _ (cm a b) (hov.mono hle7) hfit)) ?_))));rintro _ g8 _ ⟨rfl,hle8,x8,rfl,hx8⟩;obtain ⟨q8,d8,rfl⟩:=hx8.form;refine oZ (sK 1 az I I I I I sB) ?_;refine tZ (rE ?_);exact ST.retCD 1 s (.inl I) results57 I bh az I I uR ⟨I,hle1.trans (hle2.trans (hle3.trans (hle4.trans (hle5.trans (hle6.trans (hle7.trans hle8)))))),_,I,by unfold bH; rw[zf5 (by rw[hbad]; simp),zf6 (zg5 hr)]; exact hx8⟩
end Go.Proofs.YtcfkpajlakidbaaGreat
namespace Go.Sy
open Go
section
variable {P:Program}{N:Nat}{E:World}{ops:Array Oper}{Q:Exit→Act→World→Prop}{g0:PH}{s0:Own}{tail:List Nat}{f:Fr}{g g':PH}{s s':Own}{L:Array Bool}{n:Nat}
theorem SX.to (h:∀ w,At E g s w→At E g' s' w)(hc:SX P N E ops Q g0 s0 tail L n f g' s'):SX P N E ops Q g0 s0 tail L n f g s:=fun a w h1 hcl ha hw hb=>hc a w h1 hcl ha (h w hw) hb
theorem SX.facts (h:(∃ w,At E g s w)→SX P N E ops Q g0 s0 tail L n f g s):SX P N E ops Q g0 s0 tail L n f g s:=fun a w h1 hcl ha hw hb=>h ⟨w,hw⟩ a w h1 hcl ha hw hb
theorem SX.freezeRow {T:TypeId}{k m:Nat}{v:Value}{xs:List Value}(h:∀ g',Le g g'→Sl g' k v m xs→SX P N E ops Q g0 s0 tail L n f g' s):SX P N E ops Q g0 s0 tail L n f g (row T k v m xs::s):=fun a w h1 hcl ha hw hb=>by
 obtain ⟨g',h3,h4,h5⟩:=hw.freezeRow;exact h g' h3 h5 a w h1 hcl ha h4 hb
end
end Go.Sy
namespace Go.Sy
open Go
section
variable {P:Program}{N:Nat}{E:World}{ops:Array Oper}{Q:Exit→Act→World→Prop}{g0 g g':PH}{s0 s s':Own}{tail:List Nat}{L:Array Bool}{n:Nat}{f:Fr}
theorem SX.freeze {b:Nat}{o:Obj}(h:∀ g',Le g g'→g' b=some o→SX P N E ops Q g0 s0 tail L n f g' s):SX P N E ops Q g0 s0 tail L n f g (pt b o::s):=fun a w h1 hcl ha hw hb=>by
 have ho:w.heap[b]?=some o:=by have:=hw.own (pt b o) (by simp); simpa [pt] using this
 obtain ⟨h3,h4⟩:=hw.freeze (b:=b) rfl ho;exact h _ h4 (ef _ _ _) a w h1 hcl ha h3 hb
end
end Go.Sy
namespace Go.Proofs.YtcfkpajlakidbaaGreat
open _root_.Go.Proofs.Tryz _root_.Go.Proofs.YtcfkpajlakidbaaGreat.Tryz
open Go Go.Sy Go.Pl Go.Proofs
set_option maxRecDepth 100000
def kQ (ls:List (List Int)):List (List Int):=(ls.take 5).map fun l=>(l.take 4).map fun x=>aG x 7
theorem ez {α β:Type}{l:List α}{i:Nat}(h:i<l.length)(f:α→β):(l.take (i+1)).map f=(l.take i).map f++[f l[i]]:=by
 rw[tS h,zg1]; rfl
theorem jk (E:World)(g:PH)(s:Own)(v:Value)(ls:List (List Int))(hv:aI g v ls) :
  Ctr Tryz.prog E 55 #[v] g s (fun r g' s'=>∃ rs,s'=rowA bq 25 r rs::s∧Le g g'∧ar (bC g') (kQ ls) rs):=by
 obtain ⟨rs0,hrs0,hall0⟩:=hv;have hlen0:=hall0.length;obtain ⟨p,c,rfl⟩:=za2 hrs0;refine za9 (args:=[.slice p rs0.length c]) func55 I ntmps55 (bE I) ?_;refine rZ (aT I (rZ (aT I (sQ (rZ (aT I (bK (zb4 25 1 ?_))))))));refine oP (ι:=PH×Value×List Sv×Nat) (fun i=>[(0,.slice p rs0.length c),(2,.slice none 0 0),(3,i.2.1),(4,vi i.2.2.2)]) (fun i=>i.1)
  (fun i=>rowA bq 25 i.2.1 i.2.2.1::s)
  (fun i=>Le g i.1∧i.2.2.2≤rs0.length∧i.2.2.2≤5∧ar (bC i.1) ((ls.take i.2.2.2).map fun l=>(l.take 4).map fun x=>aG x 7) i.2.2.1) (fun i=>rs0.length - i.2.2.2)
  (g,.slice none 0 0,[],0) sB rfl rfl ⟨zb7 g,zf2 _,zf2 _,trivial⟩ ?_
 rintro ⟨g1,ov,rs,i⟩ ⟨hle,hi,hi5,hrs⟩;dsimp only at hle hi hi5 hrs ⊢;have hrl:=hrs.length;rw[ze2,zd9] at hrl;have f1:(i:Int)<(rs0.length:Int)→(decide ((i:Int)<(rs0.length:Int))&&decide ((i:Int)<5))=decide ((i:Int)<5):=fun h=>by simp[h]
 have f2:¬ (i:Int)<(rs0.length:Int)→(decide ((i:Int)<(rs0.length:Int))&&decide ((i:Int)<5))=false:=fun h=>by simp only[h,decide_false,Bool.false_and]
 refine sQ ?_;refine SC.cutB 14 ((decide ((i:Int)<(rs0.length:Int))&&decide ((i:Int)<5))) ?_ ?_
 ·refine rG (lM I (lM I (lU (eN bL I) (yL I (lM I ?_)))));refine sP ?_ ?_
  ·intro h11;refine yC I (lY I I I (lS I I) (yP I (nL ?_)));exact za8 (by (rw[f1 h11]; rfl)) mI
  ·intro h11;refine yA I (yA I (yF I (nL ?_)));exact za8 (by (rw[f2 h11]; rfl)) mI
 refine iQ I (fun hc=>?_) (fun hc=>?_)
 ·rw[zi6,zi9,zi9] at hc;have hil:i<ls.length:=oM;have hir:i<rs0.length:=oM;have hb1:=hrs0.based oM;have hR:=(hall0.get (gE hil) (gE hir)).mono hle;have hRl:=hR.len;have hsucc:=ez hil fun l=>(l.take 4).map fun x=>aG x 7;generalize hx:ls[i]=x at *;generalize hr:rs0[i]=r at *;obtain ⟨rp,rn,rc⟩:=r;dsimp only at hRl;subst hRl;have hxs:bU g1 (.slice rp x.length rc) x:=hR;have hgr:rs0[((i:Nat):Int).toNat]?=some ⟨rp,x.length,rc⟩:=by rw[← hr]; exact gE hir
  refine kP (tN (sQ (bK (rZ (aT I (sQ (rZ (aT I (bK (zb4 3 1 ?_))))))))));refine oP (ι:=Value×Nat) (fun k=>[(0,.slice p rs0.length c),(2,.slice none 0 0),(3,ov),(4,vi i),(5,k.1),(6,vi k.2)]) (fun _=>g1)
   (fun k=>rowA encInt 3 k.1 ((x.take k.2).map fun x=>aG x 7)::rowA bq 25 ov rs::s)
   (fun k=>k.2≤x.length∧k.2≤4) (fun k=>x.length - k.2) (.slice none 0 0,0) sB rfl rfl ⟨zf2 _,zf2 _⟩ ?_
  rintro ⟨iv,k⟩ ⟨hk,hk4⟩;dsimp only at hk hk4 ⊢;have f3:(k:Int)<(x.length:Int)→(decide ((k:Int)<(x.length:Int))&&decide ((k:Int)<4))=decide ((k:Int)<4):=fun h=>by simp[h]
  have f4:¬ (k:Int)<(x.length:Int)→(decide ((k:Int)<(x.length:Int))&&decide ((k:Int)<4))=false:=fun h=>by simp only[h,decide_false,Bool.false_and]
  refine sQ ?_;refine SC.cutB 27 ((decide ((k:Int)<(x.length:Int))&&decide ((k:Int)<4))) ?_ ?_
  ·refine rG (lM I (lM I (lM I (lU (iA bL ci I I hb1 oM sL) (lK (eB (u:=.slice rp x.length rc) dF I (hrs0.mono hle).rd hgr I) (lU (eN ak I) (yL I (lM I ?_))))))));refine sP ?_ ?_
   ·intro h24;refine yC I (lY I I I (lS I I) (yP I (nL ?_)));exact za8 (by (rw[f3 h24]; rfl)) mI
   ·intro h24;refine yA I (yA I (yF I (nL ?_)));exact za8 (by (rw[f4 h24]; rfl)) mI
  refine iQ I (fun hc2=>?_) (fun hc2=>?_)
  ·rw[zi6,zi9,zi9] at hc2;have hkl:k<x.length:=oM;have hb2:=za4 hxs oM;have hks:=ez hkl fun x=>aG x 7;have hgk:x[((k:Nat):Int).toNat]?=some x[k]:=gE hkl;generalize x[k]=y at *;refine kP (tN (sQ (bK (rG (lM I (lM I (lM I (lU (iA bL ci I I hb1 oM sL) (lK (eB (u:=.slice rp x.length rc) dF I (hrs0.mono hle).rd hgr I) (lM I (lU (iA ak zT3 I I hb2 oM sL) (lK (eB iT3 I (za5 hxs) hgk I) (lW (cL dn I (ai E g1 _ y 7 dC)) ?_)))))))))))));rintro _ _ _ ⟨rfl,rfl,rfl⟩;refine lW (bS sty25 I I I (ab sB) dC) ?_;rintro _ _ _ ⟨b39,rfl,rfl,rfl⟩;refine lW (aP (e:=encInt) 0 (aG y 7) sty25 I I I I I (by rw[ze2,zd9]; omega) (by rw[ze2,zd9]; omega)) ?_;rintro iv' _ _ ⟨rfl,rfl⟩;refine lA I (nL (bN (tN (rG (lM I (yD I (lA I (nL ?_))))))));refine ST.to (fun w hw=>?_) (g':=g1) (s':=rowA encInt 3 iv' ((x.take (k+1)).map fun x=>aG x 7)::rowA bq 25 ov rs::s) ?_
   ·rw[hks]; exact hw
   exact gA (iv',k+1) sB I I ⟨lN,lN⟩ lN
  ·have hxk:x.take k=x.take 4:=by
    rw[Bool.and_eq_false_iff,decide_eq_false_iff_not,decide_eq_false_iff_not] at hc2;by_cases h4:k=4
    ·rw[h4]
    ·rw[tL oM,tL oM]
   rw[hxk];refine xI (tX (tX (bX (tN (fS fun g2 hle2 hs2=>?_)))));have hiv:bU g2 iv ((x.take 4).map fun x=>aG x 7):=hs2;obtain ⟨q2,d2,rfl⟩:=za2 hiv;obtain ⟨nl,hnl⟩:∃ nl,nl=((x.take 4).map fun x=>aG x 7).length:=⟨_,rfl⟩;refine rG (lM I (lM I (lW (bS sty22 I I I (ab sB) dC) ?_)));rintro _ _ _ ⟨b43,rfl,rfl,rfl⟩;refine lW (aP (e:=bq) 0 ⟨q2,((x.take 4).map fun x=>aG x 7).length,d2⟩ sty22 I I I I I oM oM) ?_;rintro ov' _ _ ⟨rfl,rfl⟩;refine lA I (nL (bN (tN (rG (lM I (yD I (lA I (nL ?_))))))));refine gA (g2,ov',rs++[⟨q2,((x.take 4).map fun x=>aG x 7).length,d2⟩],i+1) sB I I ⟨hle.trans hle2,lN,lN,?_⟩ lN;dsimp only;rw[hsucc];exact (hrs.mono fun _ _=>bC.mono hle2).append ⟨hiv,trivial⟩
 ·have hls:ls.take i=ls.take 5:=by
   rw[Bool.and_eq_false_iff,decide_eq_false_iff_not,decide_eq_false_iff_not] at hc;by_cases h5:i=5
   ·rw[h5]
   ·rw[tL oM,tL oM]
  rw[hls] at hrs;refine xI (tX (tX (bX (tN (sW I (aT I (rE ?_)))))));exact za6 (.inl I) results55 I ⟨rs,I,hle,hrs⟩
def dh (id k:Int):Int:=if k=1 then id else IntKind.i64.wrap ((IntKind.i64.wrap (id * k)).tmod 211+1)
theorem gV (E:World)(g:PH)(s:Own)(a k:Int):Ctr Tryz.prog E 94 #[vi a,vi k] g s
  (fun r g' s'=>r=vi (dh a k)∧g=g'∧s=s'):=by
 refine za9 (args:=[vi a,vi k]) func94 I ntmps94 (bE I) ?_;refine rZ (aT I (sQ (sW I (yE I (tZ ?_)))));refine iP I (fun h1=>?_) (fun h1=>?_)
 ·refine sW I (aT I (rE (tR ?_)));exact za6 (.inl I) results94 I ⟨by simp[dh,h1],I,I⟩
 ·refine kP (tN (sW I (lM I (lU (SU.mulW I I) (lU (zd4 I I dC) (lU (zd6 I I) (aT I (rE ?_))))))));exact za6 (.inl I) results94 I ⟨by simp[dh,h1],I,I⟩
theorem lh (E:World)(g:PH)(s:Own)(a k:Int)(hk:k≠0):Ctr Tryz.prog E 95 #[vi a,vi k] g s
  (fun r g' s'=>r=vb (decide (a.tmod k=1))∧g=g'∧s=s'):=by
 refine za9 (args:=[vi a,vi k]) func95 I ntmps95 (bE I) ?_;refine rZ (aT I (sW I (lM I (lU (zd4 I I oM) (yE I (aT I (rE ?_)))))));exact za6 (.inl I) results95 I ⟨I,I,I⟩
theorem fQ:∀ (all ls:List (List Int)),all.length≤4000→(∀ x∈all,x.length≤9)→∀ r,aJ all ls=some r→r.length≤4000∧∀ x∈r,x.length≤9
 | all,[],h1,h2,r,h=>by cases h; exact⟨h1,h2⟩
 | all,t::ls,h1,h2,r,h=>by
  unfold aJ at h;split at h
  ·exact fQ all ls h1 h2 r h
  ·rename_i hb;split at h
   ·cases h
   ·rename_i hl;refine fQ _ ls oM (fun x hx=>?_) r h
    rcases iZ hx with hx | hx
    ·exact h2 x hx
    ·refine fa ?_ x hx;cases hT:bG t with
     | nil=>simp
     | cons a r =>
      rw[hT] at hb;simp only[ge,zi7,zi9,not_or] at hb;omega
theorem cV (ls:List (List Int)):di (bA ls)∧(bA ls).length≤4000:=by
 unfold bA;cases h:aJ [] ls with
 | none=>exact⟨⟨by simp,by simp⟩,by simp⟩
 | some all =>
  obtain ⟨h1,h2⟩:=fQ [] ls (by simp) (by simp) all h;have h3:(aa (aV all)).length≤4000:=by rw[aw,be]; exact h1
  exact⟨bZ (ii h1 h2),h3⟩
theorem dK (a b:List Cl):di (bH a b)∧(bH a b).length≤4000:=by
 unfold bH;split
 ·exact⟨⟨by simp,by simp⟩,by simp⟩
 ·rename_i hbad;split
  ·have ha:(aA a).2=0:=zg5 fun h=>hbad (by simp[bF,h]);have hb:(aA b).2=0:=zg5 fun h=>hbad (by simp[bF,h]);have hsz:((ae a).length:Int) * (ae b).length≤4000:=by
    refine zg5 fun h=>hbad ?_;have:((ae a).length:Int) * (ae b).length>4000:=oM;simp[bF,this]
   obtain ⟨_,_,hat,haf⟩:=cC ha;obtain ⟨_,_,hbt,hbf⟩:=cC hb;rw[← hat] at haf;rw[← hbt] at hbf;have hprod:cm a b=(ae a).flatMap fun x=>(ae b).map (cB (ae a) (ae b) x):=by unfold cm; rw[← hat,← hbt]
   have hpl:(cm a b).length≤4000:=by
    rw[hprod,fI];have h4:(((ae a).length * (ae b).length:Nat):Int)≤4000:=by rw[Int.natCast_mul]; exact hsz
    omega
   have hfit:di (cm a b):=by
    refine⟨oM,fun c hc=>?_⟩;rw[hprod] at hc;obtain ⟨x,hx,hc⟩:=List.mem_flatMap.1 hc;obtain ⟨y,hy,rfl⟩:=ze7.1 hc;have h1:=(gg (haf x hx)).1;have h2:=(gg (hbf y hy)).1;simp[cB];omega
   exact⟨bZ hfit,by rw[aw]; exact hpl⟩
  ·exact⟨⟨by simp,by simp⟩,by simp⟩
def me:List Cl:=bH (bA [[0,1],[1,2],[0,2]]) (bA [[0,1],[1,2],[0,2]])
theorem sN (E:World)(g:PH)(s:Own):Ctr Tryz.prog E 59 #[] g s (fun r g' s'=>s=s'∧Le g g'∧∃ u,r = .agg #[u]∧au g' u me):=by
 have hf:=(cV [[0,1],[1,2],[0,2]]).1;refine za9 (args:=[]) func59 I ntmps59 (bE I) ?_;refine rZ (bW (aL zk6) fun b0=>?_);refine tZ (rZ (lW (bS sty25 I I I (ab sB) dC) ?_));rintro _ _ _ ⟨b2,rfl,rfl,rfl⟩;refine zb3 fun g1 hle1 hb2=>?_;refine lW (bS sty25 I I I (ab sB) dC) ?_;rintro _ _ _ ⟨b3,rfl,rfl,rfl⟩;refine zb3 fun g2 hle2 hb3=>?_;refine lW (bS sty25 I I I (ab sB) dC) ?_;rintro _ _ _ ⟨b4,rfl,rfl,rfl⟩;refine zb3 fun g3 hle3 hb4=>?_;refine lW (bS sty22 I I I (ab sB) dC) ?_;rintro _ _ _ ⟨b5,rfl,rfl,rfl⟩;refine zb3 fun g4 hle4 hb5=>?_;have hlit:aI g4 (.slice (some ⟨b5,0,none⟩) 3 3) [[0,1],[1,2],[0,2]]:=⟨[dH (.slice (some ⟨b2,0,none⟩) 2 2),dH (.slice (some ⟨b3,0,none⟩) 2 2),dH (.slice (some ⟨b4,0,none⟩) 2 2)],SlA.lit hb5 rfl rfl,⟨SlA.lit (hle4 _ _ (hle3 _ _ (hle2 _ _ hb2))) rfl rfl,SlA.lit (hle4 _ _ (hle3 _ _ hb3)) rfl rfl,SlA.lit (hle4 _ _ hb4) rfl rfl,trivial⟩⟩;refine lW (cL call21 I (ay E g4 _ _ _ hlit dC dC)) ?_;rintro _ g5 _ ⟨rfl,hle5,u,rfl,hu⟩;obtain ⟨q,d,rfl⟩:=hu.form;refine bW (aL zk6) fun b1=>?_;refine oZ (sK 0 az I I I I I sB) ?_;refine tZ (rZ (lK (qV 0 bh az I I I) (lK (qV 0 bh az I I I) (lW (cL call57 I (dL E g5 _ _ _ _ _ hu hu hf hf)) ?_))));rintro _ g6 _ ⟨rfl,hle6,x,rfl,hx⟩;obtain ⟨q6,d6,rfl⟩:=hx.form;refine oZ (sK 1 az I I I I I sB) ?_;refine tZ (rE ?_);exact ST.retCD 1 s (.inl I) results59 I bh az I I uR ⟨I,hle1.trans (hle2.trans (hle3.trans (hle4.trans (hle5.trans hle6)))),_,I,hx⟩
theorem s6 (ls:List (List Int)):(kQ ls).length≤5∧∀ x∈kQ ls,x.length≤4:=by
 refine⟨by simp[kQ]; omega,fun x hx=>?_⟩;obtain ⟨l,_,rfl⟩:=ze7.1 hx;simp;omega
end Go.Proofs.YtcfkpajlakidbaaGreat
