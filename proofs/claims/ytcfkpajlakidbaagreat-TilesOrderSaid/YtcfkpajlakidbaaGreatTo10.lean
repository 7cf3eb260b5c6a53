/- 10 -/
import Derived.Test.YtcfkpajlakidbaaGreatTo09
import Derived.Test.YtcfkpajlakidbaaGreatTo04
import Derived.Test.YtcfkpajlakidbaaGreatTo08
import Derived.Test.YtcfkpajlakidbaaGreatTo07
import Derived.Test.YtcfkpajlakidbaaGreatTo06
import Derived.Test.YtcfkpajlakidbaaGreatTo05
import Derived.Test.YtcfkpajlakidbaaGreatTo02
import Derived.Test.YtcfkpajlakidbaaGreatTo03
import Derived.Scope
import Derived.Below
set_option linter.unusedSimpArgs false
set_option linter.unusedVariables false
namespace Go.Proofs.YtcfkpajlakidbaaGreat
open _root_.Go.Proofs.Tryz _root_.Go.Proofs.YtcfkpajlakidbaaGreat.Tryz
open Go Go.Sy Go.Pl Go.Proofs
set_option maxRecDepth 100000
set_option maxHeartbeats 1000000
theorem xJ {l m:List Cl}(h:l.Perm m):∀ a,rA l a=rA m a:=by
 induction h with
 | nil=>exact fun _=>rfl
 | cons x _ ih=>exact fun a=>ih _
 | swap x y l=>intro a; simp only[rA]; congr 1; omega
 | trans _ _ h1 h2=>exact fun a=>(h1 a).trans (h2 a)
theorem uh (E:World)(g:PH)(s:Own)(v:Value)(l:List Cl)(hv:aq g v l)(hf:c4 l) :
  Ctr Tryz.prog E 32 #[.agg #[v]] g s (fun r g' s'=>r=vi (vU l)∧s=s'∧Le g g'):=by
 have hft:=jT hf;have hfl:=hft.1;refine za9 (args:=[.agg #[v]]) func32 I ntmps32 (bE I) ?_;refine rZ (bW (bO I) fun b1=>?_);refine aT I (rZ (aT I (sQ (rZ (lK (qV 0 bD aA I I I) (lW (cL call50 I (rH E g _ v l hv hf)) ?_))))));rintro tv g1 _ ⟨rfl,hle,ht⟩;have htab:=ht;obtain ⟨b,m,iv,rs,rfl,hb,hm,hI,hall⟩:=ht;obtain ⟨es,clk,hes,hmi⟩:=hm;refine lU (nC I) (lU (fA ne I sizeOf98 I) (lK (qL isAgg98 I (cK hb I)) (lW (SO.range underlying98 I hes) ?_)));rintro _ _ _ ⟨it,rfl,rfl,rfl⟩;refine tZ (bK ?_);have hlen:=hall.length;refine oP (ι:=List MapEntry×List (Int×Value)×List Cl) (fun i=>[(3,vi (rA i.2.2 (-1))),(11,pp it 0)]) (fun _=>g1)
  (fun i=>jG it m es clk i.1::pt b1 (.cells #[v] 30 (0,0))::s)
  (fun i=>pl (rs.map cV) es i.1 i.2.1∧(∀ c∈i.2.2,c∈ae l)∧i.2.1.map Prod.fst=i.2.2.map Cl.id) (fun i=>rs.length - i.2.1.length)
  ([],[],[]) sB rfl rfl ⟨pl.nil _ _,by simp,rfl⟩ ?_
 rintro ⟨vis,vl,vc⟩ ⟨hrv,hvs,hvl⟩;dsimp only at hrv hvs hvl ⊢;have hvle:=hrv.len hmi;simp only[zd9] at hvle;have hvcl:vl.length=vc.length:=by have:=zd5 List.length hvl; simpa using this
 refine rZ (lW (SO.nextP 0 I I hes hmi hrv) ?_);rintro _ _ _ ⟨rfl,hcase⟩
 rcases hcase with ⟨rfl,rfl,hperm⟩ | ⟨e,pr,he,hp1,hk1,hv1,hrv2,rfl,rfl⟩
 ·have hp:=qR hvl hvs (ko l) hall hperm;refine yX I (tZ (sQ (cF I (xI (tX (tX (bX (tN (sW I (aT I (rE (dR (s':=s) uR ?_))))))))))));exact za6 (.inl I) results32 I ⟨by rw[xJ hp]; rfl,rfl,hle⟩
 ·obtain ⟨x,hx,rfl⟩:=ze5.1 hp1;obtain ⟨cx,hcm,hcx⟩:=Ae hall hx;have hvs2:∀ c∈vc++[cx],c∈ae l:=fun c hc=>by
   rcases ze6.1 hc with h | h
   ·exact hvs c h
   ·simp at h; rw[h]; exact hcm
  have hvl2:(vl++[cV x]).map Prod.fst=(vc++[cx]).map Cl.id:=by rw[zf8,zf8,hvl]; simp[cV,hcx.1]
  have hm2:=hrv2.len hmi;simp only[zd9,zd8,ze1] at hm2;obtain ⟨xi,xd,xv⟩:=x;have hxd:xd=cx.dim:=hcx.2.1;subst hxd;have hmx:=mP cx vc (-1);refine yX I (tZ (sQ (cT I (kP (tN (bK (rZ (lK (SQ.entryP 0 I I hes hmi he hk1 hv1) (yX I (bW (aL zk4) fun b5=>?_))))))))));refine oZ (sK 0 az I I I I I sB) ?_;refine tZ (rG (lM I (lU (fA ar I zT3 I) (lK (qL iT3 I (cO 0 I I)) (lU (SU.eq (v':=vi (rA (vc++[cx]) (-1))) (SU.maxI I I) (zd5 vi hmx.symm)) (lA I (nL (bN (dR (s':=jG it m es clk (vis++[e])::pt b1 (.cells #[v] 30 (0,0))::s) (.cons _ (.refl _)) ?_)))))))));exact gA (vis++[e],vl++[cV ⟨xi,cx.dim,xv⟩],vc++[cx]) sB I I ⟨hrv2,hvs2,hvl2⟩ lN
def ec (l:List Cl):List Int:=l.flatMap fun c=>c.sides.map ah.cell
theorem r8 (A:List Cl)(k:Int):(ec A).contains k=gY A k:=by
 rw[Bool.eq_iff_iff];simp[ec,gY,CK]
theorem qU {A:List Cl}{k:Nat}(h:k<A.length):ec (A.take (k+1))=ec (A.take k)++A[k].sides.map ah.cell:=by
 unfold ec;rw[tS h,List.flatMap_append];simp only[zg8,List.flatMap_nil,zc2]
theorem zM {A:List Cl}{id:Int}(h:aO A id=none)(m:List Int):eT A (m++[id])=eT A m:=by
 unfold eT;refine zc4 fun c hc=>?_;have:=List.find?_eq_none.1 h c hc;simp only[zi6] at this;simp[this]
theorem xL {ss:List ah}{j:Nat}(h:j<ss.length)(m:List Int):m++(ss.take (j+1)).map ah.cell=(m++(ss.take j).map ah.cell)++[ss[j].cell]:=by
 rw[tS h,zf8,zg2]; rfl
theorem qW (E:World)(g:PH)(s:Own)(v:Value)(l:List Cl)(hv:aq g v l)(hf:c4 l) :
  Ctr Tryz.prog E 28 #[.agg #[v]] g s (fun r g' s'=>s=s'∧Le g g'∧bZ g' r (fI l)):=by
 have hft:=jT hf;have hfl:=hft.1;have hsrt:=fh l;have hnd:=ko l;refine za9 (args:=[.agg #[v]]) func28 I ntmps28 (bE I) ?_;refine rZ (bW (bO I) fun b1=>?_);refine aT I (rZ (aT I (rZ (lK (qV 0 bD aA I I I) (lW (cL call61 I (eW E g _ _ l hv hf)) ?_)))));rintro v11 g1 _ ⟨rfl,hle,hc⟩;obtain ⟨rs,hrs,hall⟩:=hc;have hcs:aq g1 _ (ae l):=⟨rs,hrs,hall⟩;obtain ⟨q,dd,rfl⟩:=hrs.form;have hrl:=hall.length;refine aT I (sW I (lU (eN aJ I) (lW (mK gh false sty107 I I I oM oM) ?_)));rintro _ _ _ ⟨b14,rfl,rfl,rfl⟩;refine aT I (sQ (rZ (aT I (bK ?_))));unfold fI;generalize ae l=A at *;refine SC.to (g':=g1) (s':=rowA gh 4 (.slice (some ⟨b14,0,none⟩) rs.length rs.length) (eT A (ec (A.take 0)))::pt b1 (.cells #[v] 30 (0,0))::s) (fun w hw=>by rw[show ec (A.take 0)=[] from I,xZ,hrl]; exact hw) ?_;refine oP (ι:=Nat) (fun i=>[(3,.slice none 0 0),(4,.slice q rs.length dd),(5,.slice (some ⟨b14,0,none⟩) rs.length rs.length),(6,vi i)]) (fun _=>g1)
  (fun i=>rowA gh 4 (.slice (some ⟨b14,0,none⟩) rs.length rs.length) (eT A (ec (A.take i)))::pt b1 (.cells #[v] 30 (0,0))::s)
  (fun i=>i≤A.length) (fun i=>A.length - i) 0 sB rfl rfl (ze9 _) ?_
 intro k hk;refine sQ (sW I (lM I (lU (eN aJ I) (yL I (tZ ?_)))));refine iP I (fun hlt=>?_) (fun hlt=>?_)
 ·have hkl:k<A.length:=oM;have hkr:k<rs.length:=oM;have hb1:=hrs.based oM;have hcr:=hall.get (gE hkl) (gE hkr);have hgr:rs[((k:Nat):Int).toNat]?=some rs[k]:=gE hkr;have hsucc:=qU hkl;have hxl:=hft.2 _ (gM hkl);generalize A[k]=x at *;generalize rs[k]=r at *;generalize ec (A.take k)=m at *;obtain ⟨ri,rd,rp,rn,rc⟩:=r;have hsv:SlA encSide g1 (.slice rp rn rc) x.sides:=hcr.2.2;have hxn:rn=x.sides.length:=by obtain ⟨q,cc,hq⟩:=za2 hsv; simp at hq; exact hq.2.1
  subst hxn;refine kP (tN (sQ (bK (rZ (aT I (bK ?_))))));refine oP (ι:=Nat) (fun j=>[(3,.slice none 0 0),(4,.slice q rs.length dd),(5,.slice (some ⟨b14,0,none⟩) rs.length rs.length),(6,vi k),(7,vi j)]) (fun _=>g1)
   (fun j=>rowA gh 4 (.slice (some ⟨b14,0,none⟩) rs.length rs.length) (eT A (m++(x.sides.take j).map ah.cell))::pt b1 (.cells #[v] 30 (0,0))::s)
   (fun j=>j≤x.sides.length) (fun j=>x.sides.length - j) 0 sB rfl (by simp) (ze9 _) ?_
  intro j hj;refine sQ (sW I (lM I (lM I (lU (iA aJ az I I hb1 oM sL) (lU (fC ar I bJ I hb1) (lK (aZ (e:=encCell) (o:=2) (u:=.slice rp x.sides.length rc) cI I hrs.rd hgr I) (lU (eN cf I) (yL I (tZ ?_)))))))));refine iP I (fun hlt2=>?_) (fun hlt2=>?_)
  ·have hjl:j<x.sides.length:=oM;have hb2:=za4 hsv oM;have hgj:x.sides[((j:Nat):Int).toNat]?=some x.sides[j]:=gE hjl;have hms:=xL hjl m;generalize m++(x.sides.take j).map ah.cell=m2 at *;generalize x.sides[j]=z at *;have hfl2:(eT A m2).length=A.length:=by simp[eT]
   rcases oz hsrt z.cell with ⟨hf0,hat⟩ | ⟨c,kk,hf0,hat,hck⟩
   ·refine kP (tN (sQ (bK (sW I (lM I (lM I (lU (iA aJ az I I hb1 oM sL) (lU (fC ar I bJ I hb1) (lK (aZ (e:=encCell) (o:=2) (u:=.slice rp x.sides.length rc) cI I hrs.rd hgr I) (lM I (lU (iA cf bB I I hb2 oM sL) (lU (fC dE I zT3 I hb2) (lK (aZ (o:=0) (u:=vi z.cell) iT3 I hsv.rd hgj I) (lW (cL call62 I (gl E g1 _ _ A z.cell hcs hfl hsrt)) ?_))))))))))))));rintro _ _ _ ⟨rfl,rfl,rfl⟩;rw[hat];refine aT I (sW I (lU (SU.eq (v':=vb false) (gQ I I) (zd5 vb (zf1 oM))) (tZ (cF I (kP (bN (tN (rG (lM I (yD I (lA I (nL ?_))))))))))));exact gA (j+1) sB I (by rw[hms,zM hf0]) oM oM
   ·have hkl2:kk<A.length:=(ze8.1 hck).1;have hset:(eT A m2).set kk true=eT A (m2++[z.cell]):=by rw[xY hnd hck,(cX hf0).2]
    refine kP (tN (sQ (bK (sW I (lM I (lM I (lU (iA aJ az I I hb1 oM sL) (lU (fC ar I bJ I hb1) (lK (aZ (e:=encCell) (o:=2) (u:=.slice rp x.sides.length rc) cI I hrs.rd hgr I) (lM I (lU (iA cf bB I I hb2 oM sL) (lU (fC dE I zT3 I hb2) (lK (aZ (o:=0) (u:=vi z.cell) iT3 I hsv.rd hgj I) (lW (cL call62 I (gl E g1 _ _ A z.cell hcs hfl hsrt)) ?_))))))))))))));rintro _ _ _ ⟨rfl,rfl,rfl⟩;rw[hat];refine aT I (sW I (lU (SU.eq (v':=vb true) (gQ I I) (zd5 vb (zf2 oM))) (tZ (cT I (rG (lM I (lM I (lU (iA underlying107 sizeOf4 I I I oM sL) (oZ (sT (e:=gh) (a:=true) 0 sizeOf4 I I I (by rw[hfl2]; omega) I) ?_)))))))));refine nL (bN (tN (rG (lM I (yD I (lA I (nL ?_)))))));exact gA (j+1) sB I (by rw[hms,← hset]; rfl) oM oM
  ·have hjj:x.sides.take j=x.sides:=tL oM;rw[hjj,← hsucc];refine xI (tX (tX (bX (bN (tN (rG (lM I (yD I (lA I (nL ?_))))))))));exact gA (k+1) sB I I oM oM
 ·have hkk:A.take k=A:=tL oM;rw[hkk];refine xI (tX (tX (bX (tN (sQ (rZ (aT I (bK (cP (zj1 _ _ _) (cP (zj1 _ _ _) (zb4 3 1 ?_)))))))))));refine oP (ι:=Value×Nat) (fun i=>[(3,i.1),(4,.slice q rs.length dd),(5,.slice (some ⟨b14,0,none⟩) rs.length rs.length),(9,vi i.2)]) (fun _=>g1)
   (fun i=>rowA encInt 3 i.1 (((A.take i.2).filter fun c=>!gY A c.id).map Cl.id)::rowA gh 4 (.slice (some ⟨b14,0,none⟩) rs.length rs.length) (eT A (ec A))::pt b1 (.cells #[v] 30 (0,0))::s)
   (fun i=>i.2≤A.length) (fun i=>A.length - i.2) (.slice none 0 0,0) sB rfl rfl (ze9 _) ?_
  rintro ⟨ov,i⟩ hi;dsimp only at hi ⊢;refine sQ (sW I (lM I (lU (eN aJ I) (yL I (tZ ?_)))));refine iP I (fun hlt3=>?_) (fun hlt3=>?_)
  ·have hil:i<A.length:=oM;have hir:i<rs.length:=oM;have hb1:=hrs.based oM;have hcr:=hall.get (gE hil) (gE hir);have hgr:rs[((i:Nat):Int).toNat]?=some rs[i]:=gE hir;have hsucc:=x5 hil (fun c=>!gY A c.id) Cl.id;have hlek:=Bz A i (fun c=>!gY A c.id) Cl.id;have hgf:(eT A (ec A))[((i:Nat):Int).toNat]?=some (gY A A[i].id):=by rw[← r8]; exact x1 (gE hil)
   generalize A[i]=x at *;generalize rs[i]=r at *;refine kP (tN (sQ (bK (sW I (lM I (lU (iA underlying107 sizeOf4 I I I oM sL) (lK (eB (e:=gh) isAgg4 I (zb5 1 I) hgf I) (lU (SU.not I) (tZ ?_)))))))));refine iQ I (fun htop=>?_) (fun htop=>?_)
   ·refine rG (lM I (lM I (lM I (lU (iA aJ az I I hb1 oM sL) (lU (fC ar I zT3 I hb1) (lK (aZ (e:=encCell) (o:=0) (u:=vi x.id) iT3 I hrs.rd hgr (by rw[← hcr.1]; rfl)) ?_))))));refine lW (bS sty25 I I I (ab sB) dC) ?_;rintro _ _ _ ⟨b64,rfl,rfl,rfl⟩;refine lW (aP (e:=encInt) 0 x.id sty25 I I I I I oM oM) ?_;rintro ov' _ _ ⟨rfl,rfl⟩;refine lA I (nL (bN (tN (rG (lM I (yD I (lA I (nL ?_))))))));refine ST.to (fun w hw=>?_) (g':=g1) (s':=rowA encInt 3 ov' (((A.take (i+1)).filter fun c=>!gY A c.id).map Cl.id)::rowA gh 4 (.slice (some ⟨b14,0,none⟩) rs.length rs.length) (eT A (ec A))::pt b1 (.cells #[v] 30 (0,0))::s) ?_
    ·rw[hsucc,zf4 (by simpa using htop)]; exact hw
    exact gA (ov',i+1) sB I I (by dsimp only; omega) lN
   ·refine kP (bN (tN (rG (lM I (yD I (lA I (nL ?_)))))));refine ST.to (fun w hw=>?_) (g':=g1) (s':=rowA encInt 3 ov (((A.take (i+1)).filter fun c=>!gY A c.id).map Cl.id)::rowA gh 4 (.slice (some ⟨b14,0,none⟩) rs.length rs.length) (eT A (ec A))::pt b1 (.cells #[v] 30 (0,0))::s) ?_
    ·rw[hsucc,zf3 (by simpa using htop),zc2]; exact hw
    exact gA (ov,i+1) sB I I (by dsimp only; omega) lN
  ·have hii:A.take i=A:=tL oM;rw[hii];refine xI (tX (tX (bX (tN (sW I (aT I (rE (fT fun g2 hle2 hs2=>?_))))))));refine dR (s':=s) uR ?_;exact za6 (.inl I) results28 I ⟨I,hle.trans hle2,hs2⟩
theorem sO {A:List Cl}{ids:List Int}{x:Int}(h:x∈cY A ids):∃ c∈A,c.id=x:=by
 obtain ⟨c,hc,e⟩:=mo h;exact⟨c,hc,e⟩
theorem yY (l:List Cl):((ae l).map Cl.id).Pairwise (· < ·):=by
 have h1:=fh l;have h2:=ko l;have h3:=h1.and h2;exact h3.imp fun h=>by omega
theorem pD (l:List Cl)(ids:List Int):eJ l ids=((ae l).filter fun c=>(cY (ae l) ids).contains c.id).map Cl.id:=by
 unfold eJ;refine gP ?_ ?_ fun x=>?_
 ·have h2:=iJ (cY (ae l) ids);have h3:(dH (cY (ae l) ids)).Nodup:=(kr _).symm.nodup (mX _ _);exact (h2.and h3).imp fun ⟨h4,h5⟩=>by omega
 ·exact ((yY l)).sublist (List.filter_sublist.map _)
 ·rw[(kr _).mem_iff,ze5];constructor
  ·intro hx;obtain ⟨c,hc,rfl⟩:=sO hx;exact⟨c,zg7.2 ⟨hc,by simpa using hx⟩,I⟩
  ·rintro ⟨c,hc,rfl⟩;simpa using (zg7.1 hc).2
open Go.ChangeShapes Go.WideShapes Go.ChangeAt Go.RowKit
set_option maxRecDepth 100000
section
variable {H:Type}{enc:TypeId×Value→H}{W:World}{base:Nat}{spare:Nat→Bool}{hd:Bool}
end
theorem wJ {α β:Type}{ka:α→Int}{kb:β→Int}{f:α→β}(h:∀ a,kb (f a)=ka a)(x:α):∀ l:List α,ins kb (f x) (l.map f)=(ins ka x l).map f
 | []=>rfl
 | y::r=>by
  simp only[zf7,ins,h];split
  ·rfl
  ·rw[wJ h x r]; rfl
theorem iY {α β:Type}{ka:α→Int}{kb:β→Int}{f:α→β}(h:∀ a,kb (f a)=ka a):∀ l:List α,sortBy kb (l.map f)=(sortBy ka l).map f
 | []=>rfl
 | x::r=>by
  simp only[zf7,sortBy];rw[iY h r,wJ h]
theorem oE {α:Type}{key:α→Int}(l:List α):(sortBy key l).Perm l:=by
 induction l with
 | nil=>exact .refl _
 | cons x r ih =>
  have h:∀ m:List α,(ins key x m).Perm (x::m):=by
   intro m;induction m with
   | nil=>exact .refl _
   | cons y t iht =>
    simp only[ins];split
    ·exact .refl _
    ·exact (List.Perm.cons _ iht).trans (zj1 _ _ _)
  exact (h _).trans (List.Perm.cons _ ih)
theorem mJ {α:Type}{key:α→Int}{l m:List α}(h:l.Perm m)(hn:(l.map key).Nodup):sortBy key l=sortBy key m:=by
 have hst:∀ q:List α,(q.map key).Nodup→(sortBy key q).Pairwise fun a b=>key a<key b:=fun q hq=>by
  have h1:=cH (key:=key) q;have h2:((sortBy key q).map key).Nodup:=((oE q).map key).symm.nodup hq;have h3:(sortBy key q).Pairwise fun a b=>key a≠key b:=by
   rw[List.nodup_iff_pairwise_ne,zj4] at h2;exact h2
  exact (h1.and h3).imp fun h=>by omega
 have hm:(m.map key).Nodup:=(h.map key).nodup hn;refine List.Perm.eq_of_pairwise (le:=fun a b=>key a<key b) (fun a b _ _ h1 h2=>by omega) (hst l hn) (hst m hm) ?_;exact (oE l).trans (h.trans (oE m).symm)
def Dif (l:List Cl):Prop:=(l.map Cl.id).Nodup∧∀ c∈l,(c.sides.map ah.cell).Nodup
theorem xF {a b:Cl}(h:ShC a b)(hn:(a.sides.map ah.cell).Nodup):au a=au b:=by
 obtain ⟨h1,h2,h3⟩:=h;unfold au;rw[h1,h2,mJ h3 hn]
theorem ob (l:List Cl):aa l=sortBy Cl.id (l.map au):=(iY (ka:=Cl.id) (kb:=Cl.id) (f:=au) (fun _=>rfl) l).symm
theorem qh:∀ {l m:List Cl},aw ShC l m→(∀ c∈l,(c.sides.map ah.cell).Nodup)→l.map au=m.map au
 | [],[],_,_=>rfl
 | a::l,b::m,h,hn=>by
  rw[zf7,zf7,xF h.1 (hn a (by simp)),qh h.2 fun c hc=>hn c (by simp[hc])]
 | [],_::_,h,_=>h.elim
 | _::_,[],h,_=>h.elim
theorem yf {l m:List Cl}(h:ShL l m)(hd:Dif l):aa l=aa m:=by
 obtain ⟨l1,hp,ha⟩:=h;have h1:l1.map au=m.map au:=qh ha fun c hc=>hd.2 c (hp.mem_iff.1 hc);rw[ob,ob,← h1];refine mJ (hp.symm.map au) ?_;rw[zh8];exact hd.1
end Go.Proofs.YtcfkpajlakidbaaGreat
namespace Go.Sy
open Go Go.MapKept
section
variable {P:Program}{w:World}{t kt et ty:TypeId}{z:Value}{b:Nat}{es:Array MapEntry}{clk:Nat}{l:List (Int×Value)}
end
section
variable {P:Program}{N:Nat}{E:World}{ops:Array Oper}{Q:Exit→Act→World→Prop}{f:Fr}{g:PH}{s:Own}{dst:Option Tmp}{ty:TypeId}{pos:String}{af:Array Edge}{gd:Option (Nat×Bool)}
variable {t kt et:TypeId}{z:Value}{b:Nat}{l:List (Int×Value)}{x y:Operand}{k:Int}
end
end Go.Sy
namespace Go.Sy
open Go
section
variable {P:Program}{N:Nat}{E:World}{f:Fr}{g:PH}{s:Own}{dst:Option Tmp}{ty:TypeId}{pos:String}{af:Array Edge}{gd:Option (Nat×Bool)}
theorem SQ.sof {o:Oper}{v:Value}(h:SQ P N E o f g s v):SO P N E o f g s fun v' g' s'=>v'=v∧g=g'∧s=s':=SO.mono h.so fun _ _ _ ⟨h1,h2,h3⟩=>⟨h1,h2.symm,h3.symm⟩
theorem SQ.loadOne {x:Operand}{T:TypeId}{b o:Nat}{v:Value}(hT:∀ w,(isAgg T).run P w = .ok true w)(hk:∀ w,(sizeOf T).run P w = .ok 1 w)(hx:ev f x=some (pp b o))(hc:ee g s ⟨b,o,none⟩ v) :
  SQ P N E ⟨dst,.load T x,ty,pos,af,gd⟩ f g s (.agg #[v]) :=
 SQ.loadAggAt (vs:=[v]) hT hk hx rfl fun j u hu=>by
  cases j with
  | zero=>simp at hu; subst hu; exact hc
  | succ j=>simp at hu
end
section
variable {α:Type}{k:Nat}{P:Program}{N:Nat}{E:World}{f:Fr}{g:PH}{s:Own}{dst:Option Tmp}{ty:TypeId}{pos:String}{af:Array Edge}{gd:Option (Nat×Bool)}
end
section
variable {P:Program}{N:Nat}{E:World}{f:Fr}{g:PH}{s:Own}{fn:Func}{R:Value→PH→Own→Prop}{e:Exit}
end
end Go.Sy
namespace Go.Sy
open Go Go.MapKept
instance quiet_scope {Q:Exit→Act→World→Prop}[h:Quiet Q]:Quiet (Exit.noGoto Q):=⟨fun c a a' w hd hq=>h.out c a a' w hd hq⟩
section
variable {P:Program}{N:Nat}{E:World}{Q:Exit→Act→World→Prop}{f:Fr}{g:PH}{s:Own}
theorem SC.scope {c:Code}(h:SC P N E c (Exit.noGoto Q) f g s):SC P N E (.scope c) Q f g s:=fun a w ha hw=>wp_scope_straight (h a w ha hw)
theorem ST.scopeR (h:ST N E Q .ret f g s):ST N E (Exit.noGoto Q) .ret f g s:=h
end
end Go.Sy
namespace Go.Pl
def aG (l:List Nat)(f:Nat→Int):Int:=(l.map f).sum
theorem k9 (f:Nat→Int):aG [] f=0:=rfl
theorem cB (a:Nat)(l:List Nat)(f:Nat→Int):aG (a::l) f=f a+aG l f:=by simp[aG]
theorem jI (l m:List Nat)(f:Nat→Int):aG (l++m) f=aG l f+aG m f:=by simp[aG]
theorem oD (l:List Nat)(f g:Nat→Int):aG l (fun j=>f j+g j)=aG l f+aG l g:=by
 induction l with
 | nil=>rfl
 | cons a l ih=>simp only[cB,ih]; omega
theorem cJ (l:List Nat)(c:Int)(f:Nat→Int):aG l (fun j=>c * f j)=c * aG l f:=by
 induction l with
 | nil=>simp[aG]
 | cons a l ih=>simp only[cB,ih,Int.mul_add]
theorem er (l:List Nat)(c:Int)(f:Nat→Int):aG l (fun j=>f j * c)=aG l f * c:=by
 induction l with
 | nil=>simp[aG]
 | cons a l ih=>simp only[cB,ih,Int.add_mul]
theorem ij (l:List Nat):aG l (fun _=>0)=0:=by
 induction l with
 | nil=>rfl
 | cons a l ih=>simp only[cB,ih]; rfl
theorem am {l:List Nat}{f g:Nat→Int}(h:∀ j∈l,f j=g j):aG l f=aG l g:=by
 unfold aG;rw[List.map_congr_left h]
theorem ep (l m:List Nat)(f:Nat→Nat→Int):aG l (fun i=>aG m fun j=>f i j)=aG m fun j=>aG l fun i=>f i j:=by
 induction l with
 | nil=>simp only[k9,ij]
 | cons a l ih=>simp only[cB,ih,oD]
def Eqm (p a b:Int):Prop:=p ∣ a - b
section
variable {p:Int}
theorem Eqm.refl (a:Int):Eqm p a a:=by unfold Eqm; rw[Int.sub_self]; exact Int.dvd_zero p
theorem Eqm.symm {a b:Int}(h:Eqm p a b):Eqm p b a:=by
 unfold Eqm at *;have:=Int.dvd_neg.2 h;rwa [Int.neg_sub] at this
theorem Eqm.trans {a b c:Int}(h:Eqm p a b)(k:Eqm p b c):Eqm p a c:=by
 unfold Eqm at *;have:=Int.dvd_add h k;rwa [show a - b+(b - c)=a - c by omega] at this
theorem Eqm.add {a b c d:Int}(h:Eqm p a b)(k:Eqm p c d):Eqm p (a+c) (b+d):=by
 unfold Eqm at *;have:=Int.dvd_add h k;rwa [show a - b+(c - d)=a+c - (b+d) by omega] at this
theorem Eqm.mul {a b c d:Int}(h:Eqm p a b)(k:Eqm p c d):Eqm p (a * c) (b * d):=by
 unfold Eqm at *;have h1:p ∣ (a - b) * c:=Int.dvd_mul_of_dvd_left h;have h2:p ∣ b * (c - d):=Int.dvd_mul_of_dvd_right k;have:=Int.dvd_add h1 h2;rwa [Int.sub_mul,Int.mul_sub,show a * c - b * c+(b * c - b * d)=a * c - b * d by omega] at this
theorem Eqm.of {a b:Int}(h:a=b):Eqm p a b:=by rw[h]; exact .refl b
theorem Eqm.sum {l:List Nat}{f g:Nat→Int}(h:∀ j∈l,Eqm p (f j) (g j)):Eqm p (aG l f) (aG l g):=by
 induction l with
 | nil=>exact .refl _
 | cons a l ih =>
  rw[cB,cB];exact (h a (by simp)).add (ih fun j hj=>h j (by simp[hj]))
theorem Eqm.sum0 {l:List Nat}{f:Nat→Int}(h:∀ j∈l,Eqm p (f j) 0):Eqm p (aG l f) 0:=by
 have:=Eqm.sum (g:=fun _=>0) h;rwa [ij] at this
def Fld (p:Int):Prop:=¬ Eqm p 1 0∧∀ a,¬ Eqm p a 0→∃ b,Eqm p (a * b) 1
theorem oN (hp:Fld p):∀ (s:Nat) (cs:List Nat) (Y:Nat→Nat→Int),cs.Nodup→s<cs.length→∃ v:Nat→Int,(∃ j∈cs,¬ Eqm p (v j) 0)∧∀ i,i<s→Eqm p (aG cs fun j=>Y i j * v j) 0
 | 0,cs,Y,_,hs=>by
  cases cs with
  | nil=>simp at hs
  | cons a l=>exact⟨fun _=>1,⟨a,by simp,hp.1⟩,fun i hi=>by omega⟩
 | s+1,cs,Y,hn,hs=>by
  by_cases hall:∀ j∈cs,Eqm p (Y s j) 0
  ·obtain ⟨v,h1,h2⟩:=oN hp s cs Y hn (by omega);refine⟨v,h1,fun i hi=>?_⟩;by_cases e:i=s
   ·subst e;refine Eqm.sum0 fun j hj=>?_;have:=(hall j hj).mul (Eqm.refl (v j));rwa [Int.zero_mul] at this
   ·exact h2 i (by omega)
  ·have ⟨j0,hj0,hy⟩:∃ j0∈cs,¬ Eqm p (Y s j0) 0:=by
    apply Classical.byContradiction;intro h;exact hall fun j hj=>Classical.byContradiction fun k=>h ⟨j,hj,k⟩
   obtain ⟨b,hb⟩:=hp.2 _ hy;obtain ⟨l1,l2,rfl⟩:=List.append_of_mem hj0;have hn2:(l1++l2).Nodup:=by
    have:=(List.nodup_append.1 hn);refine List.nodup_append.2 ⟨this.1,(List.nodup_cons.1 this.2.1).2,fun x hx y hy=>this.2.2 x hx y (by simp[hy])⟩
   have hnot:∀ j∈l1++l2,j≠j0:=fun j hj e=>by
    subst e;have h3:=List.nodup_append.1 hn
    rcases List.mem_append.1 hj with h | h
    ·exact h3.2.2 j h j (by simp) rfl
    ·exact (List.nodup_cons.1 h3.2.1).1 h
   obtain ⟨v,⟨j1,hj1,hv1⟩,h2⟩:=oN hp s (l1++l2) (fun i j=>Y i j - Y i j0 * b * Y s j) hn2 (by simp at hs ⊢; omega)
   let t:Int:=-(b * aG (l1++l2) fun j=>Y s j * v j)
   let w:Nat→Int:=fun j=>if j=j0 then t else v j
   have hw:∀ j∈l1++l2,w j=v j:=fun j hj=>if_neg (hnot j hj);have hsum:∀ i,aG (l1++j0::l2) (fun j=>Y i j * w j)=(aG (l1++l2) fun j=>Y i j * v j)+Y i j0 * t:=fun i=>by
    rw[jI,cB,jI];have e1:aG l1 (fun j=>Y i j * w j)=aG l1 fun j=>Y i j * v j:=am fun j hj=>by rw[hw j (by simp[hj])]
    have e2:aG l2 (fun j=>Y i j * w j)=aG l2 fun j=>Y i j * v j:=am fun j hj=>by rw[hw j (by simp[hj])]
    have e3:w j0=t:=if_pos rfl;rw[e1,e2,e3];omega
   refine⟨w,⟨j1,by rcases List.mem_append.1 hj1 with h | h <;> simp[h],by rw[hw j1 hj1]; exact hv1⟩,fun i hi=>?_⟩;rw[hsum i];by_cases e:i=s
   ·subst e;have h3:Eqm p (Y i j0 * t) (-(aG (l1++l2) fun j=>Y i j * v j)):=by
     have:=(hb.mul (Eqm.refl (-(aG (l1++l2) fun j=>Y i j * v j))));rw[Int.one_mul] at this;refine Eqm.trans (Eqm.of ?_) this;show Y i j0 * -(b * _)=_;rw[Int.mul_neg,Int.mul_neg,Int.mul_assoc]
    have:=(Eqm.refl (aG (l1++l2) fun j=>Y i j * v j)).add h3;rwa [Int.add_right_neg] at this
   ·have h4:=h2 i (by omega);refine Eqm.trans (Eqm.of ?_) h4;have h5:(aG (l1++l2) fun j=>(Y i j - Y i j0 * b * Y s j) * v j)=(aG (l1++l2) fun j=>Y i j * v j)+aG (l1++l2) fun j=>-(Y i j0 * b) * (Y s j * v j):=by
     rw[← oD];refine am fun j _=>?_;rw[Int.sub_mul,Int.neg_mul,Int.mul_assoc (Y i j0 * b)];omega
    rw[h5,cJ];show _+Y i j0 * -(b * _)=_;rw[Int.mul_neg,Int.neg_mul,Int.mul_assoc]
theorem Ar (hp:Fld p){r s:Nat}{X Y:Nat→Nat→Int}(h:∀ i,i<r→∀ j,j<r→Eqm p (aG (List.range s) fun k=>X i k * Y k j) (if i=j then 1 else 0)):r≤s:=by
 apply Classical.byContradiction;intro hlt;obtain ⟨v,⟨j,hj,hv⟩,h2⟩:=oN hp s (List.range r) Y List.nodup_range (by simp; omega);rw[List.mem_range] at hj;apply hv;have h3:Eqm p (aG (List.range r) fun k=>(aG (List.range s) fun i=>X j i * Y i k) * v k) (aG (List.range r) fun k=>(if j=k then 1 else 0) * v k) :=
  Eqm.sum fun k hk=>(h j hj k (List.mem_range.1 hk)).mul (Eqm.refl _)
 have h4:(aG (List.range r) fun k=>(aG (List.range s) fun i=>X j i * Y i k) * v k)=aG (List.range s) fun i=>X j i * aG (List.range r) fun k=>Y i k * v k:=by
  have e:∀ k,(aG (List.range s) fun i=>X j i * Y i k) * v k=aG (List.range s) fun i=>X j i * (Y i k * v k):=fun k=>by
   rw[← er];exact am fun i _=>Int.mul_assoc _ _ _
  simp only[e];rw[ep];exact am fun i _=>cJ _ _ _
 have h5:Eqm p (aG (List.range s) fun i=>X j i * aG (List.range r) fun k=>Y i k * v k) 0:=Eqm.sum0 fun i hi=>by
  have:=(Eqm.refl (X j i)).mul (h2 i (List.mem_range.1 hi));rwa [Int.mul_zero] at this
 have h6:∀ n,j<n→(aG (List.range n) fun k=>(if j=k then 1 else 0) * v k)=v j:=fun n hn=>by
  induction n with
  | zero=>omega
  | succ n ih =>
   rw[List.range_succ,jI,cB,k9];by_cases e:j=n
   ·subst e;rw[if_pos rfl,Int.one_mul,am (g:=fun _=>0) (fun k hk=>by rw[if_neg (by have:=List.mem_range.1 hk; omega),Int.zero_mul]),ij];omega
   ·rw[ih (by omega),if_neg e];omega
 rw[h4,h6 r hj] at h3;exact h3.symm.trans h5
structure dp (p:Int)(A:Nat→Nat→Int)(m n r:Nat):Prop where
 thru:∃ X Y:Nat→Nat→Int,∀ i,i<m→∀ j,j<n→Eqm p (A i j) (aG (List.range r) fun k=>X i k * Y k j)
 one:∃ L R:Nat→Nat→Int,∀ i,i<r→∀ j,j<r→Eqm p (aG (List.range m) fun a=>L i a * aG (List.range n) fun b=>A a b * R b j) (if i=j then 1 else 0)
theorem dp.le (hp:Fld p){A A' U V:Nat→Nat→Int}{m n m' n' r r':Nat}(h:dp p A m n r)(h':dp p A' m' n' r')
  (hu:∀ i,i<m'→∀ j,j<n'→Eqm p (A' i j) (aG (List.range m) fun a=>U i a * aG (List.range n) fun b=>A a b * V b j)):r'≤r:=by
 obtain ⟨X,Y,hXY⟩:=h.thru;obtain ⟨L,R,hLR⟩:=h'.one;refine Ar hp (X:=fun i k=>aG (List.range m') fun a=>L i a * aG (List.range m) fun c=>U a c * X c k) (Y:=fun k j=>aG (List.range n') fun b=>(aG (List.range n) fun d=>Y k d * V d b) * R b j) fun i hi j hj=>?_;refine Eqm.trans ?_ (hLR i hi j hj);have key:∀ a,a<m'→∀ b,b<n'→Eqm p (aG (List.range r) fun k=>(aG (List.range m) fun c=>U a c * X c k) * aG (List.range n) fun d=>Y k d * V d b) (A' a b):=fun a ha b hb=>by
  refine Eqm.trans ?_ (hu a ha b hb).symm;have e1:(aG (List.range r) fun k=>(aG (List.range m) fun c=>U a c * X c k) * aG (List.range n) fun d=>Y k d * V d b)=aG (List.range m) fun c=>U a c * aG (List.range n) fun d=>(aG (List.range r) fun k=>X c k * Y k d) * V d b:=by
   have f1:∀ k,((aG (List.range m) fun c=>U a c * X c k) * aG (List.range n) fun d=>Y k d * V d b)=aG (List.range m) fun c=>aG (List.range n) fun d=>U a c * (X c k * Y k d * V d b):=fun k=>by
    rw[← er];refine am fun c _=>?_;rw[← cJ];refine am fun d _=>?_;simp only[Int.mul_assoc]
   simp only[f1];rw[ep];refine am fun c _=>?_;rw[ep,← cJ];refine am fun d _=>?_;rw[cJ,er]
  rw[e1];exact Eqm.sum fun c hc=>(Eqm.refl _).mul (Eqm.sum fun d hd=>(hXY c (List.mem_range.1 hc) d (List.mem_range.1 hd)).symm.mul (Eqm.refl _))
 have e2:(aG (List.range r) fun k=>(aG (List.range m') fun a=>L i a * aG (List.range m) fun c=>U a c * X c k) * aG (List.range n') fun b=>(aG (List.range n) fun d=>Y k d * V d b) * R b j)=aG (List.range m') fun a=>L i a * aG (List.range n') fun b=>(aG (List.range r) fun k=>(aG (List.range m) fun c=>U a c * X c k) * aG (List.range n) fun d=>Y k d * V d b) * R b j:=by
  have f1:∀ k,((aG (List.range m') fun a=>L i a * aG (List.range m) fun c=>U a c * X c k) * aG (List.range n') fun b=>(aG (List.range n) fun d=>Y k d * V d b) * R b j)=aG (List.range m') fun a=>aG (List.range n') fun b=>L i a * (((aG (List.range m) fun c=>U a c * X c k) * aG (List.range n) fun d=>Y k d * V d b) * R b j):=fun k=>by
   rw[← er];refine am fun a _=>?_;rw[← cJ];refine am fun b _=>?_;simp only[Int.mul_assoc]
  simp only[f1];rw[ep];refine am fun a _=>?_;rw[ep,← cJ];refine am fun b _=>?_;rw[cJ,er]
 rw[e2];exact Eqm.sum fun a ha=>(Eqm.refl _).mul (Eqm.sum fun b hb=>(key a (List.mem_range.1 ha) b (List.mem_range.1 hb)).mul (Eqm.refl _))
theorem dp.turn {A:Nat→Nat→Int}{m n r:Nat}(h:dp p A m n r):dp p (fun i j=>A j i) n m r:=by
 obtain ⟨X,Y,hXY⟩:=h.thru;obtain ⟨L,R,hLR⟩:=h.one;refine⟨⟨fun i k=>Y k i,fun k j=>X j k,fun i hi j hj=>(hXY j hj i hi).trans (Eqm.of (am fun k _=>Int.mul_comm _ _))⟩,⟨fun i a=>R a i,fun b j=>L j b,fun i hi j hj=>?_⟩⟩;have h1:=hLR j hj i hi;rw[show (if j=i then (1:Int) else 0)=if i=j then 1 else 0 by by_cases e:i=j <;> simp[e,eq_comm]] at h1;refine Eqm.trans (Eqm.of ?_) h1;have f1:∀ a,R a i * (aG (List.range m) fun b=>A b a * L j b)=aG (List.range m) fun b=>L j b * (A b a * R a i):=fun a=>by
  rw[← cJ];refine am fun b _=>?_;rw[Int.mul_comm,Int.mul_comm (A b a),Int.mul_assoc]
 simp only[f1];rw[ep];exact am fun b _=>cJ _ _ _
end
end Go.Pl
namespace Go.Pl
section
variable {p:Int}
theorem gv (n i:Nat)(h:i<n)(f:Nat→Int):(aG (List.range n) fun k=>(if i=k then 1 else 0) * f k)=f i:=by
 induction n with
 | zero=>omega
 | succ n ih =>
  rw[List.range_succ,jI,cB,k9];by_cases e:i=n
  ·subst e;rw[if_pos rfl,Int.one_mul,am (g:=fun _=>0) (fun k hk=>by rw[if_neg (by have:=List.mem_range.1 hk; omega),Int.zero_mul]),ij];omega
  ·rw[ih (by omega),if_neg e];omega
def cZ (p:Int)(A:Nat→Nat→Int)(m n:Nat)(v:Nat→Int):Prop:=∃ w:Nat→Int,∀ j,j<n→Eqm p (v j) (aG (List.range m) fun a=>w a * A a j)
theorem cZ.self {A:Nat→Nat→Int}{m n i:Nat}(h:i<m):cZ p A m n (A i):=⟨fun k=>if i=k then 1 else 0,fun j _=>Eqm.of (gv m i h fun k=>A k j).symm⟩
theorem cZ.add {A:Nat→Nat→Int}{m n:Nat}{u v:Nat→Int}(c:Int)(h:cZ p A m n u)(k:cZ p A m n v):cZ p A m n fun j=>u j+c * v j:=by
 obtain ⟨x,hx⟩:=h;obtain ⟨y,hy⟩:=k;refine⟨fun a=>x a+c * y a,fun j hj=>((hx j hj).add ((Eqm.refl c).mul (hy j hj))).trans (Eqm.of ?_)⟩;rw[← cJ,← oD];exact am fun a _=>by rw[Int.add_mul,Int.mul_assoc]
theorem cZ.mul {A:Nat→Nat→Int}{m n:Nat}{v:Nat→Int}(c:Int)(k:cZ p A m n v):cZ p A m n fun j=>c * v j:=by
 obtain ⟨y,hy⟩:=k;refine⟨fun a=>c * y a,fun j hj=>((Eqm.refl c).mul (hy j hj)).trans (Eqm.of ?_)⟩;rw[← cJ];exact am fun a _=>by rw[Int.mul_assoc]
theorem cZ.congr {A:Nat→Nat→Int}{m n:Nat}{u v:Nat→Int}(k:cZ p A m n v)(h:∀ j,j<n→Eqm p (u j) (v j)):cZ p A m n u:=by
 obtain ⟨y,hy⟩:=k;exact⟨y,fun j hj=>(h j hj).trans (hy j hj)⟩
theorem cZ.sum {A:Nat→Nat→Int}{m n:Nat}{B:Nat→Nat→Int}(w:Nat→Int):∀ {l:List Nat},(∀ a∈l,cZ p A m n (B a))→cZ p A m n fun j=>aG l fun a=>w a * B a j
 | [],_=>⟨fun _=>0,fun j _=>Eqm.of (by
   show (0:Int)=_;rw[am (g:=fun _=>0) (fun a _=>Int.zero_mul _),ij])⟩
 | a::l,h=>by
  have h1:=(cZ.sum w fun b hb=>h b (by simp[hb]):cZ p A m n fun j=>aG l fun a=>w a * B a j);refine (h1.add (w a) (h a (by simp))).congr fun j _=>Eqm.of ?_;rw[cB];omega
theorem cZ.trans {A B:Nat→Nat→Int}{m n k:Nat}{v:Nat→Int}(h:cZ p B k n v)(hb:∀ a,a<k→cZ p A m n (B a)):cZ p A m n v:=by
 obtain ⟨w,hw⟩:=h;exact (cZ.sum w fun a ha=>hb a (List.mem_range.1 ha)).congr hw
structure kh (p:Int)(A:Nat→Nat→Int)(m n:Nat)(M:Nat→Nat→Int)(J:List Nat)(c:Nat):Prop where
 fwd:∀ i,i<m→cZ p A m n (M i)
 bwd:∀ i,i<m→cZ p M m n (A i)
 col:∀ j∈J,j<c
 piv:∀ k j,J[k]?=some j→∀ i,i<m→Eqm p (M i j) (if i=k then 1 else 0)
 low:∀ i,J.length≤i→i<m→∀ j,j<c→Eqm p (M i j) 0
 len:J.length≤m
theorem kh.start (A:Nat→Nat→Int)(m n:Nat):kh p A m n A [] 0:=⟨fun _ h=>.self h,fun _ h=>.self h,by simp,by simp,fun _ _ _ j hj=>by omega,Nat.zero_le _⟩
theorem kh.none {A M:Nat→Nat→Int}{m n c:Nat}{J:List Nat}(h:kh p A m n M J c)(h0:∀ i,J.length≤i→i<m→Eqm p (M i c) 0):kh p A m n M J (c+1) :=
 ⟨h.fwd,h.bwd,fun j hj=>by have:=h.col j hj; omega,h.piv,fun i h1 h2 j hj=>by
  by_cases e:j=c
  ·subst e; exact h0 i h1 h2
  ·exact h.low i h1 h2 j (by omega),h.len⟩
theorem kh.pivot {A M M':Nat→Nat→Int}{m n c i0:Nat}{b:Int}{J:List Nat}(h:kh p A m n M J c)(hc:c<n)(h1:J.length≤i0)(h2:i0<m)(hb:Eqm p (b * M i0 c) 1)
  (hM:∀ i,i<m→∀ j,j<n→Eqm p (M' i j) (if i=J.length then b * M i0 j else M (if i=i0 then J.length else i) j - M (if i=i0 then J.length else i) c * (b * M i0 j))):kh p A m n M' (J++[c]) (c+1):=by
 have hr:J.length<m:=by omega
 have hsw:∀ i,i<m→(if i=i0 then J.length else i)<m:=fun i hi=>by split <;> omega
 have rowr:∀ j,j<n→Eqm p (M' J.length j) (b * M i0 j):=fun j hj=>by
  have:=hM J.length hr j hj;rwa [if_pos rfl] at this
 have rown:∀ i,i<m→i≠J.length→∀ j,j<n→Eqm p (M' i j) (M (if i=i0 then J.length else i) j - M (if i=i0 then J.length else i) c * (b * M i0 j)):=fun i hi hne j hj=>by
  have:=hM i hi j hj;rwa [if_neg hne] at this
 have colc:∀ i,i<m→Eqm p (M' i c) (if i=J.length then 1 else 0):=fun i hi=>by
  by_cases e:i=J.length
  ·subst e;rw[if_pos rfl];exact (rowr c hc).trans hb
  ·rw[if_neg e];refine (rown i hi e c hc).trans ?_;have h3:=(Eqm.refl (-(M (if i=i0 then J.length else i) c))).mul hb;have h4:=(Eqm.refl (M (if i=i0 then J.length else i) c)).add h3;rw[Int.mul_one,Int.add_right_neg] at h4;refine (Eqm.of ?_).trans h4;rw[Int.neg_mul];omega
 -- the old rows lie in the new ones
 have old0:cZ p M' m n (M i0):=by
  have h3:cZ p M' m n fun j=>M i0 c * M' J.length j:=(cZ.self hr).mul _;refine h3.congr fun j hj=>?_;have h4:=(Eqm.refl (M i0 c)).mul (rowr j hj);have h5:=hb.mul (Eqm.refl (M i0 j));rw[Int.one_mul] at h5;refine (h5.symm.trans (Eqm.of ?_)).trans h4.symm;rw[← Int.mul_assoc,Int.mul_comm b]
 have old:∀ i,i<m→cZ p M' m n (M i):=fun i hi=>by
  by_cases e0:i=i0
  ·subst e0; exact old0
  ·-- i sits at place t of the new matrix
   have ⟨t,ht,htr,hti⟩:∃ t,t<m∧t≠J.length∧(if t=i0 then J.length else t)=i:=by
    by_cases e:i=J.length
    ·exact⟨i0,h2,fun e2=>e0 (by rw[e,e2]),by rw[if_pos rfl]; exact e.symm⟩
    ·exact⟨i,hi,e,if_neg e0⟩
   have h3:cZ p M' m n fun j=>M' t j+(M i c * b) * M i0 j:=(cZ.self ht).add _ old0;refine h3.congr fun j hj=>?_;have h4:=rown t ht htr j hj;rw[hti] at h4;refine Eqm.symm ((h4.add (Eqm.refl _)).trans (Eqm.of ?_));rw[Int.mul_assoc];omega
 refine⟨fun i hi=>?_,fun i hi=>(h.bwd i hi).trans old,fun j hj=>?_,fun k j hk i hi=>?_,fun i hi1 hi2 j hj=>?_,by simp; omega⟩
 ·by_cases e:i=J.length
  ·subst e;exact ((h.fwd i0 h2).mul b).congr rowr
  ·refine ((h.fwd _ (hsw i hi)).add (-(M (if i=i0 then J.length else i) c * b)) (h.fwd i0 h2)).congr fun j hj=>(rown i hi e j hj).trans (Eqm.of ?_);rw[Int.neg_mul,Int.mul_assoc];omega
 ·rcases List.mem_append.1 hj with h3 | h3
  ·have:=h.col j h3; omega
  ·simp at h3; omega
 ·by_cases hkl:k<J.length
  ·rw[List.getElem?_append_left hkl] at hk;have hjc:j<c:=h.col j (List.mem_of_getElem? hk);have z0:Eqm p (M i0 j) 0:=h.low i0 h1 h2 j hjc;have z1:∀ x,Eqm p (x * M i0 j) 0:=fun x=>by
    have:=(Eqm.refl x).mul z0;rwa [Int.mul_zero] at this
   by_cases e:i=J.length
   ·subst e;rw[if_neg (by omega)];exact (rowr j (by omega)).trans (z1 b)
   ·refine (rown i hi e j (by omega)).trans ?_;have h3:Eqm p (M (if i=i0 then J.length else i) j - M (if i=i0 then J.length else i) c * (b * M i0 j)) (M (if i=i0 then J.length else i) j):=by
     have h4:=z1 (-(M (if i=i0 then J.length else i) c * b));have h5:=(Eqm.refl (M (if i=i0 then J.length else i) j)).add h4;rw[Int.add_zero] at h5;refine (Eqm.of ?_).trans h5;rw[Int.neg_mul,Int.mul_assoc];omega
    refine h3.trans ?_;by_cases e0:i=i0
    ·rw[if_pos e0,if_neg (by omega)];exact h.low J.length (Nat.le_refl _) hr j hjc
    ·rw[if_neg e0];exact h.piv k j hk i hi
  ·have hk2:k=J.length∧j=c:=by
    rw[List.getElem?_append_right (by omega)] at hk;cases hd:k - J.length with
    | zero=>rw[hd] at hk; simp at hk; exact⟨by omega,hk.symm⟩
    | succ d=>rw[hd] at hk; simp at hk
   obtain ⟨rfl,rfl⟩:=hk2;exact colc i hi
 ·rw[List.length_append,List.length_singleton] at hi1;by_cases e:j=c
  ·subst e;have:=colc i hi2;rwa [if_neg (by omega)] at this
  ·have hjc:j<c:=by omega
   have z0:Eqm p (M i0 j) 0:=h.low i0 h1 h2 j hjc;refine (rown i hi2 (by omega) j (by omega)).trans ?_;have h4:=(Eqm.refl (-(M (if i=i0 then J.length else i) c * b))).mul z0;rw[Int.mul_zero] at h4;have h6:Eqm p (M (if i=i0 then J.length else i) j) 0:=h.low _ (by split <;> omega) (hsw i hi2) j hjc;have h5:=h6.add h4;refine (Eqm.of ?_).trans h5;rw[Int.neg_mul,Int.mul_assoc];omega
theorem wG {f:Nat→Int}(w:Nat→Int){r m:Nat}(hr:r≤m)(h:∀ a,r≤a→a<m→Eqm p (f a) 0):Eqm p (aG (List.range m) fun a=>w a * f a) (aG (List.range r) fun a=>w a * f a):=by
 induction m with
 | zero=>rw[show r=0 by omega]; exact .refl _
 | succ m ih =>
  by_cases e:r=m+1
  ·rw[e]; exact .refl _
  ·rw[List.range_succ,jI,cB,k9];have h1:=(Eqm.refl (w m)).mul (h m (by omega) (by omega));rw[Int.mul_zero] at h1;have h2:=(ih (by omega) fun a k1 k2=>h a k1 (by omega)).add h1;rw[Int.add_zero] at h2;rwa [Int.add_zero]
theorem kh.rank {A M:Nat→Nat→Int}{m n:Nat}{J:List Nat}(h:kh p A m n M J n):dp p A m n J.length:=by
 have hb:∀ i,∃ w:Nat→Int,i<m→∀ j,j<n→Eqm p (A i j) (aG (List.range m) fun a=>w a * M a j):=fun i=>by
  by_cases hi:i<m
  ·obtain ⟨w,hw⟩:=h.bwd i hi;exact⟨w,fun _=>hw⟩
  ·exact⟨fun _=>0,fun k=>absurd k hi⟩
 have hf:∀ i,∃ w:Nat→Int,i<m→∀ j,j<n→Eqm p (M i j) (aG (List.range m) fun a=>w a * A a j):=fun i=>by
  by_cases hi:i<m
  ·obtain ⟨w,hw⟩:=h.fwd i hi;exact⟨w,fun _=>hw⟩
  ·exact⟨fun _=>0,fun k=>absurd k hi⟩
 refine⟨⟨fun i=>(hb i).choose,M,fun i hi j hj=>?_⟩,⟨fun i=>(hf i).choose,fun b k=>if J[k]?=some b then 1 else 0,fun i hi k hk=>?_⟩⟩
 ·refine ((hb i).choose_spec hi j hj).trans ?_;exact wG _ h.len fun a h1 h2=>h.low a h1 h2 j hj
 ·obtain ⟨jc,hjc⟩:∃ jc,J[k]?=some jc:=⟨J[k],List.getElem?_eq_getElem hk⟩;have hjn:jc<n:=h.col jc (List.mem_of_getElem? hjc);have him:i<m:=by have:=h.len; omega
  have e:∀ a,(aG (List.range n) fun b=>A a b * (if J[k]?=some b then 1 else 0))=A a jc:=fun a=>by
   rw[hjc];rw[am (g:=fun b=>(if jc=b then 1 else 0) * A a b) (fun b _=>by rw[Int.mul_comm]; congr 1; by_cases q:jc=b <;> simp[q])];exact gv n jc hjn _
  simp only[e];exact ((hf i).choose_spec him jc hjn).symm.trans (h.piv k jc hjc i him)
theorem dp.same (hp:Fld p){A:Nat→Nat→Int}{m n r r':Nat}(h:dp p A m n r)(h':dp p A m n r'):r=r':=by
 have key:∀ i,i<m→∀ j,j<n→Eqm p (A i j) (aG (List.range m) fun a=>(if i=a then 1 else 0) * aG (List.range n) fun b=>A a b * (if j=b then 1 else 0)):=fun i hi j hj=>by
  rw[gv m i hi,am (g:=fun b=>(if j=b then 1 else 0) * A i b) (fun b _=>Int.mul_comm _ _),gv n j hj];exact .refl _
 exact Nat.le_antisymm (h'.le hp h key) (h.le hp h' key)
end
end Go.Pl
namespace Go.Pl
section
variable {p:Int}
def m7 (k:Nat)(A B:Nat→Nat→Int):Nat→Nat→Int:=fun i j=>aG (List.range k) fun t=>A i t * B t j
def Meq (p:Int)(m n:Nat)(A B:Nat→Nat→Int):Prop:=∀ i,i<m→∀ j,j<n→Eqm p (A i j) (B i j)
def CJ:Nat→Nat→Int:=fun i j=>if i=j then 1 else 0
theorem uY (k l:Nat)(A B C:Nat→Nat→Int):m7 l (m7 k A B) C=m7 k A (m7 l B C):=by
 funext i j;unfold m7;have e:∀ t,(aG (List.range k) fun u=>A i u * B u t) * C t j=aG (List.range k) fun u=>A i u * (B u t * C t j):=fun t=>by
  rw[← er];exact am fun u _=>Int.mul_assoc _ _ _
 simp only[e];rw[ep];exact am fun u _=>cJ _ _ _
theorem Meq.refl {m n:Nat}(A:Nat→Nat→Int):Meq p m n A A:=fun _ _ _ _=>.refl _
theorem Meq.symm {m n:Nat}{A B:Nat→Nat→Int}(h:Meq p m n A B):Meq p m n B A:=fun i hi j hj=>(h i hi j hj).symm
theorem Meq.trans {m n:Nat}{A B C:Nat→Nat→Int}(h:Meq p m n A B)(k:Meq p m n B C):Meq p m n A C:=fun i hi j hj=>(h i hi j hj).trans (k i hi j hj)
theorem Meq.mul {m n k:Nat}{A A' B B':Nat→Nat→Int}(h:Meq p m k A A')(g:Meq p k n B B'):Meq p m n (m7 k A B) (m7 k A' B'):=fun i hi j hj =>
 Eqm.sum fun t ht=>(h i hi t (List.mem_range.1 ht)).mul (g t (List.mem_range.1 ht) j hj)
theorem oJ {A:Nat→Nat→Int}{m n r:Nat}:dp p A m n r↔(∃ X Y,Meq p m n A (m7 r X Y))∧∃ L R,Meq p r r (m7 m L (m7 n A R)) CJ :=
 ⟨fun h=>⟨h.thru,h.one⟩,fun h=>⟨h.1,h.2⟩⟩
structure Red (p:Int)(M:Nat→Nat→Int)(m n r:Nat)(X E L R:Nat→Nat→Int):Prop where
 thru:Meq p m n M (m7 r X E)
 rows:Meq p r n (m7 m L M) E
 one:Meq p r r (m7 n E R) CJ
section
variable {M X E L R:Nat→Nat→Int}{m n r:Nat}(h:Red p M m n r X E L R)
include h
theorem Red.rank:dp p M m n r:=oJ.2 ⟨⟨X,E,h.thru⟩,L,R,by
 rw[← uY];exact (h.rows.mul (.refl _)).trans h.one⟩
end
theorem kh.red {A M:Nat→Nat→Int}{m n:Nat}{J:List Nat}(h:kh p A m n M J n):∃ X L R,Red p A m n J.length X M L R:=by
 have hb:∀ i,∃ w:Nat→Int,i<m→∀ j,j<n→Eqm p (A i j) (aG (List.range m) fun a=>w a * M a j):=fun i=>by
  by_cases hi:i<m
  ·obtain ⟨w,hw⟩:=h.bwd i hi;exact⟨w,fun _=>hw⟩
  ·exact⟨fun _=>0,fun k=>absurd k hi⟩
 have hf:∀ i,∃ w:Nat→Int,i<m→∀ j,j<n→Eqm p (M i j) (aG (List.range m) fun a=>w a * A a j):=fun i=>by
  by_cases hi:i<m
  ·obtain ⟨w,hw⟩:=h.fwd i hi;exact⟨w,fun _=>hw⟩
  ·exact⟨fun _=>0,fun k=>absurd k hi⟩
 refine⟨fun i=>(hb i).choose,fun i=>(hf i).choose,fun b k=>if J[k]?=some b then 1 else 0,⟨fun i hi j hj=>?_,fun i hi j hj=>?_,fun i hi k hk=>?_⟩⟩
 ·exact ((hb i).choose_spec hi j hj).trans (wG _ h.len fun a h1 h2=>h.low a h1 h2 j hj)
 ·exact ((hf i).choose_spec (by have:=h.len; omega) j hj).symm
 ·obtain ⟨jc,hjc⟩:∃ jc,J[k]?=some jc:=⟨J[k],List.getElem?_eq_getElem hk⟩;have hjn:jc<n:=h.col jc (List.mem_of_getElem? hjc);have e:m7 n M (fun b k=>if J[k]?=some b then 1 else 0) i k=M i jc:=by
   show (aG (List.range n) fun t=>M i t * (if J[k]?=some t then 1 else 0))=_;rw[hjc];rw[am (g:=fun b=>(if jc=b then 1 else 0) * M i b) (fun b _=>by rw[Int.mul_comm]; congr 1; by_cases q:jc=b <;> simp[q])];exact gv n jc hjn _
  rw[e];exact h.piv k jc hjc i (by have:=h.len; omega)
end
end Go.Pl
namespace Go.Pl
theorem qw {p:Int}(h:p=2∨p=3∨p=5∨p=7):Fld p:=by
 refine⟨fun h1=>?_,fun a ha=>?_⟩
 ·obtain ⟨k,hk⟩:=h1
  rcases h with rfl | rfl | rfl | rfl <;> omega
 ·rcases h with rfl | rfl | rfl | rfl
  ·have:a % 2≠0:=fun e=>ha ⟨a / 2,by omega⟩;exact⟨1,⟨a / 2,by omega⟩⟩
  ·have:a % 3≠0:=fun e=>ha ⟨a / 3,by omega⟩;by_cases h1:a % 3=1
   ·exact⟨1,⟨a / 3,by omega⟩⟩
   ·exact⟨2,⟨a / 3 * 2+1,by omega⟩⟩
  ·have:a % 5≠0:=fun e=>ha ⟨a / 5,by omega⟩;by_cases h1:a % 5=1
   ·exact⟨1,⟨a / 5,by omega⟩⟩
   by_cases h2:a % 5=2
   ·exact⟨3,⟨a / 5 * 3+1,by omega⟩⟩
   by_cases h3:a % 5=3
   ·exact⟨2,⟨a / 5 * 2+1,by omega⟩⟩
   ·exact⟨4,⟨a / 5 * 4+3,by omega⟩⟩
  ·have:a % 7≠0:=fun e=>ha ⟨a / 7,by omega⟩;by_cases h1:a % 7=1
   ·exact⟨1,⟨a / 7,by omega⟩⟩
   by_cases h2:a % 7=2
   ·exact⟨4,⟨a / 7 * 4+1,by omega⟩⟩
   by_cases h3:a % 7=3
   ·exact⟨5,⟨a / 7 * 5+2,by omega⟩⟩
   by_cases h4:a % 7=4
   ·exact⟨2,⟨a / 7 * 2+1,by omega⟩⟩
   by_cases h5:a % 7=5
   ·exact⟨3,⟨a / 7 * 3+2,by omega⟩⟩
   ·exact⟨6,⟨a / 7 * 6+5,by omega⟩⟩
section
variable {p:Int}
theorem Eqm.neg {a b:Int}(h:Eqm p a b):Eqm p (-a) (-b):=by
 have:=(Eqm.refl (-1)).mul h;refine (Eqm.of ?_).trans (this.trans (Eqm.of ?_))<;>omega
theorem Eqm.sub {a b c d:Int}(h:Eqm p a b)(k:Eqm p c d):Eqm p (a - c) (b - d):=by
 have:=h.add k.neg;rwa [← Int.sub_eq_add_neg,← Int.sub_eq_add_neg] at this
theorem ug (hp:Fld p)(A:Nat→Nat→Int)(m n:Nat):∀ c,c≤n→∃ M J,kh p A m n M J c
 | 0,_=>⟨A,[],.start A m n⟩
 | c+1,hc=>by
  obtain ⟨M,J,h⟩:=ug hp A m n c (by omega);by_cases h0:∀ i,J.length≤i→i<m→Eqm p (M i c) 0
  ·exact⟨M,J,h.none h0⟩
  ·have ⟨i0,h1,h2,h3⟩:∃ i0,J.length≤i0∧i0<m∧¬ Eqm p (M i0 c) 0:=by
    apply Classical.byContradiction;intro k;exact h0 fun i a b=>Classical.byContradiction fun e=>k ⟨i,a,b,e⟩
   obtain ⟨b,hb⟩:=hp.2 _ h3;rw[Int.mul_comm] at hb;exact⟨fun i j=>if i=J.length then b * M i0 j else M (if i=i0 then J.length else i) j - M (if i=i0 then J.length else i) c * (b * M i0 j),J++[c],h.pivot (by omega) h1 h2 hb fun i _ j _=>.refl _⟩
theorem Bj (hp:Fld p)(A:Nat→Nat→Int)(m n:Nat):∃ r X E L R,Red p A m n r X E L R:=by
 obtain ⟨M,J,h⟩:=ug hp A m n n (Nat.le_refl _);obtain ⟨X,L,R,h1⟩:=h.red;exact⟨_,X,M,L,R,h1⟩
open Classical in
noncomputable def rk (p:Int) (A:Nat→Nat→Int) (m n:Nat):Nat:=if h:∃ r,dp p A m n r then h.choose else 0
theorem yx (hp:Fld p){A:Nat→Nat→Int}{m n r:Nat}(h:dp p A m n r):rk p A m n=r:=by
 have h1:∃ r,dp p A m n r:=⟨r,h⟩;unfold rk;rw[dif_pos h1];exact dp.same hp h1.choose_spec h
theorem sb (hp:Fld p)(A:Nat→Nat→Int)(m n:Nat):dp p A m n (rk p A m n):=by
 obtain ⟨r,X,E,L,R,h⟩:=Bj hp A m n;rw[yx hp h.rank];exact h.rank
theorem dp.congr {A B:Nat→Nat→Int}{m n r:Nat}(h:dp p A m n r)(e:Meq p m n A B):dp p B m n r:=by
 obtain ⟨⟨X,Y,h1⟩,L,R,h2⟩:=oJ.1 h;exact oJ.2 ⟨⟨X,Y,e.symm.trans h1⟩,L,R,((Meq.refl L).mul (e.symm.mul (.refl R))).trans h2⟩
theorem tA (hp:Fld p){A B:Nat→Nat→Int}{m n:Nat}(e:Meq p m n A B):rk p A m n=rk p B m n:=(yx hp ((sb hp B m n).congr e.symm))
theorem Bb (hp:Fld p)(A:Nat→Nat→Int)(m n:Nat):rk p (fun i j=>A j i) n m=rk p A m n:=yx hp (sb hp A m n).turn
theorem kh.rk (hp:Fld p){A M:Nat→Nat→Int}{m n:Nat}{J:List Nat}(h:kh p A m n M J n):Pl.rk p A m n=J.length:=yx hp h.rank
theorem xy (hp:Fld p){A B U V:Nat→Nat→Int}{m n m' n':Nat}(h:Meq p m' n' B (m7 m U (m7 n A V))):rk p B m' n'≤rk p A m n :=
 (sb hp A m n).le hp (sb hp B m' n') (U:=U) (V:=V) h
theorem wx (hp:Fld p)(A:Nat→Nat→Int)(m n:Nat):rk p A m n≤n:=by
 obtain ⟨X,Y,h⟩:=(sb hp A m n).thru;obtain ⟨L,R,k⟩:=(sb hp A m n).one;refine Ar hp (X:=fun i b=>aG (List.range m) fun a=>L i a * A a b) (Y:=R) fun i hi j hj=>?_;refine (Eqm.of ?_).trans (k i hi j hj);have e:∀ t,(aG (List.range m) fun a=>L i a * A a t) * R t j=aG (List.range m) fun a=>L i a * (A a t * R t j):=fun t=>by
  rw[← er];exact am fun a _=>Int.mul_assoc _ _ _
 simp only[e];rw[ep];exact am fun a _=>cJ _ _ _
theorem ly (hp:Fld p)(A:Nat→Nat→Int)(m n:Nat):rk p A m n≤m:=by
 rw[← Bb hp];exact wx hp _ _ _
def mx {α β:Type}(R:List α)(C:List β)(e:α→β→Int):Nat→Nat→Int:=fun i j=>match R[i]?,C[j]? with
 | some r,some c=>e r c
 | _,_=>0
noncomputable def rkL {α β:Type} (p:Int) (R:List α) (C:List β) (e:α→β→Int):Nat:=rk p (mx R C e) R.length C.length
theorem wa {α β:Type}{R:List α}{C:List β}{e:α→β→Int}{i j:Nat}{r:α}{c:β}(hr:R[i]?=some r)(hc:C[j]?=some c):mx R C e i j=e r c:=by
 unfold mx;rw[hr,hc]
theorem xg (n i:Nat)(h:i<n)(f:Nat→Int):(aG (List.range n) fun k=>f k * (if k=i then 1 else 0))=f i:=by
 rw[am (g:=fun b=>(if i=b then 1 else 0) * f b) (fun b _=>by
  rw[Int.mul_comm];congr 1;by_cases q:i=b <;> simp[q,eq_comm])]
 exact gv n i h f
theorem Bc (hp:Fld p){A B:Nat→Nat→Int}{m n m' n':Nat}(f g:Nat→Nat)(u v:Nat→Int)(hf:∀ i,i<m'→f i<m)(hg:∀ j,j<n'→g j<n)(h:∀ i,i<m'→∀ j,j<n'→Eqm p (B i j) (u i * (A (f i) (g j) * v j))):rk p B m' n'≤rk p A m n:=by
 refine xy hp (U:=fun i a=>if f i=a then u i else 0) (V:=fun b j=>(if b=g j then 1 else 0) * v j) fun i hi j hj=>?_;refine (h i hi j hj).trans (Eqm.of ?_);unfold m7;have e1:∀ a,(aG (List.range n) fun b=>A a b * ((if b=g j then 1 else 0) * v j))=A a (g j) * v j:=fun a=>by
  rw[am (g:=fun b=>(A a b * (if b=g j then 1 else 0)) * v j) (fun b _=>(Int.mul_assoc _ _ _).symm),er,xg n (g j) (hg j hj)]
 simp only[e1];rw[am (g:=fun a=>(if f i=a then 1 else 0) * (u i * (A a (g j) * v j))) (fun a _=>by split <;> simp),gv m (f i) (hf i hi)]
theorem B9 (hp:Fld p){α β α' β':Type}{R:List α}{C:List β}{R':List α'}{C':List β'}{e:α→β→Int}{e':α'→β'→Int}(f:α'→α)(g:β'→β)(u:α'→Int)(v:β'→Int)(hf:∀ r∈R',f r∈R)(hg:∀ c∈C',g c∈C)(h:∀ r∈R',∀ c∈C',Eqm p (e' r c) (u r * (e (f r) (g c) * v c))):rkL p R' C' e'≤rkL p R C e:=by
 have hF:∀ i:Nat,∃ k:Nat,∀ r,R'[i]?=some r→k<R.length∧R[k]?=some (f r):=fun i=>by
  cases hr:R'[i]? with
  | none=>exact⟨0,fun r hr=>by cases hr⟩
  | some r =>
   obtain ⟨k,hk,e⟩:=List.mem_iff_getElem.1 (hf r (List.mem_of_getElem? hr));exact⟨k,fun r1 h1=>by cases h1; exact⟨hk,by rw[List.getElem?_eq_getElem hk,e]⟩⟩
 have hG:∀ j:Nat,∃ k:Nat,∀ c,C'[j]?=some c→k<C.length∧C[k]?=some (g c):=fun j=>by
  cases hc:C'[j]? with
  | none=>exact⟨0,fun c hc=>by cases hc⟩
  | some c =>
   obtain ⟨k,hk,e⟩:=List.mem_iff_getElem.1 (hg c (List.mem_of_getElem? hc));exact⟨k,fun c1 h1=>by cases h1; exact⟨hk,by rw[List.getElem?_eq_getElem hk,e]⟩⟩
 refine Bc hp (fun i=>(hF i).choose) (fun j=>(hG j).choose) (fun i=>(R'[i]?).elim 0 u) (fun j=>(C'[j]?).elim 0 v) (fun i hi=>?_) (fun j hj=>?_) fun i hi j hj=>?_
 ·exact ((hF i).choose_spec _ (List.getElem?_eq_getElem hi)).1
 ·exact ((hG j).choose_spec _ (List.getElem?_eq_getElem hj)).1
 ·have hr:R'[i]?=some R'[i]:=List.getElem?_eq_getElem hi;have hc:C'[j]?=some C'[j]:=List.getElem?_eq_getElem hj;have h1:=((hF i).choose_spec _ hr).2;have h2:=((hG j).choose_spec _ hc).2;rw[wa hr hc,wa h1 h2,hr,hc];exact h _ (List.getElem_mem hi) _ (List.getElem_mem hj)
end
end Go.Pl
namespace Go.Pl
def at2 (M:List (List Int)):Nat→Nat→Int:=fun i j=>(M.getD i []).getD j 0
def yN (m n:Nat)(f:Nat→Nat→Int):List (List Int):=(List.range m).map fun i=>(List.range n).map (f i)
theorem wY {m n:Nat}{f:Nat→Nat→Int}{i j:Nat}(hi:i<m)(hj:j<n):at2 (yN m n f) i j=f i j:=by
 have h1:(yN m n f).getD i []=(List.range n).map (f i):=by
  unfold yN;rw[List.getD_eq_getElem?_getD,List.getElem?_map,List.getElem?_range hi];rfl
 unfold at2;rw[h1,List.getD_eq_getElem?_getD,List.getElem?_map,List.getElem?_range hj];rfl
def yu (p a:Int):Int:=(((List.range p.toNat).find? fun b:Nat=>decide ((b * a) % p=1)).getD 0:Nat)
def vM (p:Int)(m n:Nat):Nat→Nat→List (List Int)→Nat→Nat
 | 0,_,_,k=>k
 | f+1,c,M,k=>match (List.range m).find? fun i=>decide (k≤i)&&decide (at2 M i c % p≠0) with
  | none=>vM p m n f (c+1) M k
  | some i0=>vM p m n f (c+1) (yN m n fun i j=>(if i=k then yu p (at2 M i0 c) * at2 M i0 j else at2 M (if i=i0 then k else i) j - at2 M (if i=i0 then k else i) c * (yu p (at2 M i0 c) * at2 M i0 j)) % p) (k+1)
theorem ot (p a:Int):Eqm p (a % p) a:=by
 refine⟨-(a / p),?_⟩;rw[Int.mul_neg];have:=Int.emod_add_mul_ediv a p;omega
theorem o5 {p:Int}(hp:Fld p)(hinv:∀ a,a % p≠0→Eqm p (yu p a * a) 1){A:Nat→Nat→Int}{m n:Nat}:∀ (f c:Nat) (M:List (List Int)) (J:List Nat),f+c=n→kh p A m n (at2 M) J c→vM p m n f c M J.length=rk p A m n
 | 0,c,M,J,hc,h=>by
  have:c=n:=by omega
  subst this;exact (h.rk hp).symm
 | f+1,c,M,J,hc,h=>by
  unfold vM;cases hf:(List.range m).find? fun i=>decide (J.length≤i)&&decide (at2 M i c % p≠0) with
  | none =>
   refine o5 hp hinv f (c+1) M J (by omega) (h.none fun i h1 h2=>?_);have:=List.find?_eq_none.1 hf i (List.mem_range.2 h2);simp only[Bool.and_eq_true,decide_eq_true_eq,not_and,Classical.not_not] at this;have h0:=this h1;exact⟨at2 M i c / p,by have:=Int.emod_add_mul_ediv (at2 M i c) p; omega⟩
  | some i0 =>
   have h1:=List.find?_some hf;have h2:=List.mem_range.1 (List.mem_of_find?_eq_some hf);simp only[Bool.and_eq_true,decide_eq_true_eq] at h1;have h3:=h.pivot (M':=at2 (yN m n fun i j=>(if i=J.length then yu p (at2 M i0 c) * at2 M i0 j else at2 M (if i=i0 then J.length else i) j - at2 M (if i=i0 then J.length else i) c * (yu p (at2 M i0 c) * at2 M i0 j)) % p)) (by omega) h1.1 h2 (hinv _ h1.2) fun i hi j hj=>by
    rw[wY hi hj];exact ot _ _
   have:=o5 hp hinv f (c+1) _ (J++[c]) (by omega) h3;rw[List.length_append,List.length_singleton] at this;exact this
theorem Bt (a:Int)(h:a % 2≠0):Eqm 2 (yu 2 a * a) 1:=by
 have h1:yu 2 a=1:=by
  unfold yu;have:(((1:Nat):Int) * a) % 2=1:=by omega
  have h0:¬ (((0:Nat):Int) * a) % 2=1:=by simp
  rw[show List.range (2:Int).toNat=[0,1] from rfl,List.find?_cons_of_neg (by rw[decide_eq_true_eq]; exact h0),List.find?_cons_of_pos (by rw[decide_eq_true_eq]; exact this)];rfl
 rw[h1];exact⟨a / 2,by omega⟩
def rkF {α β:Type}(R:List α)(C:List β)(e:α→β→Int):Nat:=vM 2 R.length C.length C.length 0 (yN R.length C.length (mx R C e)) 0
theorem Ca {α β:Type}(R:List α)(C:List β)(e:α→β→Int):rkL 2 R C e=rkF R C e:=by
 have hp:Fld 2:=qw (.inl rfl);unfold rkF rkL;have h1:Meq 2 R.length C.length (mx R C e) (at2 (yN R.length C.length (mx R C e))):=fun i hi j hj=>Eqm.of (wY hi hj).symm;rw[tA hp h1];exact (o5 hp Bt C.length 0 _ [] (by omega) (kh.start _ _ _)).symm
def fv (p:Int):Bool:=decide (p=2)||decide (p=3)||decide (p=5)||decide (p=7)
end Go.Pl
namespace Go.Sy
open Go
section
variable {P:Program}{N:Nat}{E:World}{dst:Option Tmp}{ty:TypeId}{pos:String}{af:Array Edge}{gd:Option (Nat×Bool)}{f:Fr}{g:PH}{s:Own}
theorem SU.mkFuncB {n:FuncId}{l:List Operand}{vs:List Value}(hl:evs f l=some vs):SU P N ⟨dst,.makeFunc (.func n) l.toArray #[],ty,pos,af,gd⟩ f (.func (.func n) vs.toArray #[]):=fun a w ha=>by
 simp[execOp,Instr.makeFunc,ha.evs hl]
def yz (P:Program)(E:World)(v:Value)(args:List Value)(g:PH)(s:Own)(R:Value→PH→Own→Prop):Prop :=
 ∃ n fst,v = .func (.func n) fst #[]∧(∀ args w,(callFunc n args).run P w = .ok (.enter n args) w)∧Ctr P E n (fst++args.toArray) g s R
theorem SO.callB {x:Operand}{l:List Operand}{tys:Array TypeId}{v:Value}{vs:List Value}{R:Value→PH→Own→Prop}(hx:ev f x=some v)(hl:evs f l=some vs)(hc:yz P E v vs g s R) :
  SO P N E ⟨dst,.call ⟨.value x,l.toArray,tys⟩,ty,pos,af,gd⟩ f g s R:=by
 intro a w ha hw Q next hn;obtain ⟨n,fst,rfl,hcall,hfn⟩:=hc;unfold Oper.wp;have hr:(execOp a.eval ⟨dst,.call ⟨.value x,l.toArray,tys⟩,ty,pos,af,gd⟩).run P w = .ok (.enter n (fst++vs.toArray)) w:=by
  simp[execOp,resolve,ha.ev hx,Deferred.ofValue,invoke,hcall,ha.evs hl]
 rw[hr];refine (hfn w hw).mono fun e w' he=>?_;obtain ⟨u,g',s',rfl,hw',hR⟩:=he;exact hn u g' s' w' hR hw'
theorem SU.minF {x y:Operand}{T U:TypeId}{m n:Int}(hx:ev f x=some (vi m))(hy:ev f y=some (vi n)) :
  SU P N ⟨dst,.call ⟨.builtin .min,#[x,y],#[T,U]⟩,ty,pos,af,gd⟩ f (vi (min m n)):=fun a w ha=>by
 have h:=run_min_int2 (P:=P) (w:=w) #[T,U] ty .i64 .i64 m n;have h2:(if n<m then n else m)=min m n:=by split <;> omega
 rw[h2] at h;simp[execOp,resolve,invoke,builtin,ha.ev hx,ha.ev hy,h]
theorem SU.maxF {x y:Operand}{T U:TypeId}{m n:Int}(hx:ev f x=some (vi m))(hy:ev f y=some (vi n)) :
  SU P N ⟨dst,.call ⟨.builtin .max,#[x,y],#[T,U]⟩,ty,pos,af,gd⟩ f (vi (max m n)):=fun a w ha=>by
 have h:=run_max_int2 (P:=P) (w:=w) #[T,U] ty .i64 .i64 m n;have h2:(if m<n then n else m)=max m n:=by split <;> omega
 rw[h2] at h;simp[execOp,resolve,invoke,builtin,ha.ev hx,ha.ev hy,h]
end
end Go.Sy
namespace Go.Proofs.YtcfkpajlakidbaaGreat
open _root_.Go.Proofs.Tryz _root_.Go.Proofs.YtcfkpajlakidbaaGreat.Tryz
open Go Go.Sy Go.Pl Go.Proofs
set_option maxRecDepth 100000
def Fp (p:Int):Prop:=p=2∨p=3∨p=5∨p=7
theorem Fp.fld {p:Int}(h:Fp p):Fld p:=qw h
theorem Fp.lt {p:Int}(h:Fp p):2≤p∧p≤7:=by
 rcases h with rfl | rfl | rfl | rfl <;> omega
theorem fW {p:Int}:fv p=true↔Fp p:=by
 unfold fv Fp;simp only[Bool.or_eq_true,zi6];omega
theorem nI (E:World)(g:PH)(s:Own)(p:Int)(h2:2≤p)(h9:p<9) :
  Ctr Tryz.prog E 29 #[vi p] g s (fun r g' s'=>r=vb (fv p)∧g=g'∧s=s'):=by
 refine za9 (args:=[vi p]) func29 I ntmps29 (bE I) ?_;refine rZ (aT I (sQ (sW I (lU (SU.eq (v':=vb false) (lS I I) (zd5 vb (zf1 oM))) (lM I (yC I (lY I I I (SU.eq (v':=vb false) (gR I I) (zd5 vb (zf1 oM))) (yF I (tZ (cF I (kP (tN (sQ (rZ (aT I (bK ?_))))))))))))))));refine oP (ι:=Nat) (fun k=>[(0,vi p),(3,vi k)]) (fun _=>g) (fun _=>s) (fun k=>k=2∨(k=3∧(p=5∨p=7))) (fun k=>3 - k) 2 sB I I (.inl I) ?_;rintro k hk;have hk3:(k:Int)=2∨(k:Int)=3∧(p=5∨p=7):=oM;refine sQ (sW rfl (lM rfl (lU (SU.eq (v':=vi ((k:Int) * k)) (SU.mulW rfl rfl) (zd5 vi (zk1 _ (by rcases hk3 with h | ⟨h,_⟩ <;> rw[h] <;> omega)))) ?_)));refine lM I (lU (SU.leq I I) (tZ ?_));refine iP I (fun hle=>?_) (fun hle=>?_)
 ·have hk2:k=2:=by
   rcases hk with h | ⟨h,h'⟩
   ·exact h
   ·subst h;have:(((3:Nat):Int) * ((3:Nat):Int))=9:=rfl;rw[this] at hle;omega
  subst hk2;have h4:4≤p:=by
   have:(((2:Nat):Int) * ((2:Nat):Int))=4:=rfl;rw[this] at hle;omega
  refine kP (tN (sQ (bK (sW I (lM I (lU (SU.eq (v':=vi (p % 2)) (zd2 I I dC) (zd5 vi (by rw[Int.tmod_eq_emod_of_nonneg oM]; rfl))) ?_))))));refine yE I (tZ ?_);refine iP I (fun hr=>?_) (fun hr=>?_)
  ·refine rZ (aT I (rE (bR (tR (tR (bR (tR ?_)))))));have:fv p=false:=by
    rw[Bool.eq_false_iff,Ne,fW];rintro (h | h | h | h)<;>omega
   rw[this];exact za6 (.inl I) results29 I ⟨I,I,I⟩
  ·refine kP (bN (tN (rG (lM I (yD I (lA I (nL ?_)))))));exact gA 3 sB I I (.inr ⟨I,oM⟩) dC
 ·refine xI (tX (tX (bX (tN (rZ (aT I (rE ?_)))))));have hp:fv p=true:=by
   rw[fW]
   rcases hk with h | ⟨h,h'⟩
   ·subst h;have:(((2:Nat):Int) * ((2:Nat):Int))=4:=rfl;rw[this] at hle;unfold Fp;omega
   ·unfold Fp;omega
  rw[hp];exact za6 (.inl I) results29 I ⟨I,I,I⟩
theorem nY (E:World)(g:PH)(s:Own)(p:Int)(hp:Fp p)(R C:Nat)(hr:R≤400)(hc:C≤400) :
  Ctr Tryz.prog E 158 #[vi p,vi R,vi C] g s (fun x g' s'=>x=vb true∧g=g'∧s=s'):=by
 have hl:=hp.lt;have hps:fv p=true:=fW.2 hp;refine za9 (args:=[vi p,vi R,vi C]) func158 I ntmps158 (bE I) ?_;refine rZ (aT I (sW I (lW (cL call29 I (by have:=nI E g s p oM oM; rw[hps] at this; exact this)) ?_)));rintro _ _ _ ⟨rfl,rfl,rfl⟩;refine lM I (yC I (yC I (lY I I I (SU.minF I I) (lY I I I (SU.eq (v':=vb true) (gQ I I) (zd5 vb (zf2 oM))) (yP I (lM I (yC I (yC I (lY I I I (SU.maxF I I) (lY I I I (SU.eq (v':=vb true) (SU.leq I I) (zd5 vb (zf2 oM))) (yP I (aT I (rE ?_)))))))))))));exact za6 (.inl I) results158 I ⟨I,I,I⟩
theorem yt {r c:Nat}(hr:r≤400)(hc:c≤400):r * c≤160000:=Nat.mul_le_mul hr hc
def FmR (g:PH)(v:Value)(p:Int)(R C:Nat)(A:List Int):Prop:=∃ q c,v = .agg #[vi p,vi R,vi C,.slice q A.length c]∧bZ g (.slice q A.length c) A
theorem Tryz.build147 (m r c:Int)(p:Option Addr)(n k:Nat)(w:World):(Instr.build 147 #[(0,vi m),(1,vi r),(2,vi c),(3,.slice p n k)]).run Tryz.prog w = .ok (.agg #[vi m,vi r,vi c,.slice p n k]) w:=by
 have h1:∀ n,(vi n).cells = #[vi n]:=fun _=>rfl;have h2:(Value.slice p n k).cells = #[.slice p n k]:=rfl;simp[Instr.build,Instr.fill,h1,h2];rfl
theorem xU (E:World)(g:PH)(s:Own)(p:Int)(hp:Fp p)(r c:Nat)(hr:r≤400)(hc:c≤400) :
  Ctr Tryz.prog E 129 #[vi p,vi r,vi c] g s (fun x g' s'=>g=g'∧∃ b,x = .agg #[vi p,vi r,vi c,.slice (some ⟨b,0,none⟩) (r * c) (r * c)]∧s'=rowA encInt 3 (.slice (some ⟨b,0,none⟩) (r * c) (r * c)) (List.replicate (r * c) 0)::s):=by
 have hm:=yt hr hc;refine za9 (args:=[vi p,vi r,vi c]) func129 I ntmps129 (bE I) ?_;refine rZ (bW (aL zk5) fun b6=>?_);refine tZ (sQ (sW I (lM I (lM I (lW (cL call158 I (nY E g _ p hp r c hr hc)) ?_)))));rintro _ _ _ ⟨rfl,rfl,rfl⟩;refine lU (SU.not I) (tZ (cF I (kP (tN (sW I (lM I (lM I (lM I (lM I (lU (SU.eq (v':=vi ((r * c:Nat))) (SU.mulW I I) (zd5 vi (by rw[← Int.natCast_mul]; exact zk1 _ oM))) ?_))))))))));refine lW (mK encInt 0 sty25 I I I oM oM) ?_;rintro _ _ _ ⟨b15,rfl,rfl,rfl⟩;refine lU (za1 I (build147 _ _ _ _ _ _)) ?_;refine oZ (sK 1 cC rfl rfl rfl rfl rfl (by (repeat' (first | exact trivial | refine⟨by rfl,?_⟩)))) ?_;refine tZ (rE ?_);exact ST.retCD 1 _ (.inl I) results129 I isAgg147 cC I I (.cons_cons _ (.cons _ (.refl _))) ⟨I,_,I,I⟩
theorem Cb (E:World)(g:PH)(s:Own)(b:Nat)(p n:Int)(hb:ee g s ⟨b,0,none⟩ (vi p))(h0:0≤n)(hn:n<p) :
  cG Tryz.prog E (.func (.func 175) #[] #[pp b 0]) [vi n] g s (fun x g' s'=>x=vb false∧g=g'∧s=s'):=by
 refine cG.mk (cap:=[pp b 0]) call175 ?_;refine za9 (args:=[vi n,pp b 0]) func175 I ntmps175 (bE I) ?_;refine rZ (aT I (sW I (lU (SU.eq (v':=vb false) (lS I I) (zd5 vb (zf1 oM))) (lM I (yC I (lY I I I (fA dh I zT3 I) (SL.gq (gT I I I dC) (qL (v:=vi p) iT3 I hb) dC (lY I I I (SU.eq (v':=vb false) (gQ I I) (zd5 vb (zf1 oM))) (yF I (aT I (rE ?_)))))))))));exact za6 (.inl I) results175 I ⟨I,I,I⟩
theorem vh (E:World)(g:PH)(s:Own)(v:Value)(kn:FuncId)(kc:Array Value)(l:List Int)(hv:bZ g v l)(hl:l.length<1099511627776)(hp:∀ a∈l,cG Tryz.prog E (.func (.func kn) #[] kc) [vi a] g s (fun x g' s'=>x=vb false∧g=g'∧s=s')) :
  Ctr Tryz.prog E 187 #[v,.func (.func kn) #[] kc] g s (fun r g' s'=>r=vi (-1)∧g=g'∧s=s'):=by
 obtain ⟨p,c,rfl⟩:=za2 hv;refine za9 (args:=[.slice p l.length c,.func (.func kn) #[] kc]) func187 I ntmps187 (bE I) ?_;refine rZ (aT I (sQ (sW I (lU (eN aj I) (lM I (tZ (bK ?_)))))));refine oP (ι:=Nat) (fun k=>[(0,.slice p l.length c),(1,.func (.func kn) #[] kc),(7,vi l.length),(8,vi k)]) (fun _=>g) (fun _=>s) (fun k=>k≤l.length) (fun k=>l.length - k) 0
  sB rfl rfl (ze9 _) ?_
 rintro k hk;refine rZ (yL I (tZ (sQ ?_)));refine iP I (fun hlt=>?_) (fun hlt=>?_)
 ·have hkl:k<l.length:=oM;have hb1:=za4 hv oM;refine kP (tN (sQ (bK (sW I (aT I (sW I (lM I (lM I (lU (iA aj zT3 I I hb1 oM sL) ?_)))))))));refine SL.q (eB iT3 I (za5 hv) (gE hkl) I) dC ?_;refine lW (SO.callV I I (hp l[k] (gM hkl))) ?_;rintro _ _ _ ⟨rfl,rfl,rfl⟩;refine tZ (cF I (kP (bN (tN (rG (yD I (lM I (nL ?_))))))));exact gA (k+1) sB I I oM oM
 ·refine xI (tX (tX (bX (tN (rZ (aT I (rE ?_)))))));exact za6 (.inl I) results187 I ⟨I,I,I⟩
theorem pC (E:World)(g:PH)(s:Own)(v:Value)(kn:FuncId)(kc:Array Value)(l:List Int)(hv:bZ g v l)(hl:l.length<1099511627776)(hp:∀ a∈l,cG Tryz.prog E (.func (.func kn) #[] kc) [vi a] g s (fun x g' s'=>x=vb false∧g=g'∧s=s')) :
  Ctr Tryz.prog E 174 #[v,.func (.func kn) #[] kc] g s (fun r g' s'=>r=vb false∧g=g'∧s=s'):=by
 refine za9 (args:=[v,.func (.func kn) #[] kc]) func174 I ntmps174 (bE I) ?_;refine rZ (aT I (sW I (lM I (lW (cL call187 I (vh E g _ v kn kc l hv hl hp)) ?_))));rintro _ _ _ ⟨rfl,rfl,rfl⟩;refine lU (gQ I I) (aT I (rE ?_));exact za6 (.inl I) results174 I ⟨I,I,I⟩
theorem sG (E:World)(g:PH)(s:Own)(v:Value)(p:Int)(hp:Fp p)(R C:Nat)(hr:R≤400)(hc:C≤400)(A:List Int)(hA:A.length=R * C)(hv:FmR g v p R C A)(h0:∀ x∈A,0≤x∧x<p) :
  Ctr Tryz.prog E 156 #[v] g s (fun x g' s'=>x=vb true∧g=g'∧s=s'):=by
 obtain ⟨q,c,rfl,hs⟩:=hv;have hm:=yt hr hc;refine za9 (args:=[.agg #[vi p,vi R,vi C,.slice q A.length c]]) func156 I ntmps156 (bE I) ?_;refine rZ (bW (bO I) fun b1=>?_);refine aT I (rZ (lU (fA dh I zT3 I) (lK (qL iT3 I (cO 0 I I)) (lU (fA dh I zT3 I) (lK (qL iT3 I (cO 0 I I)) (lU (fA dh I zT3 I) (lK (qL iT3 I (cO 0 I I)) (lW (cL call158 I (nY E g _ p hp R C hr hc)) ?_))))))));rintro _ _ _ ⟨rfl,rfl,rfl⟩;refine lM I (lY I I I (fA dh I cg I) (SL.gq (gT I I I dC) (qL dG I (cO 0 I I)) dC (lY I I I (eN aj I) (lY I I I (fA dh I zT3 I) (SL.gq (gT I I I dC) (qL iT3 I (cO 0 I I)) dC (lY I I I (fA dh I zT3 I) (SL.gq (gT I I I dC) (qL iT3 I (cO 0 I I)) dC (lY I I I (SU.eq (v':=vi ((R * C:Nat))) (SU.mulW I I) (zd5 vi (by rw[← Int.natCast_mul]; exact zk1 _ oM))) ?_))))))));refine lY I I I (SU.eq (v':=vb true) (eQ I I) (zd5 vb (zf2 (by rw[hA])))) ?_;refine yP I (lM I (lY I I I (fA dh I cg I) (SL.gq (gT I I I dC) (qL dG I (cO 0 I I)) dC (lY I I I (SU.mkFunc I) (SL.go (gT I I I dC) (cL call174 I (pC E g _ (.slice q A.length c) _ _ A hs oM fun a ha=>Cb E g _ b1 p a (cO 0 I I) (h0 a ha).1 (h0 a ha).2)) dC ?_)))));rintro _ _ _ ⟨rfl,rfl,rfl⟩;refine lY I I I (SU.not I) (yP I (aT I (rE (dR (s':=s) uR ?_))));exact za6 (.inl I) results156 I ⟨I,I,I⟩
theorem ed {b x y:Nat}(h:x=y):Value.pointer (some ⟨b,x,none⟩)=Value.pointer (some ⟨b,y,none⟩):=by rw[h]
def iE (b i C c:Nat):Value:=.slice (some ⟨b,i * C * 1,none⟩) C (c - i * C)
theorem uH {b i C c:Nat}(hC:0<C)(hc:(i+1) * C≤c):sliced (some ⟨b,0,none⟩) (i * C) ((i+1) * C) c 1=iE b i C c:=by
 have h1:(i+1) * C=i * C+C:=by rw[Nat.add_mul,Nat.one_mul]
 unfold sliced iE;rw[zf3 oM,h1,Nat.add_sub_cancel_left];simp[Addr.add];exact fun h=>h.symm
def kG (p:Int)(R C:Nat)(v:Value)(ov:List Int):Array Value:=(vi p::vi R::vi C::v::ov.map vi).toArray
def atF (L:List Int)(C x y:Nat):Int:=L.getD (x * C+y) 0
theorem ie {R C x y:Nat}(hx:x<R)(hy:y<C):x * C+y<R * C:=by
 have:=Nat.mul_le_mul_right C (show x+1≤R from hx);rw[Nat.add_mul,Nat.one_mul] at this;omega
theorem jm {R C x:Nat}(hx:x<R):(x+1) * C≤R * C:=Nat.mul_le_mul_right C hx
theorem wL {C x y x' y':Nat}(hy:y<C)(hy':y'<C):x * C+y=x' * C+y'↔x=x'∧y=y' :=
 ⟨fun h=>by
  have h1:(x * C+y) / C=x:=by rw[Nat.mul_comm,Nat.mul_add_div oM,Nat.div_eq_of_lt hy,Nat.add_zero]
  have h2:(x' * C+y') / C=x':=by rw[Nat.mul_comm,Nat.mul_add_div oM,Nat.div_eq_of_lt hy',Nat.add_zero]
  have h3:x=x':=by rw[← h1,← h2,h]
  subst h3;exact⟨rfl,oM⟩,fun ⟨h1,h2⟩=>by rw[h1,h2]⟩
theorem lH {L:List Int}{R C x y x' y':Nat}(hL:L.length=R * C)(hx:x<R)(hy:y<C)(hy':y'<C)(v:Int):atF (L.set (x * C+y) v) C x' y'=if x=x'∧y=y' then v else atF L C x' y':=by
 unfold atF;rw[zg4,zg4,List.getElem?_set];by_cases h:x=x'∧y=y'
 ·rw[zf4 ((wL hy hy').2 h),zf4 h,zf4 (by rw[hL]; exact ie hx hy)];rfl
 ·rw[zf3 (fun e=>h ((wL hy hy').1 e)),zf3 h]
theorem ig {L:List Int}{R C x y:Nat}(hL:L.length=R * C)(hx:x<R)(hy:y<C):L[x * C+y]?=some (atF L C x y):=by
 have:=ie hx hy;unfold atF;rw[zg4,gE oM];rfl
def Ov (p:Int)(ov:List Int):Prop:=ov.length=998∧∀ i:Nat,i<8→ov.getD i 0=0∨(0<ov.getD i 0∧ov.getD i 0<p∧(ov.getD i 0 * i) % p=1)
def vR (bm:Nat)(p:Int)(R C:Nat)(v:Value):Ent:=⟨some bm,fun oo=>∃ ov,Ov p ov∧oo=some (.cells (kG p R C v ov) 195 (0,0))⟩
theorem ol {g:PH}{s:Own}{bm:Nat}{p:Int}{R C o:Nat}{v u:Value}(i:Nat)(hi:s[i]?=some (vR bm p R C v))(hu:[vi p,vi R,vi C,v][o]?=some u):ee g s ⟨bm,o,none⟩ u:=fun E w hw=>by
 have:=hw.own _ (zf5 hi);simp only[vR,Option.bind_some] at this;obtain ⟨ov,_,h⟩:=this;have ho:o<4:=(ze8.1 hu).1;have h2:(kG p R C v ov)[o]?=some u:=by
  rw[← hu];unfold kG
  match o,ho with
  | 0,_=>rfl
  | 1,_=>rfl
  | 2,_=>rfl
  | 3,_=>rfl
 simp[World.cell?,h,h2]
def gn (p:Int)(R C b cE bm:Nat)(L:List Int)(s:Own):Own:=rowA encInt 3 (.slice (some ⟨b,0,none⟩) (R * C) cE) L::vR bm p R C (.slice (some ⟨b,0,none⟩) (R * C) cE)::s
theorem dz (E:World)(g:PH)(s:Own)(p:Int)(R C b cE bm i:Nat)(L:List Int)(hR:R≤400)(hC:C≤400)(hC0:0<C)(hi:i<R)(hc:R * C≤cE) :
  Ctr Tryz.prog E 176 #[pp bm 0,vi i] g (gn p R C b cE bm L s) (fun x g' s'=>x=iE b i C cE∧g=g'∧s'=gn p R C b cE bm L s):=by
 have hm:=yt hR hC;have h1:=jm (C:=C) hi;have h2:(i+1) * C=i * C+C:=by rw[Nat.add_mul,Nat.one_mul]
 have hsl:=uH (b:=b) hC0 (zj8 h1 hc);unfold gn;refine za9 (args:=[pp bm 0,vi i]) func176 I ntmps176 (bE I) ?_;refine rZ (aT I (sQ ?_));refine dW [] [(0,2),(1,2),(2,2),(3,2),(4,1),(5,2),(6,2),(7,2),(8,2),(9,2),(10,1),(11,2),(12,2),(13,2),(14,2),(15,2),(16,2),(17,2),(18,1),(19,2),(20,2),(21,2)] zd6 kR ?_;refine yM I (pU I (nC I) (pU I (fA j6 I cC I) (pU I (fA dh I cg I) (pK I (qL (v:=.slice (some ⟨b,0,none⟩) (R * C) cE) dG I (ol 1 I I)) (yM I (yM I (pU I (nC I) (pU I (fA j6 I cC I) (pU I (fA dh I zT3 I) (pK I (qL (v:=vi C) iT3 I (ol 1 I I)) (pU I (SU.eq (v':=vi ((i * C:Nat))) (SU.mulW I I) (zd5 vi (by rw[← Int.natCast_mul]; exact zk1 _ oM))) ?_)))))))))));refine yM I (pU I (SU.eq (v':=vi ((i+1:Nat))) (aD I I oM) (zd5 vi oM)) (yM I (pU I (nC I) (pU I (fA j6 I cC I) (pU I (fA dh I zT3 I) (pK I (qL (v:=vi C) iT3 I (ol 1 I I)) (pU I (SU.eq (v':=vi (((i+1) * C:Nat))) (SU.mulW I I) (zd5 vi (by rw[← Int.natCast_mul]; exact zk1 _ oM))) ?_)))))));refine pU I (SU.eq (v':=iE b i C cE) (SU.sliceLH aj zT3 I I I oM oM oM) (by rw[← hsl]; rfl)) ?_;refine pU I (aS I) (pN (tN (rE ?_)));exact za6 (.inl I) results176 I ⟨I,I,I⟩
def swF (i j x:Nat):Nat:=if x=i then j else if x=j then i else x
theorem AJ (i j:Nat):swF i j i=j:=zf4 rfl
theorem CA (i j:Nat):swF i j j=i:=by
 unfold swF;split
 ·rename_i h; exact h
 ·rw[zf4 rfl]
theorem Cz {i j x:Nat}(h1:x≠i)(h2:x≠j):swF i j x=x:=by
 unfold swF;rw[zf3 h1,zf3 h2]
theorem vm (E:World)(g:PH)(s:Own)(p:Int)(R C b cE bm i j:Nat)(L:List Int)(hR:R≤400)(hC:C≤400)(hC0:0<C)(hi:i<R)(hj:j<R)(hc:R * C≤cE)(hL:L.length=R * C) :
  Ctr Tryz.prog E 177 #[pp bm 0,vi i,vi j] g (gn p R C b cE bm L s) (fun _ g' s'=>g=g'∧∃ L',s'=gn p R C b cE bm L' s∧L'.length=R * C∧∀ x<R,∀ y<C,atF L' C x y=atF L C (swF i j x) y):=by
 have hm:=yt hR hC;have hi1:=jm (C:=C) hi;have hj1:=jm (C:=C) hj;have hi2:(i+1) * C=i * C+C:=by rw[Nat.add_mul,Nat.one_mul]
 have hj2:(j+1) * C=j * C+C:=by rw[Nat.add_mul,Nat.one_mul]
 refine za9 (args:=[pp bm 0,vi i,vi j]) func177 I ntmps177 (bE I) ?_;refine sW I (lM I (lW (cL call176 I (dz E g s p R C b cE bm i L hR hC hC0 hi hc)) ?_));rintro _ _ _ ⟨rfl,rfl,rfl⟩;refine lM I (lM I (lW (cL call176 I (dz E g s p R C b cE bm j L hR hC hC0 hj hc)) ?_));rintro _ _ _ ⟨rfl,rfl,rfl⟩;refine lA I (aT I (sW I (lU (SU.eq (v':=vi (C:Nat)) (eM aj I I) I) (lM I (tZ (bK ?_))))));refine oP (ι:=Nat×List Int) (fun z=>[(6,iE b i C cE),(7,iE b j C cE),(16,vi C),(17,vi z.1)]) (fun _=>g) (fun z=>gn p R C b cE bm z.2 s) (fun z=>z.1≤C∧z.2.length=R * C∧∀ x<R,∀ y<C,atF z.2 C x y=if y<z.1 then atF L C (swF i j x) y else atF L C x y) (fun z=>C - z.1) (0,L) sB I I ⟨ze9 _,hL,fun x _ y _=>by simp⟩ ?_;rintro ⟨k,M⟩ ⟨hk,hM,hz⟩;dsimp only at hk hM hz ⊢;refine rZ (yL I (tZ (sQ ?_)));refine iP I (fun hlt=>?_) (fun hlt=>?_)
 ·have hkC:k<C:=oM;have gi:=ig hM hi hkC;have gj:=ig hM hj hkC;unfold gn;refine kP (tN (sQ (bK (sW I (aT I ?_)))));refine dW [13,15] [(0,2),(1,2),(2,2),(3,2),(4,2),(5,2),(6,2),(7,1),(8,2),(9,2),(10,2),(11,1),(12,2),(13,0),(14,2),(15,0)] zd6 kR ?_;refine yM I (yM I (yM I (yM I (yM I (yM I (pU I (SU.eq (v':=.pointer (some ⟨b,0+(j * C+k) * 1,none⟩)) (iA aj zT3 I I I oM (by simp only[iE,slen]; omega)) (ed (by simp only[Int.toNat_natCast]; omega))) ?_))))));refine pK I (eB (j:=j * C+k) iT3 I (zb5 0 I) gj I) (yM I (yM I (pU I (SU.eq (v':=.pointer (some ⟨b,0+(i * C+k) * 1,none⟩)) (iA aj zT3 I I I oM (by simp only[iE,slen]; omega)) (ed (by simp only[Int.toNat_natCast]; omega))) ?_)));refine pK I (eB (j:=i * C+k) iT3 I (zb5 0 I) gi I) (pU I (SU.eq (v':=.pointer (some ⟨b,0+(i * C+k) * 1,none⟩)) (iA aj zT3 I I I oM (by simp only[iE,slen]; omega)) (ed (by simp only[Int.toNat_natCast]; omega))) ?_);refine SP.on I (sT (e:=encInt) (a:=atF M C j k) (j:=i * C+k) 0 zT3 I I I (by rw[hM]; exact ie hi hkC) I) (.inl dC) ?_;rintro _ _ _ ⟨rfl,rfl⟩;refine pU I (SU.eq (v':=.pointer (some ⟨b,0+(j * C+k) * 1,none⟩)) (iA aj zT3 I I I oM (by simp only[iE,slen]; omega)) (ed (by simp only[Int.toNat_natCast]; omega))) ?_;refine SP.on I (sT (e:=encInt) (a:=atF M C i k) (j:=j * C+k) 0 zT3 I I I (by rw[zh6,hM]; exact ie hj hkC) I) (.inl dC) ?_;rintro _ _ _ ⟨rfl,rfl⟩;refine pN (bN (tN (rG (yD I (lM I (nL ?_))))));have h1:(M.set (i * C+k) (atF M C j k)).length=R * C:=by rw[zh6,hM]
  exact gA (k+1,(M.set (i * C+k) (atF M C j k)).set (j * C+k) (atF M C i k)) sB I I ⟨by dsimp only; omega,by dsimp only; rw[zh6,h1],fun x hx y hy=>by
   dsimp only;rw[lH h1 hj hkC hy,lH hM hi hkC hy,hz x hx y hy,hz i hi k hkC,hz j hj k hkC,zf3 (Nat.lt_irrefl k),zf3 (Nat.lt_irrefl k)];by_cases e1:j=x∧k=y
   ·obtain ⟨e1,e0⟩:=e1;subst e1;subst e0;rw[zf4 ⟨rfl,rfl⟩,zf4 (Nat.lt_succ_self k),CA]
   ·rw[zf3 e1];by_cases e2:i=x∧k=y
    ·obtain ⟨e2,e0⟩:=e2;subst e2;subst e0;rw[zf4 ⟨rfl,rfl⟩,zf4 (Nat.lt_succ_self k),AJ]
    ·rw[zf3 e2];by_cases e3:y<k
     ·rw[zf4 e3,zf4 (Nat.lt_succ_of_lt e3)]
     ·rw[zf3 e3];by_cases e4:y=k
      ·subst e4;rw[zf4 (Nat.lt_succ_self y),Cz (fun e=>e2 ⟨e.symm,rfl⟩) (fun e=>e1 ⟨e.symm,rfl⟩)]
      ·rw[zf3 (show ¬ y<k+1 by omega)]⟩ (by dsimp only; omega)
 ·refine xI (tX (tX (bX ?_)));have hkC:k=C:=oM;subst hkC;exact ST.ret0 (.inr I) results177 ⟨I,M,I,hM,fun x hx y hy=>by rw[hz x hx y hy,zf4 hy]⟩
theorem n5 (E:World)(g:PH)(s:Own)(p:Int)(R C b cE bm i:Nat)(L:List Int)(hR:R≤400)(hC:C≤400)(hC0:0<C)(hi:i<R)(hc:R * C≤cE)(hL:L.length=R * C)(fn:FuncId)(fst:Array Value)(F:Nat→Int→Int)
  (hF:∀ L',L'.length=R * C→(∀ x<R,x≠i→∀ y<C,atF L' C x y=atF L C x y)→∀ k<C,yz Tryz.prog E (.func (.func fn) fst #[]) [vi k,vi (atF L C i k)] g (gn p R C b cE bm L' s) (fun x g' s'=>x=vi (F k (atF L C i k))∧g=g'∧s'=gn p R C b cE bm L' s)) :
  Ctr Tryz.prog E 178 #[iE b i C cE,.func (.func fn) fst #[]] g (gn p R C b cE bm L s) (fun _ g' s'=>g=g'∧∃ L',s'=gn p R C b cE bm L' s∧L'.length=R * C∧∀ x<R,∀ y<C,atF L' C x y=if x=i then F y (atF L C i y) else atF L C x y):=by
 have hm:=yt hR hC;have hi1:=jm (C:=C) hi;have hi2:(i+1) * C=i * C+C:=by rw[Nat.add_mul,Nat.one_mul]
 refine za9 (args:=[iE b i C cE,.func (.func fn) fst #[]]) func178 I ntmps178 (bE I) ?_;refine sW I (lU (SU.eq (v':=vi (C:Nat)) (eM aj I I) I) (lM I (tZ (bK ?_))));refine oP (ι:=Nat×List Int) (fun z=>[(0,iE b i C cE),(1,.func (.func fn) fst #[]),(6,iE b i C cE),(7,vi C),(8,vi z.1)]) (fun _=>g) (fun z=>gn p R C b cE bm z.2 s) (fun z=>z.1≤C∧z.2.length=R * C∧∀ x<R,∀ y<C,atF z.2 C x y=if x=i∧y<z.1 then F y (atF L C i y) else atF L C x y) (fun z=>C - z.1) (0,L) sB I I ⟨ze9 _,hL,fun x _ y _=>by simp⟩ ?_;rintro ⟨k,M⟩ ⟨hk,hM,hz⟩;dsimp only at hk hM hz ⊢;refine rZ (yL I (tZ (sQ ?_)));refine iP I (fun hlt=>?_) (fun hlt=>?_)
 ·have hkC:k<C:=oM;have gi:=ig hM hi hkC;rw[hz i hi k hkC,zf3 oM] at gi;have hcall:=hF M hM (fun x hx hne y hy=>by rw[hz x hx y hy,zf3 (fun e=>hne e.1)]) k hkC;unfold gn at hcall ⊢;refine kP (tN (sQ (bK (sW I (lU (SU.eq (v':=.pointer (some ⟨b,0+(i * C+k) * 1,none⟩)) (iA aj zT3 I I I oM (by simp only[iE,slen]; omega)) (ed (by simp only[Int.toNat_natCast]; omega))) ?_)))));refine lK (eB (j:=i * C+k) iT3 I (zb5 0 I) gi I) (lA I (aT I (rG (lM I (lM I (lM I (lM I (lM I (lW (SO.callB I I hcall) ?_)))))))));rintro _ _ _ ⟨rfl,rfl,rfl⟩;refine lU (SU.eq (v':=.pointer (some ⟨b,0+(i * C+k) * 1,none⟩)) (iA aj zT3 I I I oM (by simp only[iE,slen]; omega)) (ed (by simp only[Int.toNat_natCast]; omega))) ?_;refine oZ (sT (e:=encInt) (a:=F k (atF L C i k)) (j:=i * C+k) 0 zT3 I I I (by rw[hM]; exact ie hi hkC) I) ?_;refine nL (bN (tN (rG (yD I (lM I (nL ?_))))));exact gA (k+1,M.set (i * C+k) (F k (atF L C i k))) sB I I ⟨by dsimp only; omega,by dsimp only; rw[zh6,hM],fun x hx y hy=>by
   dsimp only;rw[lH hM hi hkC hy,hz x hx y hy];by_cases e1:i=x∧k=y
   ·obtain ⟨rfl,rfl⟩:=e1;rw[zf4 ⟨rfl,rfl⟩,zf4 ⟨rfl,oM⟩]
   ·rw[zf3 e1];by_cases e2:x=i∧y<k
    ·rw[zf4 e2,zf4 ⟨e2.1,oM⟩]
    ·rw[zf3 e2,zf3 (fun e=>e2 ⟨e.1,by
      have:¬ k=y:=fun e3=>e1 ⟨e.1.symm,e3⟩;omega⟩)]⟩ (by dsimp only; omega)
 ·refine xI (tX (tX (bX ?_)));have hkC:k=C:=oM;subst hkC;exact ST.ret0 (.inr I) results178 ⟨I,M,I,hM,fun x hx y hy=>by
   rw[hz x hx y hy];by_cases e:x=i
   ·rw[zf4 ⟨e,hy⟩,zf4 e]
   ·rw[zf3 (fun k=>e k.1),zf3 e]⟩
theorem rQ {a b p:Int}(h7:p≤7)(ha:0≤a)(ha1:a<p)(hb:0≤b)(hb1:b<p):0≤a * b∧a * b≤49:=by
 refine⟨Int.mul_nonneg ha hb,?_⟩;have h1:a * b≤7 * 7:=Int.mul_le_mul oM oM hb dC;omega
theorem sF (E:World)(g:PH)(s:Own)(p t n:Int)(k:Nat)(h2:2≤p)(h7:p≤7)(ht:0≤t)(ht1:t<p)(hn:0≤n)(hn1:n<p) :
  yz Tryz.prog E (.func (.func 180) #[.agg #[.slice none 0 0,vi t,vi p]] #[]) [vi k,vi n] g s (fun x g' s'=>x=vi (n * t % p)∧g=g'∧s'=s):=by
 have hb:=rQ h7 hn hn1 ht ht1;refine⟨_,_,I,call180,?_⟩;show Ctr _ _ _ #[.agg #[.slice none 0 0,vi t,vi p],vi k,vi n] _ _ _;refine za9 (args:=[.agg #[.slice none 0 0,vi t,vi p],vi k,vi n]) func180 I ntmps180 (bE I) ?_;refine rZ (bW (bO I) fun b3=>?_);refine aT I (sW I (lU (fA underlying200 I zT3 I) (lK (qL iT3 I (cO 0 I I)) (lU (SU.eq (v':=vi (n * t)) (SU.mulW I I) (zd5 vi (zk1 _ oM))) (lU (fA underlying200 I zT3 I) (lK (qL iT3 I (cO 0 I I)) (lU (SU.eq (v':=vi (n * t % p)) (zd2 I I oM) (zd5 vi (Int.tmod_eq_emod_of_nonneg hb.1))) (aT I (rE (dR (s':=s) uR ?_))))))))));exact za6 (.inl I) results180 I ⟨I,I,I⟩
theorem x6 (E:World)(g:PH)(s:Own)(p t n:Int)(R C b cE bm i k:Nat)(L:List Int)(h2:2≤p)(h7:p≤7)(ht:0≤t)(ht1:t<p)(hn:0≤n)(hn1:n<p)(hL:L.length=R * C)(hi:i<R)(hk:k<C)(hr:0≤atF L C i k)(hr1:atF L C i k<p)(hR:R≤400)(hC:C≤400) :
  yz Tryz.prog E (.func (.func 181) #[.agg #[iE b i C cE,vi t,vi p]] #[]) [vi k,vi n] g (gn p R C b cE bm L s) (fun x g' s'=>x=vi ((n+atF L C i k * t) % p)∧g=g'∧s'=gn p R C b cE bm L s):=by
 have hm:=yt hR hC;have hi1:=jm (C:=C) hi;have hi2:(i+1) * C=i * C+C:=by rw[Nat.add_mul,Nat.one_mul]
 have hb:=rQ h7 hr hr1 ht ht1;have gi:=ig hL hi hk;refine⟨_,_,I,call181,?_⟩;show Ctr _ _ _ #[.agg #[iE b i C cE,vi t,vi p],vi k,vi n] _ _ _;unfold gn;refine za9 (args:=[.agg #[iE b i C cE,vi t,vi p],vi k,vi n]) func181 I ntmps181 (bE I) ?_;refine rZ (bW (bO I) fun b3=>?_);refine aT I (sQ ?_);refine dW [] [(0,2),(1,2),(2,1),(3,2),(4,2),(5,1),(6,2),(7,1),(8,2),(9,2),(10,2),(11,1),(12,2),(13,2)] zd6 kR ?_;refine yM I (pU I (fA underlying200 I cg I) (pK I (qL (v:=iE b i C cE) dG I (cO 0 I I)) (yM I (pU I (SU.eq (v':=.pointer (some ⟨b,0+(i * C+k) * 1,none⟩)) (iA aj zT3 I I I oM (by simp only[iE,slen]; omega)) (ed (by simp only[Int.toNat_natCast]; omega))) ?_))));refine pK I (eB (j:=i * C+k) iT3 I (zb5 1 I) gi I) (pU I (fA underlying200 I zT3 I) (pK I (qL iT3 I (cO 0 I I)) (pU I (SU.eq (v':=vi (atF L C i k * t)) (SU.mulW I I) (zd5 vi (zk1 _ oM))) (pU I (aD I I oM) (pU I (fA underlying200 I zT3 I) (pK I (qL iT3 I (cO 0 I I)) (pU I (SU.eq (v':=vi ((n+atF L C i k * t) % p)) (zd2 I I oM) (zd5 vi (Int.tmod_eq_emod_of_nonneg oM))) (pU I (aS I) (pN (tN (rE (dR (s':=_::_::s) (.cons _ (.refl _)) ?_))))))))))));exact za6 (.inl I) results181 I ⟨I,I,I⟩
def vK (p:Int)(z:Int×Int×Int):Int×Int×Int:=(if z.2.2 % 2=1 then z.1 * z.2.1 % p else z.1,z.2.1 * z.2.1 % p,z.2.2 / 2)
def yS (p:Int):Nat→Int×Int×Int→Int
 | 0,z=>z.1
 | f+1,z=>if z.2.2=0 then z.1 else yS p f (vK p z)
def vT (p n:Int):Int:=yS p 3 (1,n,p - 2)
theorem Bu {p n:Int}(hp:Fp p)(h0:0<n)(h1:n<p):0<vT p n∧vT p n<p∧vT p n * n % p=1:=by
 have key:∀ p:Nat,p<8→(p=2∨p=3∨p=5∨p=7)→∀ n:Nat,n<p→0<n→0<vT p n∧vT p n<p∧vT p n * n % p=1:=by decide
 have hl:=hp.lt;have:=key p.toNat oM (by unfold Fp at hp; omega) n.toNat oM oM;rwa [Int.toNat_of_nonneg oM,Int.toNat_of_nonneg oM] at this
theorem x2 {p:Int}{k:Nat}{z:Int×Int×Int}(h:z.2.2=0):yS p k z=z.1:=by
 cases k with
 | zero=>rfl
 | succ k=>unfold yS; rw[zf4 h]
theorem BL:∀ e:Nat,e<8→IntKind.i64.wrap (BitVec.ofInt IntKind.i64.bits (e:Int) &&& BitVec.ofInt IntKind.i64.bits 1).toNat=(e:Int) % 2:=by decide
theorem A5:∀ e:Nat,e<8→(e:Int).fdiv (2 ^ min (1:Int).toNat IntKind.i64.bits)=(e:Int) / 2:=by decide
theorem Ad {e:Int}(h:0≤e)(h8:e<8):IntKind.i64.wrap (BitVec.ofInt IntKind.i64.bits e &&& BitVec.ofInt IntKind.i64.bits 1).toNat=e % 2:=by
 have:=BL e.toNat oM;rwa [Int.toNat_of_nonneg h] at this
theorem wm {e:Int}(h:0≤e)(h8:e<8):e.fdiv (2 ^ min (1:Int).toNat IntKind.i64.bits)=e / 2:=by
 have:=A5 e.toNat oM;rwa [Int.toNat_of_nonneg h] at this
theorem lG {a p:Int}(h2:2≤p):0≤a % p∧a % p<p:=⟨zj7 _ oM,zj6 _ oM⟩
theorem zk {p:Int}{R C n:Nat}{v:Value}{ov:List Int}(h:n<ov.length):(kG p R C v ov)[0+4+n * 1]?=some (vi (ov.getD n 0)):=by
 unfold kG;rw[show 0+4+n * 1=n+4 by omega];simp[zg4,gE h]
theorem zj {p:Int}{R C n:Nat}{v:Value}{ov:List Int}(x:Int):(kG p R C v ov).setIfInBounds (0+4+n * 1) (vi x)=kG p R C v (ov.set n x):=by
 unfold kG;rw[show 0+4+n * 1=n+4 by omega];simp[List.map_set]
theorem Ov.set {p:Int}{ov:List Int}(h:Ov p ov){n:Nat}(hn:n<8){x:Int}(h0:0<x)(h1:x<p)(h2:x * n % p=1):Ov p (ov.set n x):=by
 refine⟨by rw[zh6]; exact h.1,fun i hi=>?_⟩;rw[zg4,List.getElem?_set];by_cases e:n=i
 ·subst e;rw[zf4 rfl,zf4 (by rw[h.1]; omega)];exact .inr ⟨h0,h1,h2⟩
 ·rw[zf3 e,← zg4];exact h.2 i hi
section
variable {P:Program}{N:Nat}{E:World}{Q:Exit→Act→World→Prop}{f:Fr}{g:PH}{s:Own}{bm:Nat}{p:Int}{R C:Nat}{v:Value}
theorem SC.openRed {c:Code}(i:Nat)(hi:s[i]?=some (vR bm p R C v))(h:∀ ov,Ov p ov→SC P N E c Q f g (s.set i (pt bm (.cells (kG p R C v ov) 195 (0,0))))):SC P N E c Q f g s:=fun a w ha hw=>by
 have h1:=hw.own _ (zf5 hi);have hf:=hw.fresh _ (zf5 hi);simp only[vR,Option.bind_some] at h1;obtain ⟨ov,hov,h2⟩:=h1;exact h ov hov a w ha (hw.turn hi I ⟨I,lR _⟩ I (lR _) (fun _ _ _=>I) (by simpa [pt] using h2) (fun b' hb'=>⟨(hf b' hb').2,.inl hb'⟩))
theorem m3 {w:World}{ov:List Int}(i:Nat)(hi:s[i]?=some (pt bm (.cells (kG p R C v ov) 195 (0,0))))(hov:Ov p ov)(hw:At E g s w):At E g (s.set i (vR bm p R C v)) w:=by
 have h1:=hw.own _ (zf5 hi);have hf:=hw.fresh _ (zf5 hi);exact hw.turn hi I ⟨I,lR _⟩ I (lR _) (fun _ _ _=>I) ⟨ov,hov,by simpa [pt,vR] using h1⟩ (fun b' hb'=>⟨(hf b' hb').2,.inl hb'⟩)
theorem ST.closeRed {e:Exit}{ov:List Int}(i:Nat)(hi:s[i]?=some (pt bm (.cells (kG p R C v ov) 195 (0,0))))(hov:Ov p ov)(h:ST N E Q e f g (s.set i (vR bm p R C v))):ST N E Q e f g s:=fun a w ha hw=>h a w ha (m3 i hi hov hw)
end
theorem rm (E:World)(g:PH)(s:Own)(p n:Int)(hp:Fp p)(R C b cE bm:Nat)(L:List Int)(h0:0<n)(h1:n<p) :
  Ctr Tryz.prog E 179 #[pp bm 0,vi n] g (gn p R C b cE bm L s) (fun x g' s'=>(∃ o,x=vi o∧0<o∧o<p∧o * n % p=1)∧g=g'∧s'=gn p R C b cE bm L s):=by
 have hl:=hp.lt;have hok:=Bu hp h0 h1;have hn:((n.toNat:Nat):Int)=n:=Int.toNat_of_nonneg oM;unfold gn;refine za9 (args:=[pp bm 0,vi n]) func179 I ntmps179 (bE I) ?_;refine SC.openRed 1 I fun ov hov=>?_;have hg:=zk (p:=p) (R:=R) (C:=C) (v:=.slice (some ⟨b,0,none⟩) (R * C) cE) (ov:=ov) (n:=n.toNat) (by rw[hov.1]; omega);have hon:=hov.2 n.toNat oM;rw[hn] at hon;refine rZ (aT I (sQ (sW I (lM I (lU (nC I) (lU (fA j6 I sizeOf193 I) (lU (SU.indexAddrA underlying193 zT3 I I oM oM) (lK (qL (v:=vi (ov.getD n.toNat 0)) iT3 I (cO 1 I hg)) (lU (gR I I) (tZ ?_))))))))));refine iP I (fun hpos=>?_) (fun hpos=>?_)
 ·refine sW I (lM I (lU (nC I) (lU (fA j6 I sizeOf193 I) (lU (SU.indexAddrA underlying193 zT3 I I oM oM) (lK (qL (v:=vi (ov.getD n.toNat 0)) iT3 I (cO 1 I hg)) (aT I (rE (tR ?_))))))));have hon2:0<ov.getD n.toNat 0∧ov.getD n.toNat 0<p∧ov.getD n.toNat 0 * n % p=1:=by
   rcases hon with h | h
   ·omega
   ·exact h
  refine ST.closeRed 1 I hov ?_;exact za6 (.inl I) results179 I ⟨⟨_,I,hon2⟩,I,I⟩
 ·refine kP (tN (sW I (lA I (aT I (sQ (sW I (lU (nC I) (lU (fA j6 I cC I) (lU (fA dh I zT3 I) (lK (qL (v:=vi p) iT3 I (cO 1 I I)) (lU (sU I I oM) (aT I (bK ?_)))))))))))));refine oP (ι:=Nat×Int×Int×Int) (fun z=>[(0,pp bm 0),(1,vi n),(5,vi z.2.1),(6,vi z.2.2.1),(7,vi z.2.2.2)]) (fun _=>g) (fun _=>rowA encInt 3 (.slice (some ⟨b,0,none⟩) (R * C) cE) L::pt bm (.cells (kG p R C (.slice (some ⟨b,0,none⟩) (R * C) cE) ov) 195 (0,0))::s) (fun z=>yS p z.1 z.2=vT p n∧0≤z.2.1∧z.2.1<p∧0≤z.2.2.1∧z.2.2.1<p∧0≤z.2.2.2∧z.2.2.2<2 ^ z.1∧z.1≤3) (fun z=>z.2.2.2.toNat) (3,1,n,p - 2) sB I I ⟨I,by dsimp only; omega,by dsimp only; omega,by dsimp only; omega,by dsimp only; omega,by dsimp only; omega,by show p - 2<8; omega,lR _⟩ ?_;rintro ⟨k,o,w,e⟩ ⟨hf,ho0,ho1,hw0,hw1,he0,he1,hk3⟩;dsimp only at hf ho0 ho1 hw0 hw1 he0 he1 hk3 ⊢;have he8:e<8:=by
   have:k=0∨k=1∨k=2∨k=3:=oM
   rcases this with h | h | h | h <;> subst h <;> (first | (have h2:(2:Int) ^ 0=1:=rfl; omega) | (have h2:(2:Int) ^ 1=2:=rfl; omega) | (have h2:(2:Int) ^ 2=4:=rfl; omega) | (have h2:(2:Int) ^ 3=8:=rfl; omega))
  have hb1:=rQ hl.2 ho0 ho1 hw0 hw1;have hb2:=rQ hl.2 hw0 hw1 hw0 hw1;have hm1:=lG (a:=o * w) hl.1;have hm2:=lG (a:=w * w) hl.1;refine sQ (sW I (lU (gR I I) (tZ ?_)));refine iP I (fun hgt=>?_) (fun hgt=>?_)
  ·have hk:∃ k',k=k'+1:=by
    cases k with
    | zero=>rw[Int.pow_zero] at he1; omega
    | succ k'=>exact⟨k',rfl⟩
   obtain ⟨k',rfl⟩:=hk;have hne:¬ e=0:=oM;have hf2:yS p k' (vK p (o,w,e))=vT p n:=by
    rw[← hf];show _=if e=0 then o else yS p k' (vK p (o,w,e))
    rw[zf3 hne]
   have he2:e / 2<2 ^ k':=by
    have:(2:Int) ^ (k'+1)=2 ^ k' * 2:=Int.pow_succ 2 k';omega
   refine kP (tN (sQ (bK (sQ (sW I (lU (SU.eq (v':=vi (e % 2)) (SU.and I I) (zd5 vi (Ad he0 he8))) (yE I (tZ ?_))))))));refine iP I (fun hodd=>?_) (fun hodd=>?_)
   ·refine rG (lM I (lM I (lU (SU.eq (v':=vi (o * w)) (SU.mulW I I) (zd5 vi (zk1 _ oM))) (lM I (lU (nC I) (lU (fA j6 I cC I) (lU (fA dh I zT3 I) (lK (qL (v:=vi p) iT3 I (cO 1 I I)) (lU (SU.eq (v':=vi (o * w % p)) (zd2 I I oM) (zd5 vi (Int.tmod_eq_emod_of_nonneg hb1.1))) (aT I (rG (lM I (lM I (lU (SU.eq (v':=vi (w * w)) (SU.mulW I I) (zd5 vi (zk1 _ oM))) (lM I (lU (nC I) (lU (fA j6 I cC I) (lU (fA dh I zT3 I) (lK (qL (v:=vi p) iT3 I (cO 1 I I)) (lU (SU.eq (v':=vi (w * w % p)) (zd2 I I oM) (zd5 vi (Int.tmod_eq_emod_of_nonneg hb2.1))) (lA I (nL (bN (tN (rG (lM I (lU (SU.eq (v':=vi (e / 2)) (SU.shr I I dC) (zd5 vi (wm he0 he8))) ?_)))))))))))))))))))))))))));refine lA I (nL ?_);unfold vK at hf2;rw[zf4 hodd] at hf2;exact gA (k',o * w % p,w * w % p,e / 2) sB I I ⟨hf2,hm1.1,hm1.2,hm2.1,hm2.2,by dsimp only; omega,he2,by dsimp only; omega⟩ (by dsimp only; omega)
   ·refine kP (tN (rG (lM I (lM I (lU (SU.eq (v':=vi (w * w)) (SU.mulW I I) (zd5 vi (zk1 _ oM))) (lM I (lU (nC I) (lU (fA j6 I cC I) (lU (fA dh I zT3 I) (lK (qL (v:=vi p) iT3 I (cO 1 I I)) (lU (SU.eq (v':=vi (w * w % p)) (zd2 I I oM) (zd5 vi (Int.tmod_eq_emod_of_nonneg hb2.1))) (lA I (nL (bN (tN (rG (lM I (lU (SU.eq (v':=vi (e / 2)) (SU.shr I I dC) (zd5 vi (wm he0 he8))) (lA I (nL ?_))))))))))))))))))));unfold vK at hf2;rw[zf3 hodd] at hf2;exact gA (k',o,w * w % p,e / 2) sB I I ⟨hf2,ho0,ho1,hm2.1,hm2.2,by dsimp only; omega,he2,by dsimp only; omega⟩ (by dsimp only; omega)
  ·have he:e=0:=oM;subst he;rw[x2 rfl] at hf;have hf:o=vT p n:=hf;rw[← hf] at hok;have hl2:n.toNat<(kG p R C (.slice (some ⟨b,0,none⟩) (R * C) cE) ov).size - 4:=by
    unfold kG;simp[hov.1];omega
   refine xI (tX (tX (bX (tN (sW I (lM I (lM I (lU (nC I) (lU (fA j6 I sizeOf193 I) (lU (SU.eq (v':=pp bm (0+4+n.toNat * 1)) (SU.indexAddrA underlying193 zT3 I I oM oM) I) (oZ (SO.store1 1 zT3 I I I I oM I) (tZ (sW I (aT I (rE ?_)))))))))))))));rw[zj];refine ST.closeRed 1 I (hov.set (n:=n.toNat) oM hok.1 hok.2.1 (by rw[hn]; exact hok.2.2)) ?_;exact za6 (.inl I) results179 I ⟨⟨_,I,hok⟩,I,I⟩
theorem AM (w:World):(zeroValue 195).run Tryz.prog w = .ok (.agg (vi 0::vi 0::vi 0 :: .slice none 0 0::(List.replicate 998 (vi 0))).toArray) w:=by kernel_rfl
theorem Tryz.build195 (p:Int)(r c:Nat)(q:Option Addr)(n k:Nat)(w:World):(Instr.build 195 #[(0,.agg #[vi p,vi r,vi c,.slice q n k])]).run Tryz.prog w = .ok (.agg (kG p r c (.slice q n k) (List.replicate 998 0))) w:=by
 have h1:(Value.agg #[vi p,vi r,vi c,.slice q n k]).cells = #[vi p,vi r,vi c,.slice q n k]:=rfl;have h2:∀ l:List Value,(Value.agg (vi 0::vi 0::vi 0 :: .slice none 0 0::l).toArray).cells=(vi 0::vi 0::vi 0 :: .slice none 0 0::l).toArray:=fun _=>rfl;have hu:Tryz.prog.underlying 195=some (.struct (Tryz.prog.fieldsOf 195)):=by kernel_rfl
 have hf:Tryz.prog.fieldsOf 195 = #[(Tryz.prog.fieldsOf 195)[0]!,(Tryz.prog.fieldsOf 195)[1]!]:=by kernel_rfl
 have ho:((Tryz.prog.fieldsOf 195)[0]!).offset=0:=by kernel_rfl
 have ht:((Tryz.prog.fieldsOf 195)[0]!).type=147:=by kernel_rfl
 have ht2:((Tryz.prog.fieldsOf 195)[1]!).type=193:=by kernel_rfl
 simp only[Instr.build,Sem.run_bind,AM,zc6,h2,run_underlying hu];rw[hf];simp[ho,ht,ht2,cC,sizeOf193,Instr.fill,h1,kG]
set_option maxHeartbeats 2000000
theorem xx {α:Type}{k:Nat}{e:Enc α k}{E:World}{g:PH}{s:Own}{w:World}{T:TypeId}{v:Value}{l:List α}{i:Nat}(h:At E g s w)(hi:s[i]?=some (rowA e T v l))(hn:0<l.length):∃ b c,v = .slice (some ⟨b,0,none⟩) l.length c∧l.length≤c:=by
 obtain ⟨_,h2⟩:=ff h hi
 rcases h2 with ⟨p,rfl,hn'⟩ | ⟨b,cap,cur,rfl,_,h3,_⟩
 ·omega
 ·exact⟨b,cap+1,I,h3⟩
theorem Tryz.build200 (q:Option Addr)(n k:Nat)(t p:Int)(w:World):(Instr.build 200 #[(0,.slice q n k),(1,vi t),(2,vi p)]).run Tryz.prog w = .ok (.agg #[.slice q n k,vi t,vi p]) w:=by
 have h1:∀ n,(vi n).cells = #[vi n]:=fun _=>rfl;have h2:(Value.slice q n k).cells = #[.slice q n k]:=rfl;simp[Instr.build,Instr.fill,h1,h2];rfl
theorem B6 {i j x R:Nat}(hi:i<R)(hj:j<R)(hx:x<R):swF i j x<R:=by
 unfold swF;split
 ·exact hj
 ·split
  ·exact hi
  ·exact hx
def elG (p:Int)(L:List Int)(C at' c x y:Nat):Int:=if x≠at'∧0<atF L C x c then (atF L C x y+atF L C at' y * (p - atF L C x c)) % p else atF L C x y
theorem zP {p o:Int}{R C c i0:Nat}{A:Nat→Nat→Int}{L L1 L2 M:List Int}{J:List Nat}(h:kh p A R C (atF L C) J c)(hc:c<C)(h1:J.length≤i0)(h2:i0<R)(hpos:∀ x<R,∀ y<C,0≤atF L C x y)(ho:o * atF L C i0 c % p=1)
  (hL1:∀ x<R,∀ y<C,atF L1 C x y=atF L C (swF J.length i0 x) y) (hL2:∀ x<R,∀ y<C,atF L2 C x y=if x=J.length then atF L1 C J.length y * o % p else atF L1 C x y)
  (hM:∀ x<R,∀ y<C,atF M C x y=elG p L2 C J.length c x y):kh p A R C (atF M C) (J++[c]) (c+1):=by
 have hat:J.length<R:=oM;refine h.pivot (b:=o) hc h1 h2 ?_ fun x hx y hy=>?_
 ·refine⟨o * atF L C i0 c / p,?_⟩;have:=Int.emod_add_mul_ediv (o * atF L C i0 c) p;omega
 ·rw[hM x hx y hy];unfold elG;have e0:∀ y<C,Eqm p (atF L2 C J.length y) (o * atF L C i0 y):=fun y hy=>by
   rw[hL2 _ hat y hy,zf4 rfl,hL1 _ hat y hy,AJ,Int.mul_comm o];exact ot _ _
  by_cases e:x=J.length
  ·subst e;rw[zf3 (fun k=>k.1 rfl),zf4 rfl];exact e0 y hy
  ·have hsw:swF J.length i0 x=if x=i0 then J.length else x:=by
    unfold swF;rw[zf3 e]
   have hlt:swF J.length i0 x<R:=by
    rw[hsw];split <;> omega
   have e1:∀ y<C,atF L2 C x y=atF L C (if x=i0 then J.length else x) y:=fun y hy=>by
    rw[hL2 x hx y hy,zf3 e,hL1 x hx y hy,hsw]
   rw[zf3 e,← e1 y hy,← e1 c hc];have hn:0≤atF L2 C x c:=by
    rw[e1 c hc,← hsw];exact hpos _ hlt c hc
   by_cases k:0<atF L2 C x c
   ·rw[zf4 ⟨e,k⟩];refine (ot _ _).trans ?_;have e2:Eqm p (atF L2 C J.length y * (p - atF L2 C x c)) (o * atF L C i0 y * (0 - atF L2 C x c)):=(e0 y hy).mul (Eqm.sub ⟨1,oM⟩ (.refl _));refine ((Eqm.refl (atF L2 C x y)).add e2).trans (Eqm.of ?_);rw[Int.mul_sub,Int.mul_zero,Int.mul_comm (o * atF L C i0 y)];omega
   ·rw[zf3 (fun q=>k q.2),show atF L2 C x c=0 by omega,Int.zero_mul,Int.sub_zero];exact .refl _
theorem rj (E:World)(g:PH)(s:Own)(v:Value)(p:Int)(hp:Fp p)(R C:Nat)(hR:R≤400)(hC:C≤400)(h0:0<R * C)(A:List Int)(hA:A.length=R * C)(hv:FmR g v p R C A)(hA0:∀ x<R,∀ y<C,0≤atF A C x y∧atF A C x y<p) :
  Ctr Tryz.prog E 157 #[v] g s (fun x g' s'=>s=s'∧Le g g'∧∃ (J:List Nat) (m y:Value),x = .tuple #[.agg #[vi p,vi R,vi C,m],y]∧(∃ q n k,m = .slice q n k)∧bZ g' y (J.map fun j:Nat=>(j:Int))∧J.length=rk p (atF A C) R C∧J.length≤R):=by
 obtain ⟨q,c0,rfl,hs⟩:=hv;have hm:=yt hR hC;have hl:=hp.lt;have hC0:0<C:=Nat.pos_of_ne_zero fun e=>by rw[e,Nat.mul_zero] at h0; omega
 have hcap:=(SlA.cap hs).2;refine za9 (args:=[.agg #[vi p,vi R,vi C,.slice q A.length c0]]) func157 I ntmps157 (bE I) ?_;refine rZ (bW (bO I) fun b1=>?_);refine bW (aL zk5) fun b2=>?_;refine aT I (SC.scope (rZ (lU (fA dh I cg I) (lK (qL (v:=.slice q A.length c0) dG I (cO 1 I I)) (lW (cL call84 I (wc E g _ _ A hs oM)) ?_)))));rintro v13 _ _ ⟨rfl,rfl⟩;refine zc8 fun hx=>?_;obtain ⟨w0,hw0⟩:=hx;obtain ⟨b,cE,rfl,hcE⟩:=xx hw0 (i:=0) rfl oM;rw[hA] at hcE ⊢;refine lU (fA dh I cg I) (oZ (SO.store1 2 cg I I I I (by show 3<4; decide) I) ?_);refine tZ (sQ ?_);refine SC.to (g':=g) (s':=rowA encInt 3 (.slice (some ⟨b,0,none⟩) (R * C) cE) A::pt b2 (.cells #[vi 0,vi 0,vi 0,.slice none 0 0] 147 (0,0))::pt b1 (.cells #[vi p,vi R,vi C,.slice (some ⟨b,0,none⟩) (R * C) cE] 147 (0,0))::s) (fun w hw=>hw) ?_;refine rG (lK (qV 2 isAgg147 cC I I I) (lU (za1 I (build195 _ _ _ _ _ _)) (bW (bO I) fun b17=>?_)));refine aT I (sQ ?_);refine SC.to (g':=g) (s':=gn p R C b cE b17 A (rowA encInt 3 (.slice none 0 0) []::pt b2 (.cells #[vi 0,vi 0,vi 0,.slice none 0 0] 147 (0,0))::pt b1 (.cells #[vi p,vi R,vi C,.slice (some ⟨b,0,none⟩) (R * C) cE] 147 (0,0))::s)) (fun w hw=>((m3 (p:=p) (R:=R) (C:=C) (v:=.slice (some ⟨b,0,none⟩) (R * C) cE) (ov:=List.replicate 998 0) 0 I ⟨by simp,fun i hi=>.inl (by rw[zg4,List.getElem?_replicate]; split <;> rfl)⟩ hw).nilRow 3 1).perm ((zj1 _ _ _).trans (((zj1 _ _ _).cons _).trans (zj1 _ _ _)))) ?_;refine rG (aT I (sQ (SC.label (tN (sQ (rZ (lU (fA dh I zT3 I) (lK (qL (v:=vi C) iT3 I (cO 4 I I)) (lM I (tZ (bK ?_)))))))))));refine oP (ι:=Nat×List Int×Value×List Nat) (fun z=>[(1,pp b1 0),(2,pp b2 0),(4,pp b17 0),(5,z.2.2.1),(19,vi C),(20,vi z.1)]) (fun _=>g) (fun z=>gn p R C b cE b17 z.2.1 (rowA encInt 3 z.2.2.1 (z.2.2.2.map fun j:Nat=>(j:Int))::pt b2 (.cells #[vi 0,vi 0,vi 0,.slice none 0 0] 147 (0,0))::pt b1 (.cells #[vi p,vi R,vi C,.slice (some ⟨b,0,none⟩) (R * C) cE] 147 (0,0))::s)) (fun z=>z.1≤C∧z.2.1.length=R * C∧(∀ x<R,∀ y<C,0≤atF z.2.1 C x y∧atF z.2.1 C x y<p)∧kh p (atF A C) R C (atF z.2.1 C) z.2.2.2 z.1) (fun z=>C - z.1) (0,A,.slice none 0 0,[]) sB I I ⟨ze9 _,hA,hA0,kh.start _ _ _⟩ ?_;rintro ⟨c,L,pv,J⟩ ⟨hc,hL,hLp,hE⟩;dsimp only at hc hL hLp hE ⊢;have hJR:=hE.len;refine rZ (yL I (tZ (sQ ?_)));refine iP I (fun hlt=>?_) (fun hlt=>?_)
 ·have hcC:c<C:=oM;refine SC.facts fun hx=>?_;obtain ⟨w1,hw1⟩:=hx;obtain ⟨pq,pc,rfl⟩:=ag hw1 (i:=2) rfl;refine kP (tN (sQ (bK (sW I (aT I (sW I (lU (SU.eq (v':=vi (J.length:Nat)) (eN aj I) (by rw[zd9])) ?_)))))));refine aT I (sW I (aT I (bK ?_)));refine oP (ι:=Nat) (fun i=>[(1,pp b1 0),(2,pp b2 0),(4,pp b17 0),(5,.slice pq (J.map fun j:Nat=>(j:Int)).length pc),(6,vi c),(7,vi J.length),(8,vi i),(19,vi C),(20,vi c)]) (fun _=>g) (fun _=>gn p R C b cE b17 L (rowA encInt 3 (.slice pq (J.map fun j:Nat=>(j:Int)).length pc) (J.map fun j:Nat=>(j:Int))::pt b2 (.cells #[vi 0,vi 0,vi 0,.slice none 0 0] 147 (0,0))::pt b1 (.cells #[vi p,vi R,vi C,.slice (some ⟨b,0,none⟩) (R * C) cE] 147 (0,0))::s)) (fun i=>J.length≤i∧i≤R∧∀ x,J.length≤x→x<i→atF L C x c=0) (fun i=>R - i) J.length sB I I ⟨lR _,hJR,fun x h1 h2=>by omega⟩ ?_;rintro i ⟨hi1,hi2,hiz⟩;refine sQ (sW I (lU (fA dh I zT3 I) (lK (qL (v:=vi R) iT3 I (cO 4 I I)) (yL I (tZ ?_)))));refine iP I (fun hlt2=>?_) (fun hlt2=>?_)
  ·have hiR:i<R:=oM;have hin1:=jm (C:=C) hiR;have hin2:(i+1) * C=i * C+C:=by rw[Nat.add_mul,Nat.one_mul]
   have gi:=ig hL hiR hcC;have hb0:=hLp i hiR c hcC;refine kP (tN (sQ (bK (sQ (sW I (lM I (lW (cL call176 I (dz E g _ p R C b cE b17 i L hR hC hC0 hiR hcE)) ?_)))))));rintro _ _ _ ⟨rfl,rfl,rfl⟩;unfold gn;refine lM I (lU (SU.eq (v':=.pointer (some ⟨b,0+(i * C+c) * 1,none⟩)) (iA aj zT3 I I I oM (by simp only[iE,slen]; omega)) (ed (by simp only[Int.toNat_natCast]; omega))) ?_);refine lK (eB (j:=i * C+c) iT3 I (zb5 0 I) gi I) (yE I (tZ ?_));refine iP I (fun hz=>?_) (fun hz=>?_)
   ·refine xI (tX (bX (tN (rG (lM I (yD I (lA I (nL ?_))))))));exact gA (i+1) sB I I ⟨oM,oM,fun x h1 h2=>by
     by_cases e:x=i
     ·rw[e]; exact hz
     ·exact hiz x h1 oM⟩ oM
   ·have hJi:J.length<R:=oM;have hat1:=jm (C:=C) hJi;have hat2:(J.length+1) * C=J.length * C+C:=by rw[Nat.add_mul,Nat.one_mul]
    refine kP (tN (sW I (lM I (lM I (lW (cL call177 I (vm E g _ p R C b cE b17 J.length i L hR hC hC0 hJi hiR hcE hL)) ?_)))));rintro _ _ _ ⟨rfl,L1,rfl,hL1,hat⟩;have ga:=ig hL1 hJi hcC;rw[hat _ hJi c hcC,AJ] at ga;have hL1p:∀ x<R,∀ y<C,0≤atF L1 C x y∧atF L1 C x y<p:=(fun x hx y hy=>by rw[hat x hx y hy]; exact hLp _ (B6 hJi hiR hx) y hy);refine tZ (sQ ?_);refine dW [15] [(0,2),(1,2),(3,2),(4,2),(5,2),(7,2),(11,2),(12,1),(2,0),(6,0),(8,2),(9,1),(10,0),(13,2),(14,2),(15,0)] zd6 kR ?_;refine yM I (yM I (yM I (yM I (yM I (yM I (pU I (fA dh I zT3 I) (pK I (qL (v:=vi p) iT3 I (cO 4 I I)) (SP.o I (cL call176 I (dz E g _ p R C b cE b17 J.length L1 hR hC hC0 hJi hcE)) dC (.inr iR) ?_))))))));rintro _ _ _ ⟨rfl,rfl,rfl⟩;refine SP.o I (cL call176 I (dz E g _ p R C b cE b17 J.length L1 hR hC hC0 hJi hcE)) dC (.inr iR) ?_;rintro _ _ _ ⟨rfl,rfl,rfl⟩;refine pU I (SU.eq (v':=.pointer (some ⟨b,0+(J.length * C+c) * 1,none⟩)) (iA aj zT3 I I I oM (by simp only[iE,slen]; omega)) (ed (by simp only[Int.toNat_natCast]; omega))) ?_;refine pK I (eB (j:=J.length * C+c) iT3 I (zb5 0 I) ga I) (SP.o I (cL call179 I (rm E g _ p (atF L C i c) hp R C b cE b17 L1 oM hb0.2)) dC (.inr iR) ?_);rintro _ _ _ ⟨⟨o,rfl,ho0,ho1,ho2⟩,rfl,rfl⟩;refine pU I (za1 I (build200 _ _ _ _ _)) (pU I (SU.mkFuncB I) (SP.o I (cL call178 I (n5 E g _ p R C b cE b17 J.length L1 hR hC hC0 hJi hcE hL1 _ _ (fun _ n=>n * o % p) fun L' _ _ k hk=>sF E g _ p o _ k hl.1 hl.2 oM ho1 (hL1p _ hJi k hk).1 (hL1p _ hJi k hk).2)) dC (.inl dC) ?_));rintro _ _ _ ⟨rfl,L2,rfl,hL2,hat2'⟩;refine pN (tN (sQ (rZ (lU (fA dh I zT3 I) (lK (qL (v:=vi R) iT3 I (cO 4 I I)) (lM I (tZ (bK ?_))))))));have hL2p:∀ x<R,∀ y<C,0≤atF L2 C x y∧atF L2 C x y<p:=fun x hx y hy=>by
     rw[hat2' x hx y hy];split
     ·exact lG hl.1
     ·exact hL1p x hx y hy
    refine oP (ι:=Nat×List Int) (fun z=>[(1,pp b1 0),(2,pp b2 0),(4,pp b17 0),(5,.slice pq (J.map fun j:Nat=>(j:Int)).length pc),(6,vi c),(7,vi J.length),(19,vi C),(20,vi c),(60,vi R),(61,vi z.1)]) (fun _=>g) (fun z=>gn p R C b cE b17 z.2 (rowA encInt 3 (.slice pq (J.map fun j:Nat=>(j:Int)).length pc) (J.map fun j:Nat=>(j:Int))::pt b2 (.cells #[vi 0,vi 0,vi 0,.slice none 0 0] 147 (0,0))::pt b1 (.cells #[vi p,vi R,vi C,.slice (some ⟨b,0,none⟩) (R * C) cE] 147 (0,0))::s)) (fun z=>z.1≤R∧z.2.length=R * C∧∀ x<R,∀ y<C,atF z.2 C x y=if x<z.1 then elG p L2 C J.length c x y else atF L2 C x y) (fun z=>R - z.1) (0,L2) sB I I ⟨ze9 _,hL2,fun x _ y _=>by simp⟩ ?_;rintro ⟨k,M⟩ ⟨hk,hM,hMz⟩;dsimp only at hk hM hMz ⊢;refine rZ (yL I (tZ (sQ ?_)));refine iP I (fun hlt3=>?_) (fun hlt3=>?_)
    ·have hkR:k<R:=oM;have hk1:=jm (C:=C) hkR;have hk2:(k+1) * C=k * C+C:=by rw[Nat.add_mul,Nat.one_mul]
     have gk:=ig hM hkR hcC;rw[hMz k hkR c hcC,zf3 (Nat.lt_irrefl k)] at gk;have hkp:=hL2p k hkR;have hkc:=hkp c hcC;have hrowat:∀ y<C,atF M C J.length y=atF L2 C J.length y:=fun y hy=>by
      rw[hMz _ hJi y hy];unfold elG;split
      ·rw[zf3 fun q=>q.1 rfl]
      ·rfl
     have hstep:∀ M2:List Int,(∀ x<R,∀ y<C,atF M2 C x y=if x=k then elG p L2 C J.length c k y else atF M C x y)→∀ x<R,∀ y<C,atF M2 C x y=if x<k+1 then elG p L2 C J.length c x y else atF L2 C x y:=fun M2 h x hx y hy=>by
      rw[h x hx y hy];by_cases e:x=k
      ·subst e;rw[zf4 rfl,zf4 (Nat.lt_succ_self _)]
      ·rw[zf3 e,hMz x hx y hy];by_cases e2:x<k
       ·rw[zf4 e2,zf4 (Nat.lt_succ_of_lt e2)]
       ·rw[zf3 e2,zf3 (show ¬ x<k+1 by omega)]
     by_cases hne:k=J.length
     ·refine kP (tN (sQ (bK (sW I (aT I (sW I (lM I (lW (cL call176 I (dz E g _ p R C b cE b17 k M hR hC hC0 hkR hcE)) ?_))))))));rintro _ _ _ ⟨rfl,rfl,rfl⟩;unfold gn;refine lM I (lU (SU.eq (v':=.pointer (some ⟨b,0+(k * C+c) * 1,none⟩)) (iA aj zT3 I I I oM (by simp only[iE,slen]; omega)) (ed (by simp only[Int.toNat_natCast]; omega))) ?_);refine lK (eB (j:=k * C+c) iT3 I (zb5 0 I) gk I) (aT I (sW I (lM I (lU (SU.eq (v':=vb false) (nQ I I) (zd5 vb (zf1 oM))) (lM I (yA I (yA I (yF I (tZ (cF I (kP (bN (tN (rG (yD I (lM I (nL ?_)))))))))))))))));exact gA (k+1,M) sB I I ⟨by dsimp only; omega,hM,hstep M fun x hx y hy=>by
       by_cases e:x=k
       ·subst e;rw[zf4 rfl,hMz x hx y hy,zf3 (Nat.lt_irrefl x)];unfold elG;rw[zf3 fun q=>q.1 hne]
       ·rw[zf3 e]⟩ (by dsimp only; omega)
     ·by_cases hpos:0<atF L2 C k c
      ·refine kP (tN (sQ (bK (sW I (aT I (sW I (lM I (lW (cL call176 I (dz E g _ p R C b cE b17 k M hR hC hC0 hkR hcE)) ?_))))))));rintro _ _ _ ⟨rfl,rfl,rfl⟩;unfold gn;refine lM I (lU (SU.eq (v':=.pointer (some ⟨b,0+(k * C+c) * 1,none⟩)) (iA aj zT3 I I I oM (by simp only[iE,slen]; omega)) (ed (by simp only[Int.toNat_natCast]; omega))) ?_);refine lK (eB (j:=k * C+c) iT3 I (zb5 0 I) gk I) (aT I (sW I (lM I (lU (SU.eq (v':=vb true) (nQ I I) (zd5 vb (zf2 oM))) (lM I (yC I (lY I I I (SU.eq (v':=vb true) (gR I I) (zd5 vb (zf2 hpos))) (yP I (tZ (cT I ?_))))))))));refine dW [14] [(0,2),(1,2),(3,2),(4,2),(6,2),(7,1),(8,2),(9,2),(10,2),(11,1),(2,0),(5,0),(12,2),(13,2),(14,0)] zd6 kR ?_;refine yM I (yM I (yM I (yM I (pU I (fA dh I zT3 I) (pK I (qL (v:=vi p) iT3 I (cO 4 I I)) (yM I (pU I (sU I I oM) (pU I (fA dh I zT3 I) (pK I (qL (v:=vi p) iT3 I (cO 4 I I)) (SP.o I (cL call176 I (dz E g _ p R C b cE b17 k M hR hC hC0 hkR hcE)) dC (.inr iR) ?_))))))))));rintro _ _ _ ⟨rfl,rfl,rfl⟩;refine SP.o I (cL call176 I (dz E g _ p R C b cE b17 J.length M hR hC hC0 hJi hcE)) dC (.inr iR) ?_;rintro _ _ _ ⟨rfl,rfl,rfl⟩;refine pU I (za1 I (build200 _ _ _ _ _)) (pU I (SU.mkFuncB I) (SP.o I (cL call178 I (n5 E g _ p R C b cE b17 k M hR hC hC0 hkR hcE hM _ _ (fun y n=>(n+atF L2 C J.length y * (p - atF L2 C k c)) % p) fun L' hL' hrow y hy=>by have e1:atF L' C J.length y=atF L2 C J.length y:=(hrow _ hJi (fun e=>hne e.symm) y hy).trans (hrowat y hy); have e2:atF M C k y=atF L2 C k y:=(hMz k hkR y hy).trans (zf3 (Nat.lt_irrefl k)); have h3:=x6 E g (rowA encInt 3 (.slice pq (J.map fun j:Nat=>(j:Int)).length pc) (J.map fun j:Nat=>(j:Int))::pt b2 (.cells #[vi 0,vi 0,vi 0,.slice none 0 0] 147 (0,0))::pt b1 (.cells #[vi p,vi R,vi C,.slice (some ⟨b,0,none⟩) (R * C) cE] 147 (0,0))::s) p (p - atF L2 C k c) (atF M C k y) R C b cE b17 J.length y L' hl.1 hl.2 (by have:=(hkp c hcC).2; omega) oM (by rw[e2]; exact (hkp y hy).1) (by rw[e2]; exact (hkp y hy).2) hL' hJi hy (by rw[e1]; exact (hL2p _ hJi y hy).1) (by rw[e1]; exact (hL2p _ hJi y hy).2) hR hC; rw[e1] at h3; exact h3)) dC (.inl dC) ?_));rintro _ _ _ ⟨rfl,M2,rfl,hM2,hat3⟩;refine pN (bN (tN (rG (yD I (lM I (nL ?_))))));exact gA (k+1,M2) sB I I ⟨by dsimp only; omega,hM2,hstep M2 fun x hx y hy=>by
        rw[hat3 x hx y hy];split
        ·rename_i e;subst e;unfold elG;rw[zf4 ⟨hne,hpos⟩,hMz x hkR y hy,zf3 (Nat.lt_irrefl x)]
        ·rfl⟩ (by dsimp only; omega)
      ·refine kP (tN (sQ (bK (sW I (aT I (sW I (lM I (lW (cL call176 I (dz E g _ p R C b cE b17 k M hR hC hC0 hkR hcE)) ?_))))))));rintro _ _ _ ⟨rfl,rfl,rfl⟩;unfold gn;refine lM I (lU (SU.eq (v':=.pointer (some ⟨b,0+(k * C+c) * 1,none⟩)) (iA aj zT3 I I I oM (by simp only[iE,slen]; omega)) (ed (by simp only[Int.toNat_natCast]; omega))) ?_);refine lK (eB (j:=k * C+c) iT3 I (zb5 0 I) gk I) (aT I (sW I (lM I (lU (SU.eq (v':=vb true) (nQ I I) (zd5 vb (zf2 oM))) (lM I (yC I (lY I I I (SU.eq (v':=vb false) (gR I I) (zd5 vb (zf1 hpos))) (yP I (tZ (cF I (kP (bN (tN (rG (yD I (lM I (nL ?_)))))))))))))))));exact gA (k+1,M) sB I I ⟨by dsimp only; omega,hM,hstep M fun x hx y hy=>by
        by_cases e:x=k
        ·subst e;rw[zf4 rfl,hMz x hx y hy,zf3 (Nat.lt_irrefl x)];unfold elG;rw[zf3 fun q=>hpos q.2]
        ·rw[zf3 e]⟩ (by dsimp only; omega)
    ·have hkk:k=R:=oM;subst hkk;have hpiv:=zP hE hcC hi1 hiR (fun x hx y hy=>(hLp x hx y hy).1) ho2 hat (fun x hx y hy=>hat2' x hx y hy) (fun x hx y hy=>by rw[hMz x hx y hy,zf4 hx]);unfold gn;refine xI (tX (tX (bX (tN (sW I (lM I (lW (bS sty25 I I I (ab ⟨I,trivial⟩) dC) ?_)))))));rintro _ _ _ ⟨b95,rfl,rfl,rfl⟩;refine lW (aP (e:=encInt) (l:=J.map fun j:Nat=>(j:Int)) 2 (c:Int) sty25 I I I I I (by rw[zd9]; omega) (by rw[zd9]; omega)) ?_;rintro v96 _ _ ⟨rfl,rfl⟩;refine aT I (xI (ST.blockO dC (tX (tX (ST.blockO dC (bX (tN (rG (yD I (lM I (nL ?_)))))))))));refine ST.to (g':=g) (s':=gn p k C b cE b17 M (rowA encInt 3 v96 ((J++[c]).map fun j:Nat=>(j:Int))::pt b2 (.cells #[vi 0,vi 0,vi 0,.slice none 0 0] 147 (0,0))::pt b1 (.cells #[vi p,vi k,vi C,.slice (some ⟨b,0,none⟩) (k * C) cE] 147 (0,0))::s)) (fun w hw=>by rw[zf8]; exact hw) ?_;exact gA (c+1,M,v96,J++[c]) sB I I ⟨by dsimp only; omega,hM,fun x hx y hy=>by
      dsimp only;rw[hMz x hx y hy,zf4 hx];unfold elG;split
      ·exact lG hl.1
      ·exact hL2p x hx y hy,hpiv⟩ (by dsimp only; omega)
  ·refine xI (tX (tX (bX (bN (tN (rG (yD I (lM I (nL ?_)))))))));have hiR:i=R:=oM;subst hiR;exact gA (c+1,L,_,J) sB I I ⟨by dsimp only; omega,hL,hLp,hE.none fun x h1 h2=>by
    rw[hiz x h1 h2];exact .refl _⟩ (by dsimp only; omega)
 ·have hcC:c=C:=oM;subst hcC;unfold gn;refine xI (tX (tX (bX (tN (sW I (lU (nC I) (lU (fA j6 I cC I) (lK (SQ.loadAggAt (b:=b17) (o:=0) (vs:=[vi p,vi R,vi c,.slice (some ⟨b,0,none⟩) (R * c) cE]) isAgg147 cC I I (fun j x hj=>by rw[Nat.zero_add]; exact ol (p:=p) (R:=R) (C:=c) (v:=.slice (some ⟨b,0,none⟩) (R * c) cE) 1 I hj)) ?_))))))));refine lM I (oZ (sK 3 cC I I I I I sB) (aT I (rE (ST.scopeR (ST.perm (s':=rowA encInt 3 pv (J.map fun j:Nat=>(j:Int))::rowA encInt 3 (.slice (some ⟨b,0,none⟩) (R * c) cE) L::vR b17 p R c (.slice (some ⟨b,0,none⟩) (R * c) cE)::pt b2 (.cells #[vi p,vi R,vi c,.slice (some ⟨b,0,none⟩) (R * c) cE] 147 (0,0))::pt b1 (.cells #[vi p,vi R,vi c,.slice (some ⟨b,0,none⟩) (R * c) cE] 147 (0,0))::s) (((zj1 _ _ _).cons _).trans (zj1 _ _ _)) ?_)))));refine fT fun g5 hle5 hs5=>?_;exact ST.retCD1 2 s (.inl I) results157 I I isAgg147 cC I I uR ⟨I,hle5,J,_,_,I,⟨_,_,_,I⟩,hs5,(hE.rk hp.fld).symm,hJR⟩
end Go.Proofs.YtcfkpajlakidbaaGreat
