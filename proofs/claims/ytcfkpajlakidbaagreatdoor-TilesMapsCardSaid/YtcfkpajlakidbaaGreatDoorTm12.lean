/- 12 -/
import Derived.Test.YtcfkpajlakidbaaGreatDoorTm11
import Derived.Test.YtcfkpajlakidbaaGreatDoorTm10
import Derived.Below
import Derived.Test.YtcfkpajlakidbaaGreatDoorTm04
import Derived.Test.YtcfkpajlakidbaaGreatDoorTm03
import Derived.Test.YtcfkpajlakidbaaGreatDoorTm02
set_option linter.unusedSimpArgs false
set_option linter.unusedVariables false
namespace Go.Proofs.YtcfkpajlakidbaaGreatDoor
open _root_.Go.Proofs.Tryz _root_.Go.Proofs.YtcfkpajlakidbaaGreatDoor.Tryz
open Go Go.Sy Go.Pl Go.Proofs
set_option maxRecDepth 100000
set_option maxHeartbeats 4000000
def fI (n:Int)(ks:List Int)(zl:List (Int×Int)):List (Int×Int):=zl.map fun p=>if p.1∈ks then (p.1,n * p.2) else p
theorem yd (n:Int)(ks:List Int)(zl:List (Int×Int)):(fI n ks zl).map Prod.fst=zl.map Prod.fst:=by
 unfold fI;rw[zh9];refine zc5 fun p _=>?_;simp only[Function.comp];split <;> rfl
theorem A5 (n:Int)(zl:List (Int×Int)):fI n [] zl=zl:=by simp[fI]
theorem A7 {n:Int}{ks:List Int}{zl:List (Int×Int)}(h:∀ p∈zl,p.1∈ks):fI n ks zl=zl.map fun p=>(p.1,n * p.2):=zc5 fun p hp=>zf5 (h p hp)
theorem A6 {n k z:Int}{ks:List Int}{zl:List (Int×Int)}(h:(k,z)∈fI n ks zl)(hk:k ∉ ks):(k,z)∈zl:=by
 unfold fI at h;obtain ⟨p,hp,he⟩:=ze6.1 h;split at he
 ·rename_i h1;injection he with h2 h3
  rw[h2] at h1;exact absurd h1 hk
 ·rw[← he]; exact hp
theorem tr {n k z:Int}{ks:List Int}:∀ {zl:List (Int×Int)},(zl.map Prod.fst).Nodup→(k,z)∈zl→eZ (fz (fI n ks zl)) k (dy (n * z))=fz (fI n (ks++[k]) zl)
 | [],_,h=>by cases h
 | (a,y)::r,hn,h=>by
  rw[zf8,zj3] at hn;have hL:fz (fI n ks ((a,y)::r))=(a,dy (if a∈ks then n * y else y))::fz (fI n ks r):=by
   unfold fz fI;simp only[zf8];by_cases ha:a∈ks <;> simp[ha]
  have hR:fz (fI n (ks++[k]) ((a,y)::r))=(a,dy (if a∈ks++[k] then n * y else y))::fz (fI n (ks++[k]) r):=by
   unfold fz fI;simp only[zf8];by_cases ha:a∈ks++[k] <;> simp only[ha,if_true,if_false]
  rw[hL,hR];by_cases hak:k=a
  ·subst hak;have hy:y=z:=by
    rcases ze5.1 h with h1 | h1
    ·injection h1 with _ h2; exact h2.symm
    ·exact absurd (ze6.2 ⟨(k,z),h1,I⟩) hn.1
   subst hy;have ht:fI n (ks++[k]) r=fI n ks r:=zc5 fun p hp=>by
    have h1:p.1≠k:=fun e=>hn.1 (ze6.2 ⟨p,hp,e⟩);simp[h1]
   rw[eZ,zf5 rfl,zf5 (by simp),ht]
  ·have h1:(k,z)∈r:=by
    rcases ze5.1 h with h1 | h1
    ·injection h1 with h2 _; exact absurd h2 hak
    ·exact h1
   have h2:(a∈ks++[k])=(a∈ks):=by simp; exact fun e=>absurd e.symm hak
   rw[eZ,zf4 hak,tr hn.2 h1];simp only[h2]
theorem a8 (a:Int)(u:Value)(r:List (Int×Value))(k:Int):dE ((a,u)::r) k=if k=a then some u else dE r k:=by
 unfold dE;rw[fnd];split
 ·rfl
 ·exact jv k r 1
theorem wV {k:Int}:∀ {l:List (Int×Value)},(∃ p∈l,p.1=k)→∃ u,dE l k=some u
 | [],h=>by obtain ⟨p,hp,_⟩:=h; cases hp
 | (a,u)::r,h=>by
  rw[a8];by_cases e:k=a
  ·exact⟨u,zf5 e⟩
  ·rw[zf4 e];obtain ⟨p,hp,he⟩:=h
   rcases ze5.1 hp with rfl | hp
   ·exact absurd he.symm e
   ·exact wV ⟨p,hp,he⟩
theorem ye (E:World)(hE:E.drawn=0)(g:PH)(s:Own)(n:Int)(v:Value)(ts:List Tm)(ht:SlA cN g v ts)(hn:n.natAbs≤1)(hT:j3 ts)(hcf:∀ r,(cf ts r).natAbs≤1) :
  Ctr Tryz.prog E 98 #[dy n,v] g s (fun r g' s'=>s=s'∧Le g g'∧SlA cN g' r (wv n ts)):=by
 obtain ⟨p,c,rfl⟩:=za2 ht;have hlen:=kO ts [];have hnd:=ii ts (zl:=[]) (by simp);have hgz:=ff ts;have hkeys:=te hT.fit;have hl:=hT.len;have hres:wv n ts=gp ((jD [] ts).map fun p=>(p.1,n * p.2)):=rfl;rw[hres];refine za9 (args:=[.agg #[vb (my n),txt (ey n.natAbs)],.slice p ts.length c]) func98 I ntmps98 (bE I) ?_;refine rZ (bW (bO I) fun b2=>?_);refine aT I (sW I (lW (bS sty188 I I I (ab ⟨I,trivial⟩) dC) ?_));rintro _ _ _ ⟨b9,rfl,rfl,rfl⟩;refine zb3 fun g1 hle1 hb9=>?_;have hs9:SlA aY g1 (.slice (some ⟨b9,0,none⟩) 1 1) [⟨p,ts.length,c⟩]:=SlA.lit hb9 rfl rfl;refine lW (cL call91 I (rJ E g1 _ _ p 1 ts.length c ts hs9 (za3 ht hle1) hT)) ?_;rintro _ g2 _ ⟨m,rfl,hle2,rfl⟩;generalize jD [] ts=zl at *;refine aT I (sQ (sQ (SC.openMap 0 I fun es clk hI=>?_)));refine SC.to (g':=g2) (s':=mx m es clk::pt b2 (.cells #[vb (my n),txt (ey n.natAbs)] 84 (0,0))::s) (fun w hw=>hw) ?_;refine rG (lM I (lW (SO.rangeG underlying146 I (Cq 0 I)) ?_));rintro _ _ _ ⟨it,rfl,rfl,rfl⟩;refine tZ (bK ?_);rw[zc1,Nat.zero_add] at hlen;refine oP (ι:=List MapEntry×List (Int×Value)×PH×Array MapEntry) (fun _=>[(2,pp b2 0),(5,.map (some m)),(12,pp it 0)]) (fun i=>i.2.2.1)
  (fun i=>ez it m i.2.2.2 clk i.1::mx m i.2.2.2 clk::pt b2 (.cells #[vb (my n),txt (ey n.natAbs)] 84 (0,0))::s)
  (fun i=>m3 (fz (fI n (i.2.1.map Prod.fst) zl)) i.2.2.2 clk∧kN (fz (fI n (i.2.1.map Prod.fst) zl)) i.2.2.2 i.1 i.2.1∧Le g2 i.2.2.1) (fun i=>zl.length - i.2.1.length)
  ([],[],g2,es) sB rfl rfl ⟨by dsimp only; rw[List.map_nil,A5]; exact hI,kN.nil _ _,zb7 _⟩ ?_
 rintro ⟨vis,vl,gk,es3⟩ ⟨hI3,hrv3,hlek⟩;dsimp only at hI3 hrv3 hlek ⊢;have hpl:(fz (fI n (vl.map Prod.fst) zl)).length=zl.length:=by unfold fz fI; rw[ze1,ze1]
 refine rZ (lW (SO.nextPG 0 I I (Cq 1 I) hI3 hrv3) ?_);rintro _ _ _ ⟨rfl,hcase⟩
 rcases hcase with ⟨rfl,rfl,hperm⟩ | ⟨en,pr,hen,hpr,hk1,hv1,hrv4,rfl,rfl⟩
 ·have hall:∀ p∈zl,p.1∈vl.map Prod.fst:=fun p hp=>by
   rw[(hperm.map Prod.fst).mem_iff,Eb,yd];exact ze6.2 ⟨p,hp,I⟩
  rw[A7 hall] at hI3;refine yX I (tZ (sQ (cF I (xI (tX (tX (bX (tN (sQ (SC.drop (s':=mx m es3 clk::pt b2 (.cells #[vb (my n),txt (ey n.natAbs)] 84 (0,0))::s) (.cons _ (.refl _)) (SC.freeze fun g4 hle4 hb4=>?_)))))))))));have hm4:Mp g4 m (fz (zl.map fun p=>(p.1,n * p.2))):=⟨_,_,hb4,hI3⟩;refine rG (lM I (lW (cL call92 I (l7 E hE g4 _ m _ hm4 (by rw[ze1]; omega) (fun p hp=>by obtain ⟨q,hq,rfl⟩:=ze6.1 hp; exact hkeys q hq) (fun p hp=>by obtain ⟨q,hq,rfl⟩:=ze6.1 hp; dsimp only; rw[Int.natAbs_mul,← kY hnd q hq,hgz]; have h5:=Nat.mul_le_mul hn (hcf q.1); omega))) ?_));rintro v24 g5 _ ⟨rfl,hle5,hs5⟩;refine aT I (rE (dR (s':=s) uR ?_));exact za6 (.inl I) results98 I ⟨I,hle1.trans (hle2.trans (hlek.trans (hle4.trans hle5))),hs5⟩
 ·obtain ⟨⟨k,z⟩,hz,rfl⟩:=ze6.1 hpr;have hnk:=A8 hrv4 hI3;rw[zf9,List.nodup_append] at hnk;have hkn:k ∉ vl.map Prod.fst:=fun hm=>hnk.2.2 _ hm _ (by simp) rfl;have hzl:=A6 hz hkn;have hz1:z.natAbs≤1:=by
   have h1:=kY hnd (k,z) hzl;dsimp only at h1;rw[← h1,hgz];exact hcf k
  have hnz:(n * z).natAbs≤1:=by
   rw[Int.natAbs_mul];have h5:=Nat.mul_le_mul hn hz1;omega
  have hu1:=wV (k:=k) ⟨_,hpr,rfl⟩;have hput:=tr (n:=n) (ks:=vl.map Prod.fst) hnd hzl;have hvl:=hrv4.len hI3;rw[zd9,ze2,hpl] at hvl;refine yX I (tZ (sQ (cT I (kP (tN (bK (rZ (lK (SQ.entryPG (p:=(k,.agg #[vb (my z),txt (ey z.natAbs)])) 0 I I (Cq 1 I) hI3 hen hk1 hv1) (yX I (yX I (bW (aL zk3) fun b7=>?_)))))))))));refine lA I (oZ (sK 0 iI I I I I I sB) ?_);refine tZ ?_;refine SC.to (g':=gk) (s':=pt b7 (.cells #[vb (my z),txt (ey z.natAbs)] 84 (0,0))::ez it m es3 clk (vis++[en])::mx m es3 clk::pt b2 (.cells #[vb (my n),txt (ey n.natAbs)] 84 (0,0))::s) (fun w hw=>hw) ?_;refine rG (lM I (lM I (lK (qV 3 mZ iI I I I) (lK (qV 0 mZ iI I I I) (lW (cL call97 I (mQ E gk _ n z oM oM oM)) ?_)))));rintro _ g6 _ ⟨rfl,rfl,hle6⟩;refine lO (SO.mapUpdateX 2 mty146 I I I I hI3 hu1) ?_;rintro _ _ _ ⟨rfl,es4,rfl,hI4,hrvu⟩;refine nL (bN ?_);have hrv5:=hrvu _ _ hrv4;have hks:((vl++[(k,dy z)]).map (Cb k (dy (n * z)))).map Prod.fst=vl.map Prod.fst++[k]:=by rw[AL,zf9]; rfl
  rw[hput] at hI4 hrv5;refine dR (.cons _ (.refl _)) ?_;exact ST.again ((vis++[en]).map (pj k (dy (n * z))),(vl++[(k,dy z)]).map (Cb k (dy (n * z))),g6,es4) sB I (by dsimp only; rw[Dn _ _ _ es3]; rfl) ⟨by dsimp only; rw[hks]; exact hI4,by dsimp only; rw[hks]; exact hrv5,hlek.trans hle6⟩ (by dsimp only; rw[ze1,zd9,ze2]; omega)
def pA (l:List Cl)(d k:Int):Bool:=l.any fun c=>decide (c.id=k)&&decide (c.dim=d)
theorem yR {l:List Cl}{i:Nat}(h:i<l.length)(d k:Int):pA (l.take (i+1)) d k=(pA (l.take i) d k||(decide (l[i].id=k)&&decide (l[i].dim=d))):=by
 unfold pA;rw[tS h,List.any_append];simp
theorem inP (E:World)(g:PH)(b m:Nat)(pm:List (Int×Value))(q:Int→Bool)(hb:g b=some (.cells #[.map (some m)] 139 (0,0)))(hm:Mp g m pm)(hq:∀ k,(dE pm k).getD (vb false)=vb (q k)):zK E (.func (.func 94) #[] #[pp b 0]) (fun t=>!q t.1) g:=by
 intro g s a hle;refine cX.mk (cap:=[pp b 0]) call94 ?_;have hb':=hle _ _ hb;have hm':=hm.mono hle;refine za9 (args:=[.agg (cN.enc a).toArray,pp b 0]) func94 I ntmps94 (bE I) ?_;refine rZ (bW (bO I) fun b2=>?_);refine aT I (rZ (lK (qL isAgg139 I (cK hb' I)) (lU (fA underlying87 I zT3 I) (lK (qL (v:=vi a.1) iT3 I (cO 0 I I)) (lK (SQ.eq (v':=vb (q a.1)) (SQ.lookup mty139 I I (ce.known hm')) (hq a.1)) (lU (SU.not I) (aT I (rE (dR (s':=s) uR ?_)))))))));exact za6 (.inl I) results94 I ⟨I,I,I⟩
theorem E7 (E:World)(hE:E.drawn=0)(g:PH)(s:Own)(v u:Value)(l:List Cl)(d:Int)(ts:List Tm)(hv:am g v l)(hf:dg l)(ht:SlA cN g u ts)(hT:j3 ts)(hth:∀ t∈ts,pA l d t.1=true) :
  Ctr Tryz.prog E 45 #[.agg #[v],vi d,u] g s (fun r g' s'=>r=vb true∧s=s'∧Le g g'):=by
 obtain ⟨rs,hrs,hall⟩:=hv;have hlen:=hall.length;have hfl:=hf.1;obtain ⟨p,c,rfl⟩:=za2 hrs;obtain ⟨q,e,rfl⟩:=za2 ht;have hcl:=rT ts;have hl:=hT.len;refine za9 (args:=[.agg #[.slice p rs.length c],vi d,.slice q ts.length e]) func45 I ntmps45 (bE I) ?_;refine rZ (bW (bO I) fun b3=>?_);refine aT I (rZ (lW (SO.mkMap) ?_));rintro _ _ _ ⟨m,rfl,rfl,rfl⟩;refine bW (aL zeroValue139) fun b7=>?_;refine oZ (sK 0 sizeOf139 I I I I I sB) ?_;refine tZ (sQ (rZ (lU (fA eU I dN I) (lK (qL (v:=.slice p rs.length c) fD I (cO 2 I I)) (lU (eN aK I) (lM I (tZ (bK ?_))))))));refine oP (ι:=Nat×List (Int×Value)) (fun i=>[(1,vi d),(2,.slice q ts.length e),(7,pp b7 0),(12,.slice p rs.length c),(13,vi rs.length),(14,vi i.1)]) (fun _=>g) (fun i=>pt b7 (.cells #[.map (some m)] 139 (0,0))::mp m i.2::pt b3 (.cells #[.slice p rs.length c] 31 (0,0))::s)
  (fun i=>i.1≤rs.length∧∀ k,(dE i.2 k).getD (vb false)=vb (pA (l.take i.1) d k)) (fun i=>rs.length - i.1) (0,[]) sB rfl rfl ⟨zf1 _,fun _=>rfl⟩ ?_
 rintro ⟨k,pm⟩ ⟨hk,hq⟩;dsimp only at hk hq ⊢;refine rZ (yL I (tZ (sQ ?_)));refine iP I (fun hlt=>?_) (fun hlt=>?_)
 ·have hkr:k<rs.length:=oM;have hkl:k<l.length:=oM;have hb1:=za4 hrs oM;have hgk:rs[((k:Nat):Int).toNat]?=some rs[k]:=gE hkr;have hcr:=hall.get (gE hkl) (gE hkr);have hsucc:=yR hkl d;generalize l[k]=x at *;generalize hrk:rs[k]=rk at *;obtain ⟨xi,xd,xp,xn,xc⟩:=rk;obtain ⟨e1,e2,hxs⟩:=hcr;dsimp only at e1 e2 hxs;subst e1 e2
  rcases Bool.eq_false_or_eq_true (pA (l.take k) d x.id) with hB | hB
  ·refine kP (tN (sQ (bK (rZ (lU (iA aK ax I I hb1 oM sL) (lK (eA fB ax I (za5 hrs) hgk) (bW (aL zk5) fun b9=>?_)))))));refine oZ (sK 0 ax I I I I I sB) ?_;refine tZ (rG (lK (qL (v:=.map (some m)) isAgg139 I (cO 1 I I)) (lU (fA ao I zT3 I) (lK (qL (v:=vi x.id) iT3 I (cO 0 I I)) (lK (qL (v:=.map (some m)) isAgg139 I (cO 1 I I)) (lU (fA ao I zT3 I) (lK (qL (v:=vi x.id) iT3 I (cO 0 I I)) (lK (SQ.eq (v':=vb true) (SQ.lookup mty139 I I (ce.own 2 I)) (by rw[hq,hB])) ?_))))))));refine lM I (yA I (yA I (yA I (yA I (yP I (lO (SO.mapUpdate 2 mty139 I I I I) ?_))))));rintro _ _ _ ⟨rfl,rfl⟩;refine nL (bN (tN (rG (yD I (lM I (nL (dR (s':=pt b7 (.cells #[.map (some m)] 139 (0,0))::mp m (eZ pm x.id (vb true))::pt b3 (.cells #[.slice p rs.length c] 31 (0,0))::s) (.cons _ (.refl _)) ?_)))))));exact ST.again (k+1,eZ pm x.id (vb true)) sB I I ⟨by dsimp only; omega,fun j=>by
    dsimp only;rw[nY,hsucc];by_cases hj:j=x.id
    ·subst hj; rw[zf5 rfl,hB]; rfl
    ·rw[zf4 hj,hq,zf2 (fun e=>hj e.symm),Bool.false_and,Bool.or_false]⟩ (by dsimp only; omega)
  ·refine kP (tN (sQ (bK (rZ (lU (iA aK ax I I hb1 oM sL) (lK (eA fB ax I (za5 hrs) hgk) (bW (aL zk5) fun b9=>?_)))))));refine oZ (sK 0 ax I I I I I sB) ?_;refine tZ (rG (lK (qL (v:=.map (some m)) isAgg139 I (cO 1 I I)) (lU (fA ao I zT3 I) (lK (qL (v:=vi x.id) iT3 I (cO 0 I I)) (lK (qL (v:=.map (some m)) isAgg139 I (cO 1 I I)) (lU (fA ao I zT3 I) (lK (qL (v:=vi x.id) iT3 I (cO 0 I I)) (lK (SQ.eq (v':=vb false) (SQ.lookup mty139 I I (ce.own 2 I)) (by rw[hq,hB])) ?_))))))));refine lM I (lY I I I (fA ao I zT3 I) (SL.gq (gT I I I dC) (qL (v:=vi x.dim) iT3 I (cO 0 I I)) dC (yC I (lY I I I (eQ I I) (yF I (lO (SO.mapUpdate 2 mty139 I I I I) ?_))))));rintro _ _ _ ⟨rfl,rfl⟩;refine nL (bN (tN (rG (yD I (lM I (nL (dR (s':=pt b7 (.cells #[.map (some m)] 139 (0,0))::mp m (eZ pm x.id (vb (decide (x.dim=d))))::pt b3 (.cells #[.slice p rs.length c] 31 (0,0))::s) (.cons _ (.refl _)) ?_)))))));exact ST.again (k+1,eZ pm x.id (vb (decide (x.dim=d)))) sB I I ⟨by dsimp only; omega,fun j=>by
    dsimp only;rw[nY,hsucc];by_cases hj:j=x.id
    ·subst hj; rw[zf5 rfl,hB,zf3 rfl,Bool.false_or,Bool.true_and]; rfl
    ·rw[zf4 hj,hq,zf2 (fun e=>hj e.symm),Bool.false_and,Bool.or_false]⟩ (by dsimp only; omega)
 ·have hkk:l.take k=l:=tL oM;rw[hkk] at hq;have hany:(sY ts).any (fun t=>!pA l d t.1)=false:=by
   rw[zj6];intro t htc;obtain ⟨⟨u,hu,he⟩,_⟩:=xx htc;have h1:=hth u hu;rw[he] at h1;simp[h1]
  refine xI (tX (tX (bX (tN (sQ (SC.freeze fun g1 hle1 hb7=>?_))))));refine SC.freezeMap fun g2 hle2 hm2=>?_;refine rG (lM I (lW (cL call43 I (gy E hE g2 _ _ ts (za3 ht (hle1.trans hle2)) hT)) ?_));rintro v33 g3 _ ⟨rfl,hle3,hs3⟩;refine lU (SU.mkFunc I) (lW (cL call93 I (sF E g3 _ _ 94 #[pp b7 0] (sY ts) _ hs3 oM (inP E g3 b7 m pm (pA l d) ((hle2.trans hle3) _ _ hb7) (hm2.mono hle3) hq))) ?_);rintro _ _ _ ⟨rfl,rfl,rfl⟩;rw[hany];refine lU (SU.not I) (aT I (rE (dR (s':=s) uR ?_)));exact za6 (.inl I) results45 I ⟨I,I,hle1.trans (hle2.trans hle3)⟩
theorem XT.freezeMap {M:Md}{N:Nat}{E:World}{Q:Exit→Act→World→Prop}{f:Fr}{g:PH}{s:Own}{e:Exit}{b:Nat}{l:List (Int×Value)}(h:∀ g',Le g g'→Mp g' b l→XT M N E Q e f g' s):XT M N E Q e f g (mp b l::s):=fun a w ha hw=>by
 obtain ⟨g',h1,h2,h3⟩:=hw.freezeMap;exact h g' h1 h3 a w ha h2
def cV (l:List Cl):List (Int×ah):=l.flatMap fun c=>c.sides.map fun y=>(c.id,y)
theorem Du {β:Type}{A:List Cl}{f:Cl→List β}{k j:Nat}(hk:k<A.length)(hj:j<(f A[k]).length):A.flatMap f=((A.take k).flatMap f++(f A[k]).take j)++(f A[k])[j]::((f A[k]).drop (j+1)++(A.drop (k+1)).flatMap f):=by
 have e1:A=A.take k++A[k]::A.drop (k+1):=by rw[List.getElem_cons_drop,zi5]
 have e2:f A[k]=(f A[k]).take j++(f A[k])[j]::(f A[k]).drop (j+1):=by rw[List.getElem_cons_drop,zi5]
 calc A.flatMap f=(A.take k++A[k]::A.drop (k+1)).flatMap f:=by rw[← e1]
  _=(A.take k).flatMap f++(f A[k]++(A.drop (k+1)).flatMap f):=by rw[List.flatMap_append,zg9]
  _=(A.take k).flatMap f++(((f A[k]).take j++(f A[k])[j]::(f A[k]).drop (j+1))++(A.drop (k+1)).flatMap f):=by rw[← e2]
  _=_:=by simp only[zg3,List.cons_append]
theorem vF (E:World)(g:PH)(s:Own)(p:Option Addr)(n c:Nat) :
  Ctr Tryz.prog E 95 #[.agg #[.slice p n c]] g s (fun r g' s'=>s=s'∧Le g g'∧∃ b,r = .func (.func 138) #[] #[pp b 0]∧g' b=some (.cells #[.slice p n c] 31 (0,0))):=by
 refine za9 (args:=[.agg #[.slice p n c]]) func95 I ntmps95 (bE I) ?_;refine rZ (bW (bO I) fun b1=>?_);refine aT I (rZ (lU (SU.mkFunc I) (aT I (rE (ST.freeze fun g1 hle hb=>?_)))));exact za6 (.inl I) results95 I ⟨I,hle,_,I,hb⟩
theorem vE (E:World)(g0:PH)(b:Nat)(l:List Cl)(rs:List Rc)(p:Option Addr)(c:Nat)(hb:g0 b=some (.cells #[.slice p rs.length c] 31 (0,0)))(hrs:SlA encCell g0 (.slice p rs.length c) rs)(hall:aA (ay g0) l rs)(hf:dg l) :
  Cr Tryz.prog E 138 [pp b 0] (fun p:Int×ah=>[vi p.1,.agg #[vi p.2.cell,vi p.2.sign]]) (cV l) g0:=by
 intro y ι G S J i0 h0 hmono hY sx;have hlen:=hall.length;have hfl:=hf.1;refine Ctr.ofX (args:=[.func (.yield y) #[] #[],pp b 0]) func138 I ntmps138 (bE I) ?_;refine XC.seq ?_;refine XC.region ?_;refine XL.u (fA eU I dN I) dC ?_;refine XL.q (qL (v:=.slice p rs.length c) fD I (cK (hmono _ _ h0 _ _ hb) I)) dC ?_;refine XL.u (eN aK I) dC ?_;refine XL.u (mV I) dC ?_;refine XL.nil ?_;refine XT.thenN ?_;refine XC.block ?_;refine XC.loop (ι:=ι×Nat) (fun z=>[(0,.func (.yield y) #[] #[]),(1,pp b 0),(8,.slice p rs.length c),(9,vi rs.length),(10,vi z.2)]) (fun z=>G z.1) (fun z=>S z.1++sx) (fun z=>z.2≤l.length∧J (cV (l.take z.2)) z.1) (fun z=>l.length - z.2) (i0,0)
  sB rfl rfl ⟨zf1 _,h0⟩ ?_
 rintro ⟨i,k⟩ ⟨hk,hJ⟩;dsimp only at hk hJ ⊢;have hm:=hmono _ _ hJ;refine XC.seq ?_;refine XC.region ?_;refine XL.u (lS I I) dC ?_;refine XL.nil ?_;refine XT.thenN ?_;refine XC.seq ?_;refine XC.ifP I (fun hlt=>?_) (fun hlt=>?_)
 ·have hkr:k<rs.length:=oM;have hkl:k<l.length:=oM;have hb1:=za4 hrs oM;have hgk:rs[((k:Nat):Int).toNat]?=some rs[k]:=gE hkr;have hcr:=hall.get (gE hkl) (gE hkr);have hfs:=fun j hj=>Du (f:=fun c:Cl=>c.sides.map fun y=>(c.id,y)) (j:=j) hkl hj;have htk:cV (l.take (k+1))=cV (l.take k)++l[k].sides.map fun y=>(l[k].id,y):=by unfold cV; rw[tS hkl,List.flatMap_append]; simp
  have hsl:=hf.2 _ (gM hkl);generalize l[k]=x at *;generalize hrk:rs[k]=rk at *;obtain ⟨xi,xd,xp,xn,xc⟩:=rk;obtain ⟨e1,e2,hxs⟩:=hcr;dsimp only at e1 e2 hxs;subst e1 e2;obtain rfl:xn=x.sides.length:=(SlA.cap hxs).1;refine XC.skip ?_;refine XT.thenN ?_;refine XC.seq ?_;refine XC.block ?_;refine XC.seq ?_;refine XC.region ?_;refine XL.u (iA aK ax I I hb1 oM sL) dC ?_;refine XL.q (eA fB ax I (za5 (za3 hrs hm)) hgk) dC ?_;refine XL.o (aL zk5) dC ?_;rintro _ _ _ ⟨b4,rfl,rfl,rfl⟩;refine XL.on (sK 0 ax I I I I I sB) ?_;rintro _ _ _ ⟨rfl,rfl⟩;refine XL.nil ?_;refine XT.thenN ?_;refine XC.seq ?_;refine XC.region ?_;refine XL.u (fA ao I cB I) dC ?_;refine XL.q (qL (v:=.slice xp x.sides.length xc) dJ I (cO 0 I I)) dC ?_;refine XL.u (eN cY I) dC ?_;refine XL.u (mV I) dC ?_;refine XL.nil ?_;refine XT.thenN ?_;refine XC.block ?_;refine XC.to (g':=G i) (s':=S i++(pt b4 (.cells #[vi x.id,vi x.dim,.slice xp x.sides.length xc] 64 (0,0))::sx)) (fun w hw=>hw.perm List.perm_middle.symm) ?_;refine XC.loop (ι:=ι×Nat) (fun z=>[(0,.func (.yield y) #[] #[]),(1,pp b 0),(4,pp b4 0),(8,.slice p rs.length c),(9,vi rs.length),(10,vi k),(15,.slice xp x.sides.length xc),(16,vi x.sides.length),(17,vi z.2)]) (fun z=>G z.1) (fun z=>S z.1++(pt b4 (.cells #[vi x.id,vi x.dim,.slice xp x.sides.length xc] 64 (0,0))::sx)) (fun z=>z.2≤x.sides.length∧J (cV (l.take k)++(x.sides.map fun y=>(x.id,y)).take z.2) z.1) (fun z=>x.sides.length - z.2) (i,0)
   sB rfl rfl ⟨zf1 _,by simpa using hJ⟩ ?_
  rintro ⟨i3,j⟩ ⟨hj,hJ3⟩;dsimp only at hj hJ3 ⊢;have hm3:=hmono _ _ hJ3;refine XC.seq ?_;refine XC.region ?_;refine XL.u (lS I I) dC ?_;refine XL.nil ?_;refine XT.thenN ?_;refine XC.seq ?_;refine XC.ifP I (fun hjl=>?_) (fun hjl=>?_)
  ·have hjB:j<x.sides.length:=oM;have hjM:j<(x.sides.map fun y=>(x.id,y)).length:=by rw[ze1]; exact hjB
   have hb2:=za4 hxs oM;have hgj:x.sides[((j:Nat):Int).toNat]?=some x.sides[j]:=gE hjB;have hy:=fun sx'=>hY _ _ _ i3 sx' (hfs j hjM) hJ3;have htj:(x.sides.map fun y=>(x.id,y)).take (j+1)=(x.sides.map fun y=>(x.id,y)).take j++[(x.id,x.sides[j])]:=by rw[tS hjM,List.getElem_map]
   have hxe:(x.sides.map fun y=>(x.id,y))[j]=(x.id,x.sides[j]):=List.getElem_map ..;rw[hxe] at hy;dsimp only at hy;have hxs3:=za3 hxs hm3;generalize x.sides[j]=q at *;refine XC.skip ?_;refine XT.thenN ?_;refine XC.seq ?_;refine XC.block ?_;refine XC.seq ?_;refine XC.region ?_;refine XL.u (iA cY cq I I hb2 oM sL) dC ?_;refine XL.q (eA m0 cq I (za5 hxs3) hgj) dC ?_;refine XL.o (aL zk2) dC ?_;rintro _ _ _ ⟨b6,rfl,rfl,rfl⟩;refine XL.on (sK 0 cq I I I I I sB) ?_;rintro _ _ _ ⟨rfl,rfl⟩;refine XL.nil ?_;refine XT.thenN ?_;refine XC.seq ?_;refine XC.to (g':=G i3) (s':=S i3++(pt b6 (.cells #[vi q.cell,vi q.sign] 67 (0,0))::pt b4 (.cells #[vi x.id,vi x.dim,.slice xp x.sides.length xc] 64 (0,0))::sx)) (fun w hw=>hw.perm List.perm_middle.symm) ?_;refine XC.region ?_;refine XL.u (mV I) dC ?_;refine XL.u (fA ao I zT3 I) dC ?_;refine XL.q (qL (v:=vi x.id) iT3 I (cO (cs:=#[vi x.id,vi x.dim,.slice xp x.sides.length xc]) (T:=64) (fr:=(0,0)) ((S i3).length+1) (by simp) I)) dC ?_;refine XL.q (qV (cs:=#[vi q.cell,vi q.sign]) (U:=67) (fr:=(0,0)) (S i3).length m0 cq I (by simp) I) dC ?_;refine XL.x (XO.yield I I (hy _)) dC ?_;rintro _ _ _ ⟨rfl,j',hJ',rfl,rfl⟩;refine XL.u (SU.not I) dC ?_;refine XL.nil ?_;refine XT.thenN ?_;refine XC.condF I ?_;refine XC.skip ?_;refine XT.blockN ?_;refine XT.thenN ?_;refine XC.region ?_;refine XL.u (aD I I oM) dC ?_;refine XL.u (mV I) dC ?_;refine XL.nil ?_;refine XT.drop ((zb9 _).append (zi4 _ _)) ?_;exact XT.again (j',j+1) sB I I ⟨by dsimp only; omega,by dsimp only; rw[htj,← zg3]; exact hJ'⟩ (by dsimp only; omega)
  ·have hjj:(x.sides.map fun y=>(x.id,y)).take j=x.sides.map fun y=>(x.id,y):=tL (by rw[ze1]; omega);rw[hjj,← htk] at hJ3;refine XC.exit ?_;refine XT.thenX ?_;refine XT.thenX ?_;refine XT.blockX ?_;refine XT.blockN ?_;refine XT.thenN ?_;refine XC.region ?_;refine XL.u (aD I I oM) dC ?_;refine XL.u (mV I) dC ?_;refine XL.nil ?_;refine XT.drop ((zb9 _).append (zi4 _ _)) ?_;exact XT.again (i3,k+1) sB I I ⟨by dsimp only; omega,hJ3⟩ (by dsimp only; omega)
 ·have hkk:l.take k=l:=tL oM;rw[hkk] at hJ;refine XC.exit ?_;refine XT.thenX ?_;refine XT.thenX ?_;refine XT.blockX ?_;exact XT.leave0 (.inr I) (ST.ret0 (.inr I) results138 ⟨i,hJ,I,I⟩)
def de (ts:List Tm)(zl:List (Int×Int))(p:Int×ah):List (Int×Int):=if cf ts p.1≠0 then dA zl p.2.cell (cf ts p.1 * p.2.sign) else zl
def Ch (ts:List Tm)(xs:List (Int×ah)):List (Int×Int):=xs.foldl (de ts) []
theorem BV (ts:List Tm)(xs:List (Int×ah))(p:Int×ah):Ch ts (xs++[p])=de ts (Ch ts xs) p:=by
 unfold Ch;rw[zi3];rfl
theorem AD (ts:List Tm)(r:Int):∀ (xs:List (Int×ah)) (zl:List (Int×Int)),cC (xs.foldl (de ts) zl) r=cC zl r+(xs.map fun p=>if p.2.cell=r then cf ts p.1 * p.2.sign else 0).sum
 | [],_=>by simp
 | p::xs,zl=>by
  rw[zi2,AD ts r xs,zf8,List.sum_cons];unfold de;by_cases h:cf ts p.1=0
  ·rw[zf4 (by simpa using h),h,Int.zero_mul];split <;> omega
  ·rw[zf5 h,oa];by_cases e:r=p.2.cell
   ·rw[zf5 e,zf5 e.symm]; omega
   ·rw[zf4 e,zf4 fun e2=>e e2.symm]; omega
theorem zG {ts:List Tm}(hcf:∀ r,(cf ts r).natAbs≤1):∀ (xs:List (Int×ah)) {B:Nat} {zl:List (Int×Int)},(∀ p∈xs,p.2.sign=1∨p.2.sign = -1)→WBd B zl→WBd (B+xs.length) (xs.foldl (de ts) zl)
 | [],_,_,_,h=>h
 | p::xs,B,zl,hs,h=>by
  rw[zi2,ze3];have h1:WBd (B+1) (de ts zl p):=by
   unfold de;split
   ·refine WBd.add ?_ _ h;have:=hcf p.1;rw[Int.natAbs_mul]
    rcases hs p (by simp) with e | e <;> rw[e] <;> simpa using this
   ·exact h.mono oM
  exact (zG hcf xs (fun q hq=>hs q (List.mem_cons_of_mem _ hq)) h1).mono oM
theorem tV (ts:List Tm):∀ (xs:List (Int×ah)) {zl:List (Int×Int)},(zl.map Prod.fst).Nodup→((xs.foldl (de ts) zl).map Prod.fst).Nodup
 | [],_,h=>h
 | p::xs,zl,h=>by
  refine tV ts xs (zl:=de ts zl p) ?_;unfold de;split
  ·exact mw h _ _
  ·exact h
theorem AC (ts:List Tm):∀ (xs:List (Int×ah)) (zl:List (Int×Int)),(xs.foldl (de ts) zl).length≤zl.length+xs.length
 | [],_=>lR _
 | p::xs,zl=>by
  have h1:=AC ts xs (de ts zl p);have h2:(de ts zl p).length≤zl.length+1:=by
   unfold de;split
   ·exact xL _ _ _
   ·omega
  rw[zi2,ze3];omega
theorem xA (ts:List Tm):∀ (xs:List (Int×ah)) {zl:List (Int×Int)},(∀ p∈zl,dn p.1)→(∀ p∈xs,dn p.2.cell)→∀ p∈xs.foldl (de ts) zl,dn p.1
 | [],_,h,_=>h
 | q::xs,zl,h,hx=>by
  refine xA ts xs (zl:=de ts zl q) (fun p hp=>?_) fun p hp=>hx p (List.mem_cons_of_mem _ hp);unfold de at hp;split at hp
  ·have h1:p.1∈(dA zl q.2.cell (cf ts q.1 * q.2.sign)).map Prod.fst:=ze6.2 ⟨p,hp,rfl⟩;rw[oz] at h1;split at h1
   ·obtain ⟨r,hr,he⟩:=ze6.1 h1;rw[← he]; exact h r hr
   ·rcases ze7.1 h1 with h1 | h1
    ·obtain ⟨r,hr,he⟩:=ze6.1 h1;rw[← he]; exact h r hr
    ·simp at h1;rw[h1]; exact hx q (by simp)
  ·exact h p hp
theorem tm (G:Int→Int)(r:Int):∀ l:List Cl,((cV l).map fun p=>if p.2.cell=r then G p.1 * p.2.sign else 0).sum=bdF l G r
 | []=>rfl
 | c::l=>by
  have h1:cV (c::l)=(c.sides.map fun y=>(c.id,y))++cV l:=rfl;have h2:bdF (c::l) G r=G c.id * pn c.sides r+bdF l G r:=by unfold bdF; rw[zf8,List.sum_cons]
  rw[h1,zf9,List.sum_append,tm G r l,h2,zh9];refine zd6 (· + _) ?_;unfold pn;rw[← zS];refine zd6 List.sum (zc5 fun y _=>?_);show (if y.cell=r then G c.id * y.sign else 0)=_;by_cases e:y.cell=r
  ·rw[zf5 e,zf5 e]
  ·rw[zf4 e,zf4 e,Int.mul_zero]
def wy (l:List Cl)(ts:List Tm):List Tm:=gp (Ch ts (cV l))
theorem xB (l:List Cl)(ts:List Tm):nD (bdF l (cf ts)) (wy l ts):=by
 have h:=l8 (zl:=Ch ts (cV l)) (tV ts _ (by simp));refine⟨h.1,h.2.1,fun r=>(h.2.2 r).trans ?_⟩;unfold Ch;rw[AD,tm];show 0+_=_;omega
theorem Bn {z:Int}(h:z.natAbs<4294967296):decide (ey z.natAbs≠[])=decide (z≠0):=by
 have h1:beN (ey z.natAbs)=z.natAbs:=iS oM;rw[decide_eq_decide];constructor
 ·intro h2 h3;subst h3;exact h2 I
 ·intro h2 h3;rw[h3] at h1;have h4:beN []=0:=rfl;omega
theorem lC (E:World)(hE:E.drawn=0)(g:PH)(s:Own)(v u:Value)(l:List Cl)(ts:List Tm)(hv:am g v l)(hf:dg l)(ht:SlA cN g u ts)(hT:j3 ts)(hcf:∀ r,(cf ts r).natAbs≤1)(hs:∀ p∈cV l,(p.2.sign=1∨p.2.sign = -1)∧dn p.2.cell)(hn:(cV l).length<1000000) :
  Ctr Tryz.prog E 47 #[.agg #[v],u] g s (fun r g' s'=>s=s'∧Le g g'∧SlA cN g' r (wy l ts)):=by
 obtain ⟨rs,hrs,hall⟩:=hv;have hlen:=hall.length;obtain ⟨p,c,rfl⟩:=za2 hrs;obtain ⟨q,d,rfl⟩:=za2 ht;have hbl:=AC ts (cV l) [];have hbd:=zG hcf (cV l) (fun p hp=>(hs p hp).1) WBd.nil;have hbk:=xA ts (cV l) (zl:=[]) (by simp) fun p hp=>(hs p hp).2;have hgz:=ff ts;refine Ctr.ofX (args:=[.agg #[.slice p rs.length c],.slice q ts.length d]) func47 I ntmps47 (bE I) ?_;refine XC.seq ?_;refine XC.region ?_;refine XL.o (bO I) dC ?_;rintro _ _ _ ⟨b2,rfl,rfl,rfl⟩;refine XL.u (aS I) dC ?_;refine XL.nil ?_;refine XT.thenN ?_;refine XC.seq ?_;refine XC.region ?_;refine XL.u (mV I) dC ?_;refine XL.o (bS sty188 I I I (ab ⟨I,trivial⟩) dC) dC ?_;rintro _ _ _ ⟨b11,rfl,rfl,rfl⟩;refine XL.freeze fun g1 hle1 hb11=>?_;have hs11:SlA aY g1 (.slice (some ⟨b11,0,none⟩) 1 1) [⟨q,ts.length,d⟩]:=SlA.lit hb11 rfl rfl;refine XL.o (cL call91 I (rJ E g1 _ _ q 1 ts.length d ts hs11 (za3 ht hle1) hT)) dC ?_;rintro _ g2 _ ⟨m1,rfl,hle2,rfl⟩;refine XL.freezeMap fun g3 hle3 hm1=>?_;have h13:=hle1.trans (hle2.trans hle3);refine XL.o (SO.mkMap) dC ?_;rintro _ _ _ ⟨m2,rfl,rfl,rfl⟩;refine XL.o (aL zeroValue146) dC ?_;rintro _ _ _ ⟨b5,rfl,rfl,rfl⟩;refine XL.o (aL zeroValue146) dC ?_;rintro _ _ _ ⟨b6,rfl,rfl,rfl⟩;refine XL.on (sK 1 sizeOf146 I I I I I sB) ?_;rintro _ _ _ ⟨rfl,rfl⟩;refine XL.on (sK 0 sizeOf146 I I I I I sB) ?_;rintro _ _ _ ⟨rfl,rfl⟩;refine XL.nil ?_;refine XT.thenN ?_;refine XC.seq ?_;refine XC.seq ?_;refine XC.region ?_;refine XL.q (qV 3 ba au I I I) dC ?_;refine XL.o (cL call95 I (vF E g3 _ p rs.length c)) dC ?_;rintro _ g4 _ ⟨rfl,hle4,bf,rfl,hbf⟩;refine XL.nil ?_;refine XT.thenN ?_;refine XC.block ?_;have h14:=h13.trans hle4;have hrs4:=za3 hrs h14;have hall4:=hall.mono fun _ _=>ay.mono h14;have hm4:=hm1.mono hle4;refine XC.to (g':=g4) (s':=mp m2 []::pt b6 (.cells #[.map (some m2)] 146 (0,0))::pt b5 (.cells #[.map (some m1)] 146 (0,0))::pt b2 (.cells #[.slice p rs.length c] 31 (0,0))::s) (fun w hw=>hw.perm (by exact (List.perm_middle (l₁:=[pt b6 (.cells #[.map (some m2)] 146 (0,0)),pt b5 (.cells #[.map (some m1)] 146 (0,0))])))) ?_;refine XC.rangeFuncA (α:=Int×ah) (ι:=List (Int×Int)×PH) (κ:=Nat) (encs:=fun p=>[vi p.1,.agg #[vi p.2.cell,vi p.2.sign]]) (xs:=cV l) (g0:=g4) (fun j=>j.2) (fun j=>mp m2 (fz j.1)::pt b6 (.cells #[.map (some m2)] 146 (0,0))::pt b5 (.cells #[.map (some m1)] 146 (0,0))::pt b2 (.cells #[.slice p rs.length c] 31 (0,0))::[]) (fun pre j=>Le g4 j.2∧j.1=Ch ts pre) ([],g4) s
  (fun p=>[(17,.agg #[vi p.2.cell,vi p.2.sign]),(16,vi p.1),(5,pp b5 0),(6,pp b6 0)]) (fun _ p _ b8=>[(7,vi p.1),(8,pp b8 0),(5,pp b5 0),(6,pp b6 0)]) (fun p b8=>[pt b8 (.cells #[vi p.2.cell,vi p.2.sign] 67 (0,0))])
  rfl rfl call138 (fun _=>rfl) rfl rfl (vE E g4 bf l rs p c hbf hrs4 hall4 hf) (fun _ _ h=>h.1) ⟨zb7 _,rfl⟩
  (fun x a h=>z7 (h.sub (g:=[(5,pp b5 0),(6,pp b6 0)]) sB) dC dC) ?_ ?_ ?_
 ·intro l0 pre i j sx hJ;refine XC.seq ?_;refine XC.region ?_;refine XL.u (aS I) dC ?_;refine XL.nil ?_;refine XT.thenN ?_;refine XC.region ?_;refine XL.o (aL zk2) dC ?_;rintro _ _ _ ⟨b8,rfl,rfl,rfl⟩;refine XL.on (sK 0 cq I I I I I sB) ?_;rintro _ _ _ ⟨rfl,rfl⟩;refine XL.nil ?_;exact XT.assignEndA b8 sB I
 ·rintro l0 pre ⟨id0,y⟩ suf ⟨zl,gk⟩ sx b8 hk hxs ⟨hlek,hzl⟩;dsimp only at hlek hzl ⊢;have hmem:(id0,y)∈cV l:=by rw[hxs]; simp
  obtain ⟨hsg,-⟩:=hs _ hmem;have hz1:=hcf id0;have hbp:=zG hcf pre (fun p hp=>(hs p (by rw[hxs]; simp[hp])).1) WBd.nil;have hpl:pre.length≤(cV l).length:=by rw[hxs]; simp
  have hzb:(cC zl y.cell).natAbs≤pre.length:=by
   have h1:WBd (0+pre.length) zl:=by rw[hzl]; exact hbp
   have h2:=WBd.get h1 y.cell;omega
  have hsn:=BV ts pre (id0,y);have hlk:(dE (fz (jD [] ts)) id0).getD (dy 0)=dy (cf ts id0):=by rw[vm,hgz]
  unfold de at hsn;dsimp only at hsg hsn;rw[← hzl] at hsn;have hmk:=hm4.mono hlek;generalize cf ts id0=z at *;have hmg:=Bn (z:=z) oM;have hzs:(z * y.sign).natAbs≤1:=by
   rw[Int.natAbs_mul]
   rcases hsg with e | e <;> rw[e] <;> simpa using hz1
  refine XC.block ?_;refine XC.seq ?_;refine XC.region ?_;refine XL.q (qL (v:=.map (some m1)) isAgg146 I (cO 3 I I)) dC ?_;refine XL.u (mV I) dC ?_;refine XL.q (SQ.eq (v':=.agg #[vb (my z),txt (ey z.natAbs)]) (SQ.lookup mty146 I I (ce.known hmk)) hlk) dC ?_;refine XL.o (aL zk3) dC ?_;rintro _ _ _ ⟨b9,rfl,rfl,rfl⟩;refine XL.on (sK 0 iI I I I I I sB) ?_;rintro _ _ _ ⟨rfl,rfl⟩;refine XL.nil ?_;refine XT.thenN ?_;refine XC.seq ?_;refine XC.region ?_;refine XL.u (fA sS I sizeOf9 I) dC ?_;refine XL.q (qL (v:=txt (ey z.natAbs)) isAgg9 I (cO 0 I I)) dC ?_;refine XL.u (SU.eq (v':=vb (decide (z≠0))) (SU.neqT I I) (zd6 vb hmg)) dC ?_;refine XL.nil ?_;refine XT.thenN ?_;refine XC.ifP I (fun hz=>?_) (fun hz=>?_)
  ·rw[zf5 hz] at hsn;refine XC.draw [8] [(0,1),(1,2),(2,1),(3,1),(4,2),(5,1),(6,0),(7,0),(8,0)] zd7 kR kR ?_;refine pK I (qL (v:=.map (some m2)) isAgg146 I (cO 3 I I)) (pU I (fA dI I zT3 I) (pK I (qL (v:=vi y.cell) iT3 I (cO 1 I I)) (pK I (qV 0 mZ iI I I I) (pU I (fA dI I zT3 I) (pK I (qL (v:=vi y.sign) iT3 I (cO 1 I I)) (SP.o I (cL call39 I (od E _ _ y.sign oM oM)) dC (.inr iR) ?_))))));rintro _ g5 _ ⟨rfl,rfl,hle5⟩;refine SP.o rfl (cL call97 rfl (mQ E _ _ z y.sign oM oM oM)) dC (.inr (by rintro _ g6 _ ⟨rfl,rfl,hle6⟩; exact⟨by exact Le.trans (by assumption) (by assumption),(by exact .refl _)⟩)) ?_;rintro _ g6 _ ⟨rfl,rfl,hle6⟩;refine SP.o I (cL call96 I (oH E _ _ m2 2 zl y.cell (z * y.sign) I oM)) dC (.inl dC) ?_;rintro _ g7 _ ⟨hle7,rfl⟩;have h57:=hle5.trans (hle6.trans hle7);refine pN (ST.ofXT ?_);refine XT.blockN ?_;refine XT.drop (.cons _ (.cons _ (.refl _))) ?_;exact XT.roundEnd (dA zl y.cell (z * y.sign),g7) I I ⟨hlek.trans h57,hsn.symm⟩
  ·rw[zf4 hz] at hsn;refine XC.skip ?_;refine XT.blockN ?_;refine XT.drop (.cons _ (.cons _ (.refl _))) ?_;exact XT.roundEnd (zl,gk) I I ⟨hlek,hsn.symm⟩
 ·rintro D ⟨zl,gk⟩ ⟨hlek,hzl⟩;dsimp only at hlek hzl ⊢;refine XT.to (g':=gk) (s':=mp m2 (fz zl)::pt D (.deferred (some []))::pt b6 (.cells #[.map (some m2)] 146 (0,0))::pt b5 (.cells #[.map (some m1)] 146 (0,0))::pt b2 (.cells #[.slice p rs.length c] 31 (0,0))::s) (fun w hw=>hw.perm (zj2 _ _ _)) ?_;refine XT.freezeMap fun g9 hle9 hm9=>?_;refine XT.blockN ?_;refine XT.thenN ?_;refine XC.seq ?_;refine XC.region ?_;refine XL.q (qL (v:=.map (some m2)) isAgg146 I (cO 1 I I)) dC ?_;refine XL.o (cL call92 I (l7 E hE g9 _ m2 zl hm9 (by rw[hzl]; unfold Ch; rw[zc1] at hbl; omega) (by rw[hzl]; exact hbk) (by rw[hzl]; exact WBd.mono hbd oM))) dC ?_;rintro v34 gA _ ⟨rfl,hleA,hsA⟩;refine XL.u (aS I) dC ?_;refine XL.nil ?_;refine XT.thenN ?_;refine XC.ret ?_;refine XT.leave1 (.inl I) ?_;refine dR (s':=s) uR ?_;exact za6 (.inl I) results47 I ⟨I,h14.trans (hlek.trans (hle9.trans hleA)),by rw[hzl] at hsA; exact hsA⟩
theorem wa (E:World)(g:PH)(s:Own)(v:Value)(l:List Cl)(hv:am g v l)(hf:dg l)(hasc:(aa l).Pairwise fun a b=>a.id<b.id) :
  Ctr Tryz.prog E 40 #[.agg #[v]] g s (fun r g' s'=>s=s'∧Le g g'∧cj g' r ((aa l).map Cl.id)):=by
 have hfc:=bH hf;obtain ⟨pv,cv,rfl⟩:=hv.form;refine za9 (args:=[.agg #[.slice pv l.length cv]]) func40 I ntmps40 (bE I) ?_;refine rZ (bW (bO I) fun b1=>?_);refine aT I (rZ (aT I (sQ (rZ (lK (qV 0 ba au I I I) (lW (cL call35 I (iu E g _ _ l hv hf)) ?_))))));rintro _ g1 _ ⟨rfl,hle1,u,rfl,hc⟩;obtain ⟨rs,hrs,hall⟩:=hc;obtain ⟨q,d,rfl⟩:=za2 hrs;refine lU (SU.field eU I fD I I) (lU (eN aK I) (lM I (tZ (bK ?_))));generalize aa l=A at *;have hrl:=hall.length;have hAl:=hfc.1;refine zb4 3 1 ?_;refine oP (ι:=Nat×Value) (fun i=>[(3,i.2),(8,.slice q rs.length d),(9,vi rs.length),(10,vi i.1)]) (fun _=>g1)
  (fun i=>rowA encInt 3 i.2 ((A.map Cl.id).take i.1)::pt b1 (.cells #[.slice pv l.length cv] 31 (0,0))::s)
  (fun i=>i.1≤rs.length) (fun i=>rs.length - i.1) (0,.slice none 0 0) sB rfl rfl (zf1 _) ?_
 rintro ⟨k,ov⟩ hk;dsimp only at hk ⊢;refine SC.facts fun ⟨w0,hw0⟩=>?_;obtain ⟨p0,c0,rfl⟩:=ag (e:=encInt) (l:=(A.map Cl.id).take k) (i:=0) hw0 rfl;have hbs:=bT (e:=encInt) (l:=(A.map Cl.id).take k) (i:=0) hw0 rfl;clear hw0 w0;have hlk:((A.map Cl.id).take k).length=k:=by rw[zd8,ze1]; omega
 refine rZ (yL I (tZ (sQ ?_)));refine iP I (fun hlt=>?_) (fun hlt=>?_)
 ·have hkr:k<rs.length:=oM;have hkl:k<A.length:=oM;have hb1:=za4 hrs oM;have hgx:rs[((k:Nat):Int).toNat]?=some rs[k]:=gE hkr;have hcr:=hall.get (gE hkl) (gE hkr);have htk:(A.map Cl.id).take (k+1)=(A.map Cl.id).take k++[A[k].id]:=by rw[tS (by rw[ze1]; exact hkl),List.getElem_map]
  have hprev:∀ (h:0<k),((A.map Cl.id).take k)[((k:Int) - 1).toNat]?=some (A[k - 1]'oM).id∧(A[k - 1]'oM).id≠A[k].id:=fun h=>by
   have h1:=zc6.1 hasc (k - 1) k oM hkl oM;refine⟨?_,oM⟩;rw[show ((k:Int) - 1).toNat=k - 1 by omega,zh5,zf5 oM,zh4,gE oM];rfl
  generalize hxk:A[k]=x at *;generalize rs[k]=r at *;obtain ⟨xi,xd,xp,xn,xc⟩:=r;have hxi:xi=x.id:=hcr.1;subst hxi;refine kP (tN (sQ (bK (rZ (lU (iA aK ax I I hb1 oM (show (k:Int)<((rs.length:Nat):Int) by omega)) ?_)))));refine lK (eA fB ax I (za5 hrs) hgx) (bW (aL zk5) fun b5=>?_);refine oZ (sK 0 ax I I I I I sB) ?_;refine tZ ?_;by_cases hk0:k=0
  ·refine sQ ?_;refine dW [] [(0,2),(1,2),(2,2),(3,2),(4,2),(5,2),(6,2),(7,2),(8,2),(9,1),(10,2),(11,1),(12,2),(13,2)] zd7 kR ?_;refine yM I (pU I (eN aj I) (pU I (SU.eq (v':=vb true) (eQ I I) (zd6 vb (zf3 oM))) (yM I (yG I (yG I (yG I (yG I (yG I (yI I (yG I (yI I (yG I (pU I (wT I I) (pN (tN (cT I (rG (lM I (lU (fA ao I zT3 I) (lK (qL (v:=vi x.id) iT3 I (cO 0 I I)) (lW (bS sty25 I I I (ab ⟨I,trivial⟩) dC) ?_)))))))))))))))))))));rintro _ _ _ ⟨b31,rfl,rfl,rfl⟩;refine lW (aP (e:=encInt) (l:=(A.map Cl.id).take k) 1 x.id sty25 I I I I I oM oM) ?_;rintro ov' _ _ ⟨rfl,rfl⟩;refine lA I (nL (bN (tN (rG (yD I (lM I (nL (dR (s':=rowA encInt 3 ov' ((A.map Cl.id).take k++[x.id])::pt b1 (.cells #[.slice pv l.length cv] 31 (0,0))::s) (.cons _ (.refl _)) ?_))))))));rw[← htk];exact ST.again (k+1,ov') sB I I (by dsimp only; omega) (by dsimp only; omega)
  ·obtain ⟨b0,cap0,hb0⟩:=hbs oM;obtain ⟨rfl,rfl⟩:p0=some ⟨b0,0,none⟩∧c0=cap0:=by injection hb0 with h1 _ h2; exact⟨h1,h2⟩
   obtain ⟨hp1,hp2⟩:=hprev oM;refine sQ ?_;refine dW [] [(0,2),(1,2),(2,2),(3,2),(4,2),(5,2),(6,2),(7,2),(8,2),(9,1),(10,2),(11,1),(12,2),(13,2)] zd7 kR ?_;refine yM I (pU I (eN aj I) (pU I (SU.eq (v':=vb false) (eQ I I) (zd6 vb (zf2 oM))) (yM I (yJ I (yJ I (zb1 I (gT I I I dC) (eN aj I) dC (zb1 I (gT I I I dC) (SU.eq (v':=vi ((k:Int) - 1)) (sU (m:=((((A.map Cl.id).take k).length:Nat):Int)) (n:=1) I I ⟨oM,oM⟩) (zd6 vi (by rw[hlk]))) dC ?_)))))));refine zb1 I (gT I I I dC) (iA (i:=(k:Int) - 1) aj zT3 I I I oM (show (k:Int) - 1<((((A.map Cl.id).take k).length:Nat):Int) by omega)) dC ?_;refine SP.gq I (gT I I I dC) (eB iT3 I (zb5 (l:=(A.map Cl.id).take k) 1 I) hp1 I) dC (zb1 I (gT I I I dC) (fA ao I zT3 I) dC (SP.gq I (gT I I I dC) (qL (v:=vi x.id) iT3 I (cO 0 I I)) dC (zb1 I (gT I I I dC) (SU.eq (v':=vb true) (nQ I I) (zd6 vb (zf3 hp2))) dC (pU I (wF I I) (pN (tN (cT I (rG (lM I (lU (fA ao I zT3 I) (lK (qL (v:=vi x.id) iT3 I (cO 0 I I)) (lW (bS sty25 I I I (ab ⟨I,trivial⟩) dC) ?_))))))))))));rintro _ _ _ ⟨b31,rfl,rfl,rfl⟩;refine lW (aP (e:=encInt) (l:=(A.map Cl.id).take k) 1 x.id sty25 I I I I I oM oM) ?_;rintro ov' _ _ ⟨rfl,rfl⟩;refine lA I (nL (bN (tN (rG (yD I (lM I (nL (dR (s':=rowA encInt 3 ov' ((A.map Cl.id).take k++[x.id])::pt b1 (.cells #[.slice pv l.length cv] 31 (0,0))::s) (.cons _ (.refl _)) ?_))))))));rw[← htk];exact ST.again (k+1,ov') sB I I (by dsimp only; omega) (by dsimp only; omega)
 ·have hkk:(A.map Cl.id).take k=A.map Cl.id:=tL (by rw[ze1]; omega);rw[hkk];refine xI (tX (tX (bX (tN (sW I (aT I (rE (fT fun g2 hle2 hs2=>?_))))))));refine dR (s':=s) uR ?_;exact za6 (.inl I) results40 I ⟨I,hle1.trans hle2,hs2⟩
theorem uA (E:World)(g:PH)(s:Own)(k:Int) :
  Ctr Tryz.prog E 49 #[vi k] g s (fun r g' s'=>s=s'∧Le g g'∧SlA cN g' r [(k,1)]):=by
 refine za9 (args:=[vi k]) func49 I ntmps49 (bE I) ?_;refine rZ (aT I (sW I (lW (cL call39 I (od E g _ 1 dC dC)) ?_)));rintro _ g1 _ ⟨rfl,rfl,hle1⟩;refine lU (za1 I (build87 _ _ _)) (lW (bS sty76 I I I (ab ⟨I,trivial⟩) dC) ?_);rintro _ _ _ ⟨b6,rfl,rfl,rfl⟩;refine zb3 fun g2 hle2 hb6=>?_;have hs6:SlA cN g2 (.slice (some ⟨b6,0,none⟩) 1 1) [(k,1)]:=SlA.lit hb6 rfl rfl;refine aT I (rE ?_);exact za6 (.inl I) results49 I ⟨I,hle1.trans hle2,hs6⟩
def gt (r:Im):Int×Value:=(r.cell,.slice r.sv.p r.sv.n r.sv.c)
theorem Aj {g:PH}:∀ {L:List (Int×List Tm)} {rs:List Im},aA (ImR g) L rs→(L.map Prod.fst).Nodup→∀ p∈L,∃ q c,dE (rs.map gt) p.1=some (.slice q p.2.length c)∧SlA cN g (.slice q p.2.length c) p.2
 | [],[],_,_,p,hp=>by cases hp
 | a::L,r::rs,h,hn,p,hp=>by
  obtain ⟨h1,h2⟩:=h;rw[zf8,zj3] at hn;have hc:(r::rs).map gt=(r.cell,.slice r.sv.p r.sv.n r.sv.c)::rs.map gt:=rfl;rw[hc,a8]
  rcases ze5.1 hp with rfl | hp
  ·have hl:r.sv.n=p.2.length:=(SlA.cap h1.2).1;rw[zf5 h1.1.symm,← hl];exact⟨_,_,I,h1.2⟩
  ·rw[zf4 (fun e=>hn.1 (ze6.2 ⟨p,hp,by rw[e,h1.1]⟩))];exact Aj h2 hn.2 p hp
 | [],_::_,h,_,_,_=>h.elim
 | _::_,[],h,_,_,_=>h.elim
theorem Ai:∀ {rs:List Im} {k:Int},(∀ r∈rs,r.cell≠k)→dE (rs.map gt) k=none∧∀ u,eZ (rs.map gt) k u=rs.map gt++[(k,u)]
 | [],_,_=>⟨rfl,fun _=>rfl⟩
 | r::rs,k,h=>by
  have h1:¬ k=r.cell:=fun e=>h r (by simp) e.symm;obtain ⟨h2,h3⟩:=Ai (rs:=rs) (k:=k) fun x hx=>h x (by simp[hx]);have hc:(r::rs).map gt=(r.cell,.slice r.sv.p r.sv.n r.sv.c)::rs.map gt:=rfl;refine⟨by rw[hc,a8,zf4 h1,h2],fun u=>?_⟩;rw[hc,eZ,zf4 h1,h3];rfl
theorem xa {g:PH}:∀ {L:List (Int×List Tm)} {rs:List Im},aA (ImR g) L rs→rs.map Im.cell=L.map Prod.fst
 | [],[],_=>rfl
 | a::L,r::rs,h=>by rw[zf8,zf8,h.1.1,xa h.2]
 | [],_::_,h=>h.elim
 | _::_,[],h=>h.elim
theorem vw (E:World)(g:PH)(s:Own)(p:Option Addr)(n c:Nat)(rs:List Im)(L:List (Int×List Tm))(hrs:SlA ur g (.slice p n c) rs)(hall:aA (ImR g) L rs)(hn:(L.map Prod.fst).Nodup)(hl:L.length<1000000) :
  Ctr Tryz.prog E 41 #[.agg #[.slice p n c]] g s (fun r g' s'=>s=s'∧Le g g'∧∃ m,r = .map (some m)∧Mp g' m (rs.map gt)):=by
 obtain rfl:n=rs.length:=(SlA.cap hrs).1;have hlen:=hall.length;have hcl:=xa hall;refine za9 (args:=[.agg #[.slice p rs.length c]]) func41 I ntmps41 (bE I) ?_;refine rZ (bW (bO I) fun b1=>?_);refine aT I (rZ (lW (SO.mkMap) ?_));rintro _ _ _ ⟨m,rfl,rfl,rfl⟩;refine aT I (sQ (rZ (lU (fA Cc I sizeOf43 I) (lK (qL (v:=.slice p rs.length c) isAgg43 I (cO 1 I I)) (lU (eN Ek I) (lM I (tZ (bK ?_))))))));refine oP (ι:=Nat) (fun i=>[(3,.map (some m)),(10,.slice p rs.length c),(11,vi rs.length),(12,vi i)]) (fun _=>g)
  (fun i=>mp m ((rs.take i).map gt)::pt b1 (.cells #[.slice p rs.length c] 45 (0,0))::s)
  (fun i=>i≤rs.length) (fun i=>rs.length - i) 0 sB rfl rfl (zf1 _) ?_
 rintro k hk;refine rZ (yL I (tZ (sQ ?_)));refine iP I (fun hlt=>?_) (fun hlt=>?_)
 ·have hkr:k<rs.length:=oM;have hb1:=za4 hrs oM;have hgx:rs[((k:Nat):Int).toNat]?=some rs[k]:=gE hkr;have htk:rs.take (k+1)=rs.take k++[rs[k]]:=tS hkr;have hnew:∀ x∈rs.take k,x.cell≠rs[k].cell:=fun x hx=>by
   obtain ⟨i,hi,rfl⟩:=zc4 hx;have hi3:i<k:=by rw[zd8] at hi; omega
   rw[List.getElem_take];rw[← hcl] at hn;have h2:=zc6.1 (List.nodup_iff_pairwise_ne.1 hn) i k (by rw[ze1]; omega) (by rw[ze1]; omega) hi3;simpa only[List.getElem_map] using h2
  obtain ⟨hno,hput⟩:=Ai hnew;generalize rs[k]=x at *;obtain ⟨xi,xp,xn,xc⟩:=x;have hput:=hput (.slice xp xn xc);have hput:eZ ((rs.take k).map gt) xi (.slice xp xn xc)=(rs.take (k+1)).map gt:=by rw[htk,zf9]; exact hput
  refine kP (tN (sQ (bK (rZ (lU (iA Ek sizeOf78 I I hb1 oM (show (k:Int)<((rs.length:Nat):Int) by omega)) ?_)))));refine lK (eA isAgg78 sizeOf78 I (za5 hrs) hgx) (bW (aL zeroValue78) fun b5=>?_);refine oZ (sK 0 sizeOf78 I I I I I sB) ?_;refine tZ (sW I (lU (fA wt I zT3 I) (lK (qL (v:=vi xi) iT3 I (cO 0 I I)) (lK (SQ.eq (v':=.tuple #[.slice none 0 0,vb false]) (SQ.lookupOk mty89 I I (ce.own 1 I)) (by rw[hno]; rfl)) ?_))));refine lM I (yX I (yX I (lA I (aT I (sW I (lU (SU.not I) (tZ (cT I (rG (lM I (lU (fA wt I zT3 I) (lK (qL (v:=vi xi) iT3 I (cO 0 I I)) (lU (fA wt I sizeOf76 I) (lK (qL (v:=.slice xp xn xc) isAgg76 I (cO 0 I I)) (lO (SO.mapUpdate 1 mty89 I I I I) ?_)))))))))))))));rintro _ _ _ ⟨rfl,rfl⟩;rw[hput];refine nL (bN (tN (rG (yD I (lM I (nL (dR (s':=mp m ((rs.take (k+1)).map gt)::pt b1 (.cells #[.slice p rs.length c] 45 (0,0))::s) (.cons _ (.refl _)) ?_)))))));exact ST.again (k+1) sB I I oM oM
 ·have hkk:rs.take k=rs:=tL oM;rw[hkk];refine xI (tX (tX (bX (tN (sW I (aT I (rE (ST.freezeMap fun g2 hle2 hm2=>?_))))))));refine dR (s':=s) uR ?_;exact za6 (.inl I) results41 I ⟨I,hle2,m,I,hm2⟩
def onT (img:Int→List Tm)(us:List Tm):List Tm:=us.flatMap fun t=>wv t.2 (img t.1)
theorem F9 (ts us:List Tm)(r:Int):cf (ts++us) r=cf ts r+cf us r:=by simp[cf]
theorem D3 (img:Int→List Tm)(r:Int):∀ us:List Tm,cf (onT img us) r=onF img us r
 | []=>rfl
 | t::us=>by
  have h1:onT img (t::us)=wv t.2 (img t.1)++onT img us:=rfl;have h2:onF img (t::us) r=t.2 * cf (img t.1) r+onF img us r:=by unfold onF; rw[zf8,List.sum_cons]
  rw[h1,h2,F9,D3 img r us,(CX _ _).2.2]
theorem qY {img:Int→List Tm}:∀ {us:List Tm},(∀ t∈us,(img t.1).length≤64)→(onT img us).length≤64 * us.length
 | [],_=>by simp[onT]
 | t::us,h=>by
  have h1:onT img (t::us)=wv t.2 (img t.1)++onT img us:=rfl;have h2:=qY (img:=img) (us:=us) fun u hu=>h u (List.mem_cons_of_mem _ hu);have h3:=wO t.2 (img t.1);have h4:=h t (by simp);rw[h1,zd9,ze3];omega
theorem Dc (E:World)(hE:E.drawn=0)(g:PH)(s:Own)(m:Nat)(v:Value)(rs:List Im)(L:List (Int×List Tm))(img:Int→List Tm)(us:List Tm)(hm:Mp g m (rs.map gt))(hall:aA (ImR g) L rs)(hn:(L.map Prod.fst).Nodup)(hv:SlA cN g v us)
  (hu:∀ t∈us,(t.2=1∨t.2 = -1)∧(t.1,img t.1)∈L) (hul:us.length≤64) (hi:∀ t∈us,(img t.1).length≤64∧(∀ q∈img t.1,q.2.natAbs≤1)∧(∀ r,(cf (img t.1) r).natAbs≤1)∧sb (img t.1)) :
  Ctr Tryz.prog E 48 #[.map (some m),v] g s (fun r g' s'=>s=s'∧Le g g'∧SlA cN g' r (sY (onT img us))∧(∀ t∈onT img us,t.2.natAbs≤1)∧sb (onT img us)):=by
 obtain ⟨p,c,rfl⟩:=za2 hv;have hsm:∀ t∈onT img us,t.2.natAbs≤1∧dn t.1:=fun t ht=>by
  obtain ⟨u,hu1,ht2⟩:=List.mem_flatMap.1 ht;obtain ⟨⟨q,hq,he⟩,h2⟩:=CW ht2;obtain ⟨-,-,h3,h4⟩:=hi u hu1;refine⟨?_,by rw[← he]; exact h4 q hq⟩;rw[h2,Int.natAbs_mul];have:=h3 t.1
  rcases (hu u hu1).1 with e | e <;> rw[e] <;> simpa using this
 have hol:=qY (img:=img) (us:=us) fun t ht=>(hi t ht).1;have htame:j3 (onT img us):=j3.ones (fun t ht=>(hsm t ht).1) oM fun t ht=>(hsm t ht).2;refine za9 (args:=[.map (some m),.slice p us.length c]) func48 I ntmps48 (bE I) ?_;refine rZ (aT I (rZ (aT I (sQ (sW I (lU (eN wu I) (lM I (tZ (bK (zb4 87 3 ?_))))))))));refine oP (ι:=Nat×PH×Value) (fun i=>[(0,.map (some m)),(5,i.2.2),(8,.slice p us.length c),(9,vi us.length),(10,vi i.1)]) (fun i=>i.2.1) (fun i=>rowA cN 87 i.2.2 (onT img (us.take i.1))::s)
  (fun i=>i.1≤us.length∧Le g i.2.1) (fun i=>us.length - i.1) (0,g,.slice none 0 0) sB rfl rfl ⟨zf1 _,zb7 _⟩ ?_
 rintro ⟨k,gk,ov⟩ ⟨hk,hlek⟩;dsimp only at hk hlek ⊢;refine rZ (yL I (tZ (sQ ?_)));refine iP I (fun hlt=>?_) (fun hlt=>?_)
 ·have hkl:k<us.length:=oM;have hvk:=za3 hv hlek;have hb1:=za4 hvk oM;have hgx:us[((k:Nat):Int).toNat]?=some us[k]:=gE hkl;have hmk:us[k]∈us:=gM hkl;have htk:onT img (us.take (k+1))=onT img (us.take k)++wv us[k].2 (img us[k].1):=by unfold onT; rw[tS hkl,List.flatMap_append]; simp
  have hkl2:=qY (img:=img) (us:=us.take k) fun t ht=>(hi t (List.mem_of_mem_take ht)).1;rw[zd8] at hkl2;obtain ⟨hs1,hL1⟩:=hu _ hmk;obtain ⟨i1,i2,i3,i4⟩:=hi _ hmk;generalize us[k]=x at *;obtain ⟨x1,x2⟩:=x;dsimp only at htk hs1 hL1 i1 i2 i3 i4;obtain ⟨q1,d1,hg1,hS1⟩:=Aj (hall.mono fun _ _ h=>ImR.mono hlek h) hn _ hL1;dsimp only at hg1 hS1;have hsl:=wO x2 (img x1);refine SC.facts fun ⟨w0,hw0⟩=>?_;obtain ⟨p0,c0,rfl⟩:=ag (e:=cN) (l:=onT img (us.take k)) (i:=0) hw0 rfl;clear hw0 w0;refine kP (tN (sQ (bK (rZ (lU (iA wu uQ I I hb1 oM sL) (lK (eA isAgg87 uQ I (za5 hvk) hgx) (bW (aL zeroValue87) fun b7=>?_)))))));refine oZ (sK 0 uQ I I I I I sB) ?_;refine tZ (rG (lM I (lU (fA underlying87 I iI I) (lK (SQ.loadAggAt (vs:=[vb (my x2),txt (ey x2.natAbs)]) mZ iI I I (DX 0 I)) (lM I (lU (fA underlying87 I zT3 I) (lK (qL (v:=vi x1) iT3 I (cO 0 I I)) (lK (SQ.eq (v':=.slice q1 (img x1).length d1) (SQ.lookup mty89 I I (ce.known (hm.mono hlek))) (by rw[hg1]; rfl)) ?_))))))));refine lW (cL call98 rfl (ye E hE gk _ x2 _ (img x1) hS1 (by rcases hs1 with e | e <;> rw[e] <;> decide) (j3.ones i2 oM i4) i3)) ?_;rintro _ g2 _ ⟨rfl,hle2,hs2⟩;obtain ⟨q2,d2,rfl⟩:=za2 hs2;refine lW (aQ (e:=cN) (l:=onT img (us.take k)) (m:=wv x2 (img x1)) 1 sty76 I I I hs2 oM oM) ?_;rintro ov' _ _ ⟨rfl,rfl⟩;refine lA I (nL (bN (tN (rG (yD I (lM I (nL (dR (s':=rowA cN 87 ov' (onT img (us.take k)++wv x2 (img x1))::s) (.cons _ (.refl _)) ?_))))))));rw[← htk];exact ST.again (k+1,g2,ov') sB I I ⟨by dsimp only; omega,hlek.trans hle2⟩ (by dsimp only; omega)
 ·have hkk:us.take k=us:=tL oM;rw[hkk];refine xI (tX (tX (bX (tN (sQ (fS fun g2 hle2 hs2=>?_))))));obtain ⟨q2,d2,rfl⟩:=Sl.form hs2;have hs2:SlA cN g2 _ (onT img us):=hs2;refine rG (lM I (lW (cL call43 I (gy E hE g2 _ _ (onT img us) hs2 htame)) ?_));rintro _ g3 _ ⟨rfl,hle3,hs3⟩;obtain ⟨q3,d3,rfl⟩:=za2 hs3;refine aT I (rE ?_);exact za6 (.inl I) results48 I ⟨I,hlek.trans (hle2.trans hle3),hs3,fun t ht=>(hsm t ht).1,fun t ht=>(hsm t ht).2⟩
set_option maxHeartbeats 8000000
theorem AA {r:Int}:∀ {ts:List Tm},(ts.Pairwise fun a b=>a.1<b.1)→(∀ t∈ts,t.2.natAbs≤1)→(cf ts r).natAbs≤1
 | [],_,_=>zf1 _
 | t::ts,h,h2=>by
  rw[zj4] at h;rw[c8];by_cases e:t.1=r
  ·have h1:cf ts r=0:=lH fun u hu=>by have:=h.1 u hu; omega
   rw[zf5 e,h1,Int.add_zero];exact h2 t (by simp)
  ·rw[zf4 e,Int.zero_add];exact AA h.2 fun u hu=>h2 u (List.mem_cons_of_mem _ hu)
theorem xw {l:List Cl}{x:Cl}(hx:x∈aa l):∃ y∈l,az y=x:=by
 unfold aa at hx;obtain ⟨y,hy,rfl⟩:=ze6.1 hx;exact⟨y,(co (key:=Cl.id) l).mem_iff.1 hy,I⟩
theorem qh {l:List Cl}(h:(aN l).2=0)(hi:∀ x∈l,dn x.id):(∀ p∈cV l,(p.2.sign=1∨p.2.sign = -1)∧dn p.2.cell)∧(cV l).length≤64 * l.length:=by
 have hR:=fJ h;have key:∀ c∈l,az c∈aa l:=fun c hc=>BT hc;have hp:∀ c:Cl,(az c).sides.Perm c.sides:=fun c=>co (key:=ah.cell) c.sides;constructor
 ·rintro ⟨k,y⟩ hk;obtain ⟨c,hc,he⟩:=List.mem_flatMap.1 hk;obtain ⟨z,hz,e⟩:=ze6.1 he;injection e with _ e
  subst e;have hz2:z∈(az c).sides:=(hp c).mem_iff.2 hz;refine⟨hR.signs (key c hc) z hz2,?_⟩;obtain ⟨d,h1,_⟩:=(hR.form _ (key c hc)).found z hz2;obtain ⟨h2,h3⟩:=cJ h1;obtain ⟨w,h4,h5⟩:=xw h2;dsimp only;rw[← h3,← h5];exact hi w h4
 ·have hlen:∀ A:List Cl,(∀ c∈A,c.sides.length≤64)→(cV A).length≤64 * A.length:=by
   intro A;induction A with
   | nil=>intro _; simp[cV]
   | cons c A ih =>
    intro h;have h1:cV (c::A)=(c.sides.map fun y=>(c.id,y))++cV A:=rfl;have h2:=ih fun d hd=>h d (List.mem_cons_of_mem _ hd);have h3:=h c (by simp);rw[h1,zd9,ze1,ze3];omega
  exact hlen l fun c hc=>by rw[← (hp c).length_eq]; exact hR.few64 (key c hc)
theorem iW.asc1 {l m:List Cl}{img:Int→List Tm}(h:iW l m img){x:Cl}(hx:x∈aa l)(r:Int):(cf (img x.id) r).natAbs≤1:=AA (h.fit x hx).1 (h.small hx)
theorem iW.fit64 {l m:List Cl}{img:Int→List Tm}(h:iW l m img)(hi:∀ x∈m,dn x.id){x:Cl}(hx:x∈aa l):sb (img x.id):=fun t ht=>by
 obtain ⟨c,h1,h2,_⟩:=h.there hx t ht;rw[← h2];exact hi c h1
theorem iW.tame {l m:List Cl}{img:Int→List Tm}(h:iW l m img)(hi:∀ x∈m,dn x.id){x:Cl}(hx:x∈aa l):j3 (img x.id) :=
 j3.ones (h.small hx) (by have:=(h.fit x hx).2.2.2; omega) (h.fit64 hi hx)
theorem pV (E:World)(hE:E.drawn=0)(g:PH)(s:Own)(v u mv:Value)(l m:List Cl)(img:Int→List Tm)(h:iW l m img)(hv:am g v l)(hu:am g u m)(fl:dg l)(fm:dg m)(hI:Ims g mv ((aa l).map fun c=>(c.id,img c.id)))(hil:∀ x∈l,dn x.id)(him:∀ x∈m,dn x.id) :
  Ctr Tryz.prog E 15 #[.agg #[v],.agg #[u],.agg #[mv]] g s (fun r g' s'=>r=vi 0∧s=s'∧Le g g'):=by
 obtain ⟨pl,cl,rfl⟩:=hv.form;obtain ⟨pm,cm,rfl⟩:=hu.form;obtain ⟨rs,hrs,hall⟩:=hI;obtain ⟨pI,cI,rfl⟩:=za2 hrs;have hlen:=hall.length;rw[ze1] at hlen;have hR:=fJ h.cl;have hM:=fJ h.cm;have hAl:=hR.few;have hnd:(((aa l).map fun c=>(c.id,img c.id)).map Prod.fst).Nodup:=by
  rw[zh9];exact hR.ids
 obtain ⟨hsl,hsn⟩:=qh h.cl hil;obtain ⟨hsm,hsmn⟩:=qh h.cm him;have hll:l.length≤4000:=by rw[← ak]; exact hR.few
 have hml:m.length≤4000:=by rw[← ak]; exact hM.few
 refine za9 (args:=[.agg #[.slice pl l.length cl],.agg #[.slice pm m.length cm],.agg #[.slice pI rs.length cI]]) func15 I ntmps15 (bE I) ?_;refine rZ (bW (bO I) fun b3=>?_);refine bW (bO I) fun b4=>?_;refine bW (bO I) fun b5=>?_;refine aT I (sQ (rZ (lK (qV 2 ba au I I I) (lK (qV 1 ba au I I I) (lW (bS sty88 I I I (ab sB) dC) ?_)))));rintro _ _ _ ⟨b19,rfl,rfl,rfl⟩;refine zb3 fun g1 hle1 hb19=>?_;have hs19:SlA aY g1 (.slice (some ⟨b19,0,none⟩) 2 2) [⟨pl,l.length,cl⟩,⟨pm,m.length,cm⟩]:=SlA.lit hb19 rfl rfl;refine lU (eN underlying88 I) (lM I (tZ (bK ?_)));have hv1:=hv.mono hle1;have hu1:=hu.mono hle1;have hLs:aA (fun (A:List Cl) (sv:Sv)=>am g1 (.slice sv.p sv.n sv.c) A) [l,m] [⟨pl,l.length,cl⟩,⟨pm,m.length,cm⟩]:=⟨hv1,hu1,trivial⟩;refine oP (ι:=Nat) (fun k=>[(3,pp b3 0),(4,pp b4 0),(5,pp b5 0),(19,.slice (some ⟨b19,0,none⟩) 2 2),(20,vi 2),(21,vi k)]) (fun _=>g1) (fun _=>pt b5 (.cells #[.slice pI rs.length cI] 45 (0,0))::pt b4 (.cells #[.slice pm m.length cm] 31 (0,0))::pt b3 (.cells #[.slice pl l.length cl] 31 (0,0))::s) (fun k=>k≤2) (fun k=>2 - k) 0
  sB rfl rfl (zf1 _) ?_
 rintro k hk;refine rZ (yL I (tZ (sQ ?_)));refine iP I (fun hlt=>?_) (fun hlt=>?_)
 ·have hk2:k<2:=oM;obtain ⟨A,sv,hgk,hcA,hcf,hfA⟩:∃ (A:List Cl) (sv:Sv),([⟨pl,l.length,cl⟩,⟨pm,m.length,cm⟩]:List Sv)[((k:Nat):Int).toNat]?=some sv∧am g1 (.slice sv.p sv.n sv.c) A∧(aN A).2=0∧dg A:=by
   rcases (by omega:k=0∨k=1) with rfl | rfl
   ·exact⟨l,_,I,hv1,h.cl,fl⟩
   ·exact⟨m,_,I,hu1,h.cm,fm⟩
  obtain ⟨q,n,d⟩:=sv;dsimp only at hcA;refine kP (tN (sQ (bK (rZ (lU (iA underlying88 au I I I oM (show (k:Int)<((2:Nat):Int) by omega)) ?_)))));refine lK (eA ba au I (za5 hs19) hgk) (bW (aL zk7) fun b8=>?_);refine oZ (sK 0 au I I I I I sB) ?_;refine tZ (rZ (lK (qV 0 ba au I I I) (lW (cL call13 I (ir E g1 _ _ A hcA hfA)) ?_)));rintro _ _ _ ⟨rfl,rfl,rfl⟩;rw[hcf];refine lM I (yX I (yX I (lA I (aT I (sW I (lU (SU.eq (v':=vb false) (nQ I I) (zd6 vb (zf2 (by simp)))) ?_))))));refine tZ (cF I (kP (bN (tN (rG (yD I (lM I (nL (dR (.cons _ (.refl _)) ?_)))))))));exact ST.again (k+1) sB I I oM oM
 ·clear hlt hs19 hb19 hLs;have hidl:((aa l).map Cl.id).length=rs.length:=by rw[ze1]; exact hlen
  refine xI (tX (tX (bX (tN (rZ (lK (qV 2 ba au I I I) (lW (cL call40 I (wa E g1 _ _ l hv1 fl hR.asc)) ?_)))))));rintro _ g2 _ ⟨rfl,hle2,hids⟩;obtain ⟨pD,cD,rfl⟩:=za2 hids;have hle12:=hle1.trans hle2;refine aT I (sQ (sW I (lU (eN aj I) (lU (fA Cc I sizeOf43 I) (lK (qL (v:=.slice pI rs.length cI) isAgg43 I (cO 0 I I)) (lU (eN Ek I) (lU (SU.eq (v':=vb false) (nQ I I) (zd6 vb (zf2 oM))) (tZ (cF I (kP (tN (rZ (lK (qV 0 isAgg45 sizeOf45 I I I) (lW (cL call41 I (vw E g2 _ pI rs.length cI rs _ (za3 hrs hle12) (hall.mono fun _ _ h=>ImR.mono hle12 h) hnd (by rw[ze1]; omega))) ?_))))))))))))));rintro _ g3 _ ⟨rfl,hle3,mt,rfl,hmt⟩;refine aT I (sQ (rZ (lU (fA Cc I sizeOf43 I) (lK (qL (v:=.slice pI rs.length cI) isAgg43 I (cO 0 I I)) (lU (eN Ek I) (lM I (tZ (bK ?_))))))));have hle13:=hle12.trans hle3;have hids3:=za3 hids hle3;have hrs3:=za3 hrs hle13;have hall3:=hall.mono fun _ _ h=>ImR.mono hle13 h;have hv3:=hv.mono hle13;have hu3:=hu.mono hle13;clear hids hrs hall hle12 hle2 hle1 hv1 hu1 hle3 hv hu;refine oP (ι:=Nat×PH) (fun i=>[(3,pp b3 0),(4,pp b4 0),(5,pp b5 0),(11,.slice pD ((aa l).map Cl.id).length cD),(12,.map (some mt)),(45,.slice pI rs.length cI),(46,vi rs.length),(47,vi i.1)]) (fun i=>i.2) (fun _=>pt b5 (.cells #[.slice pI rs.length cI] 45 (0,0))::pt b4 (.cells #[.slice pm m.length cm] 31 (0,0))::pt b3 (.cells #[.slice pl l.length cl] 31 (0,0))::s) (fun i=>i.1≤rs.length∧Le g3 i.2) (fun i=>rs.length - i.1) (0,g3)
   sB rfl rfl ⟨zf1 _,zb7 _⟩ ?_
  rintro ⟨k,gk⟩ ⟨hk,hlek⟩;dsimp only at hk hlek ⊢;refine rZ (yL I (tZ (sQ ?_)));refine iP I (fun hlt=>?_) (fun hlt=>?_)
  ·have hkr:k<rs.length:=oM;have hkl:k<(aa l).length:=oM;have hrsk:=za3 hrs3 hlek;have hallk:=hall3.mono fun _ _ h=>ImR.mono hlek h;have hidk:=za3 hids3 hlek;have hb1:=za4 hrsk oM;have hb2:=za4 hidk oM;have hgx:rs[((k:Nat):Int).toNat]?=some rs[k]:=gE hkr;have hgi:((aa l).map Cl.id)[((k:Nat):Int).toNat]?=some (aa l)[k].id:=by
    show ((aa l).map Cl.id)[k]?=_;rw[zh4,gE hkl];rfl
   have hcr:=hallk.get (i:=k) (a:=((aa l)[k].id,img (aa l)[k].id)) (by rw[zh4,gE hkl]; rfl) (gE hkr);have hx:(aa l)[k]∈aa l:=gM hkl;generalize (aa l)[k]=x at *;generalize rs[k]=r at *;obtain ⟨xi,xp,xn,xc⟩:=r;obtain ⟨e1,hxs⟩:=hcr;dsimp only at e1 hxs;subst e1;obtain rfl:xn=(img x.id).length:=(SlA.cap hxs).1;have hcan:sY (img x.id)=img x.id:=h.canonic hx (lc _);have htm:=h.tame him hx;have ha1:=h.asc1 hx;have hf64:=(h.fit x hx).2.2.2;have hfind:=h.dimOf hx;have hvk:=hv3.mono hlek;have huk:=hu3.mono hlek;have hin:∀ t∈img x.id,pA m x.dim t.1=true:=fun t ht=>by
    obtain ⟨c,h1,h2,h3⟩:=h.there hx t ht;exact zj1.2 ⟨c,h1,by rw[zf3 h2,zf3 h3]; rfl⟩
   have hcu:=xB l [(x.id,1)];obtain ⟨hul,huf⟩:=h.found hx hcu;have h11:j3 [(x.id,1)]:=j3.ones (by simp) (by simp) (by
    intro t ht;simp at ht;subst ht;obtain ⟨y,hy,e⟩:=xw hx;rw[← e];exact hil y hy)
   have hc11:∀ r,(cf [(x.id,(1:Int))] r).natAbs≤1:=fun r=>by rw[F8]; split <;> decide
   have hus:∀ t∈wy l [(x.id,1)],(t.2=1∨t.2 = -1)∧(t.1,img t.1)∈(aa l).map fun c=>(c.id,img c.id):=fun t ht=>by
    obtain ⟨h1,y,hy,h2⟩:=huf t ht;exact⟨h1,ze6.2 ⟨y,hy,by rw[h2]⟩⟩
   have hui:∀ t∈wy l [(x.id,1)],(img t.1).length≤64∧(∀ q∈img t.1,q.2.natAbs≤1)∧(∀ r,(cf (img t.1) r).natAbs≤1)∧sb (img t.1):=fun t ht=>by
    obtain ⟨h1,y,hy,h2⟩:=huf t ht;rw[← h2];exact⟨(h.fit y hy).2.2.2,h.small hy,h.asc1 hy,h.fit64 him hy⟩
   have hcm:=xB m (img x.id);have hon:nD (onF img (wy l [(x.id,1)])) (sY (onT img (wy l [(x.id,1)]))):=by
    have h1:=lc (onT img (wy l [(x.id,1)]));exact⟨h1.1,h1.2.1,fun r=>(h1.2.2 r).trans (D3 img r _)⟩
   have heq:=h.equal hx hcu hcm hon;have hol:=qY (img:=img) (us:=wy l [(x.id,1)]) fun t ht=>(hui t ht).1;have hcl:=rT (onT img (wy l [(x.id,1)]));refine kP (tN (sQ (bK (sW I (lU (iA Ek sizeOf78 I I hb1 oM (show (k:Int)<((rs.length:Nat):Int) by omega)) ?_)))));refine lK (eA isAgg78 sizeOf78 I (za5 hrsk) hgx) (bW (aL zeroValue78) fun b14=>?_);refine lA I (oZ (sK 0 sizeOf78 I I I I I sB) ?_);refine tZ (sQ (sQ ?_));refine dW [] [(0,2),(1,1),(2,2),(3,2),(4,2),(5,1),(6,2),(7,2),(8,2),(9,1),(10,2),(11,1),(12,0),(13,0),(14,2),(15,2)] zd7 kR ?_;refine pU I (fA wt I zT3 I) (pK I (qL (v:=vi x.id) iT3 I (cO 0 I I)) (yM I (yM I (pU I (iA aj zT3 I I hb2 oM (show (k:Int)<((((aa l).map Cl.id).length:Nat):Int) by omega)) ?_))));refine pK I (eB iT3 I (za5 hidk) hgi I) (pU I (SU.eq (v':=vb false) (nQ I I) (zd6 vb (zf2 (by simp)))) ?_);refine yM I (zb1 I (gT I I I dC) (fA wt I sizeOf76 I) dC (SP.gq I (gT I I I dC) (qL (v:=.slice xp (img x.id).length xc) isAgg76 I (cO 0 I I)) dC (zb1 I (gT I I I dC) (fA wt I sizeOf76 I) dC (SP.gq I (gT I I I dC) (qL (v:=.slice xp (img x.id).length xc) isAgg76 I (cO 0 I I)) dC (SP.go I (gT I I I dC) (cL call43 I (gy E hE gk _ _ (img x.id) hxs htm)) dC (.inr iR) ?_)))));rintro _ g4 _ ⟨rfl,hle4,hs4⟩;rw[hcan] at hs4;obtain ⟨q4,d4,rfl⟩:=za2 hs4;refine SP.go I (gT I I I dC) (cL call42 I (xk E g4 _ _ _ (img x.id) (za3 hxs hle4) hs4 oM)) dC (.inr iR) ?_;rintro _ _ _ ⟨rfl,rfl,rfl⟩;refine zb1 I (gT I I I dC) (SU.not I) dC (pU I (wF I I) (pN (tN (cF I (kP (tN (rZ (lK (qV 3 ba au I I I) (lU (fA wt I zT3 I) (lK (qL (v:=vi x.id) iT3 I (cO 0 I I)) (lW (cL call44 I (BF E g4 _ _ l x.id (hvk.mono hle4) fl)) ?_)))))))))));rintro _ g5 _ ⟨rfl,hle5,⟨ri,rd,rp,rn,rc⟩,rfl,hr5⟩;rw[hfind] at hr5;obtain ⟨-,hrd,-⟩:=hr5;have hrd:rd=x.dim:=hrd;subst hrd;have hle45:=hle4.trans hle5;have hx5:=za3 hxs hle45;have hu5:=huk.mono hle45;have hv5:=hvk.mono hle45;refine lM I (yX I (yX I (bW (aL zk5) fun b15=>?_)));refine oZ (sK 0 ax I I I I I sB) (aT I (sQ ?_));refine dW [] [(0,1),(1,2),(2,1),(3,2),(4,1),(5,0),(6,2),(7,2),(8,1),(9,2),(10,1),(12,2),(13,1),(14,2),(15,1),(11,0),(16,0),(17,0),(18,0),(19,0),(20,2),(21,2)] zd7 kR ?_;refine pK I (qV 3 ba au I I I) (pU I (fA ao I zT3 I) (pK I (qL (v:=vi x.dim) iT3 I (cO 0 I I)) (pU I (fA wt I sizeOf76 I) (pK I (qL (v:=.slice xp (img x.id).length xc) isAgg76 I (cO 1 I I)) (SP.o I (cL call45 I (E7 E hE g5 _ _ _ m x.dim (img x.id) hu5 fm hx5 htm hin)) dC (.inr iR) ?_)))));rintro _ g6 _ ⟨rfl,rfl,hle6⟩;have hu6:=hu5.mono hle6;have hx6:=za3 hx5 hle6;have hv6:=hv5.mono hle6;refine pU rfl (SU.not rfl) (yM rfl (SP.gq rfl (gT rfl rfl rfl dC) (qV 3 ba au rfl rfl rfl) dC (zb1 rfl (gT rfl rfl rfl dC) (fA wt rfl sizeOf76 rfl) dC (SP.gq rfl (gT rfl rfl rfl dC) (qL (v:=.slice xp (img x.id).length xc) isAgg76 rfl (cO 1 rfl rfl)) dC (yJ rfl (SP.gq rfl (gT rfl rfl rfl dC) (qV 4 ba au rfl rfl rfl) dC (zb1 rfl (gT rfl rfl rfl dC) (fA wt rfl zT3 rfl) dC (SP.gq rfl (gT rfl rfl rfl dC) (qL (v:=vi x.id) iT3 rfl (cO 1 rfl rfl)) dC (SP.go rfl (gT rfl rfl rfl dC) (cL call47 rfl (lC E hE g6 _ _ _ m (img x.id) hu6 fm hx6 htm ha1 hsm oM)) dC (.inr (by rintro _ g7 _ ⟨rfl,hle7,hs7⟩; exact⟨by exact Le.trans (by assumption) (by assumption),(by exact .refl _)⟩)) ?_)))))))));rintro _ g7 _ ⟨rfl,hle7,hs7⟩;have hle57:=hle6.trans hle7;have hv7:=hv6.mono hle7;obtain ⟨q7,d7,rfl⟩:=za2 hs7;refine SP.go rfl (gT rfl rfl rfl dC) (cL call49 rfl (uA E g7 _ x.id)) dC (.inr (by rintro _ g8 _ ⟨rfl,hle8,hs8⟩; exact⟨by exact Le.trans (by assumption) (by assumption),(by exact .refl _)⟩)) ?_;rintro _ g8 _ ⟨rfl,hle8,hs8⟩;have hle58:=hle57.trans hle8;have hv8:=hv7.mono hle8;obtain ⟨q8,d8,rfl⟩:=za2 hs8;refine SP.go rfl (gT rfl rfl rfl dC) (cL call47 rfl (lC E hE g8 _ _ _ l [(x.id,1)] hv8 fl hs8 h11 hc11 hsl oM)) dC (.inr (by rintro _ g9 _ ⟨rfl,hle9,hs9⟩; exact⟨by exact Le.trans (by assumption) (by assumption),(by exact .refl _)⟩)) ?_;rintro _ g9 _ ⟨rfl,hle9,hs9⟩;have hle59:=hle58.trans hle9;obtain ⟨q9,d9,rfl⟩:=za2 hs9;have hle49:=(hlek.trans hle45).trans hle59;refine SP.go rfl (gT rfl rfl rfl dC) (cL call48 rfl (Dc E hE g9 _ mt _ rs _ img (wy l [(x.id,1)]) (hmt.mono hle49) (hall3.mono fun _ _ h=>ImR.mono hle49 h) hnd hs9 hus hul hui)) dC (.inr (by rintro _ gA _ ⟨rfl,hleA,hsA,hA1,hA2⟩; exact⟨by exact Le.trans (by assumption) (by assumption),(by exact .refl _)⟩)) ?_;rintro _ gA _ ⟨rfl,hleA,hsA,hA1,hA2⟩;have hle5A:=hle59.trans hleA;have hs7A:=za3 hs7 (hle8.trans (hle9.trans hleA));have hAt:j3 (sY (onT img (wy l [(x.id,1)]))):=j3.can (lc _) (fun r=>by have:=uZ (r:=r) hA1 ; omega) oM (fun t ht=>by obtain ⟨⟨w,hw,e⟩,_⟩:=xx ht ; rw[← e] ; exact hA2 w hw);refine SP.go I (gT I I I dC) (cL call46 I (wd E hE gA _ _ _ _ _ hs7A hsA (by rw[heq]; exact hAt) hAt (fun r=>by rw[heq]))) dC (.inr (by rintro _ gB _ ⟨rfl,rfl,hleB⟩; exact⟨by exact Le.trans (by assumption) (by assumption),(by exact .refl _)⟩)) ?_;rintro _ gB _ ⟨rfl,rfl,hleB⟩;have hle5B:=hle5A.trans hleB;refine zb1 I (gT I I I dC) (SU.not I) dC (pU I (wF I I) (pN (tN (cF I (kP (bN (tN (rG (yD I (lM I (nL (dR (.cons _ (.cons _ (.refl _))) ?_))))))))))));exact ST.again (k+1,gB) sB I I ⟨by dsimp only; omega,hlek.trans (hle45.trans hle5B)⟩ (by dsimp only; omega)
  ·refine xI (tX (tX (bX (tN (rZ (aT I (rE (dR (s':=s) uR ?_))))))));exact za6 (.inl I) results15 I ⟨I,I,hle13.trans hlek⟩
end Go.Proofs.YtcfkpajlakidbaaGreatDoor
namespace Go.Pl
def aI (l:List Nat)(f:Nat→Int):Int:=(l.map f).sum
theorem m6 (f:Nat→Int):aI [] f=0:=rfl
theorem df (a:Nat)(l:List Nat)(f:Nat→Int):aI (a::l) f=f a+aI l f:=by simp[aI]
theorem kS (l m:List Nat)(f:Nat→Int):aI (l++m) f=aI l f+aI m f:=by simp[aI]
theorem rB (l:List Nat)(f g:Nat→Int):aI l (fun j=>f j+g j)=aI l f+aI l g:=by
 induction l with
 | nil=>rfl
 | cons a l ih=>simp only[df,ih]; omega
theorem dp (l:List Nat)(c:Int)(f:Nat→Int):aI l (fun j=>c * f j)=c * aI l f:=by
 induction l with
 | nil=>simp[aI]
 | cons a l ih=>simp only[df,ih,Int.mul_add]
theorem ge (l:List Nat)(c:Int)(f:Nat→Int):aI l (fun j=>f j * c)=aI l f * c:=by
 induction l with
 | nil=>simp[aI]
 | cons a l ih=>simp only[df,ih,Int.add_mul]
theorem jp (l:List Nat):aI l (fun _=>0)=0:=by
 induction l with
 | nil=>rfl
 | cons a l ih=>simp only[df,ih]; rfl
theorem aq {l:List Nat}{f g:Nat→Int}(h:∀ j∈l,f j=g j):aI l f=aI l g:=by
 unfold aI;rw[List.map_congr_left h]
theorem fe (l m:List Nat)(f:Nat→Nat→Int):aI l (fun i=>aI m fun j=>f i j)=aI m fun j=>aI l fun i=>f i j:=by
 induction l with
 | nil=>simp only[m6,jp]
 | cons a l ih=>simp only[df,ih,rB]
def Eqm (p a b:Int):Prop:=p ∣ a - b
section
variable {p:Int}
theorem Eqm.refl (a:Int):Eqm p a a:=by unfold Eqm; rw[Int.sub_self]; exact Int.dvd_zero p
theorem Eqm.symm {a b:Int}(h:Eqm p a b):Eqm p b a:=by
 unfold Eqm at *;have:=Int.dvd_neg.2 h;rwa [Int.neg_sub] at this
theorem Eqm.trans {a b c:Int}(h:Eqm p a b)(k:Eqm p b c):Eqm p a c:=by
 unfold Eqm at *;have:=Int.dvd_add h k;rwa [show a - b+(b - c)=a - c by omega] at this
theorem Eqm.add {a b c d:Int}(h:Eqm p a b)(k:Eqm p c d):Eqm p (a+c) (b+d):=by
 unfold Eqm at *;have:=Int.dvd_add h k;rwa [show a - b+(c - d)=a+c - (b+d) by omega] at this
theorem Eqm.mul {a b c d:Int}(h:Eqm p a b)(k:Eqm p c d):Eqm p (a * c) (b * d):=by
 unfold Eqm at *;have h1:p ∣ (a - b) * c:=Int.dvd_mul_of_dvd_left h;have h2:p ∣ b * (c - d):=Int.dvd_mul_of_dvd_right k;have:=Int.dvd_add h1 h2;rwa [Int.sub_mul,Int.mul_sub,show a * c - b * c+(b * c - b * d)=a * c - b * d by omega] at this
theorem Eqm.of {a b:Int}(h:a=b):Eqm p a b:=by rw[h]; exact .refl b
theorem Eqm.sum {l:List Nat}{f g:Nat→Int}(h:∀ j∈l,Eqm p (f j) (g j)):Eqm p (aI l f) (aI l g):=by
 induction l with
 | nil=>exact .refl _
 | cons a l ih =>
  rw[df,df];exact (h a (by simp)).add (ih fun j hj=>h j (by simp[hj]))
theorem Eqm.sum0 {l:List Nat}{f:Nat→Int}(h:∀ j∈l,Eqm p (f j) 0):Eqm p (aI l f) 0:=by
 have:=Eqm.sum (g:=fun _=>0) h;rwa [jp] at this
def Fld (p:Int):Prop:=¬ Eqm p 1 0∧∀ a,¬ Eqm p a 0→∃ b,Eqm p (a * b) 1
theorem rK (hp:Fld p):∀ (s:Nat) (cs:List Nat) (Y:Nat→Nat→Int),cs.Nodup→s<cs.length→∃ v:Nat→Int,(∃ j∈cs,¬ Eqm p (v j) 0)∧∀ i,i<s→Eqm p (aI cs fun j=>Y i j * v j) 0
 | 0,cs,Y,_,hs=>by
  cases cs with
  | nil=>simp at hs
  | cons a l=>exact⟨fun _=>1,⟨a,by simp,hp.1⟩,fun i hi=>by omega⟩
 | s+1,cs,Y,hn,hs=>by
  by_cases hall:∀ j∈cs,Eqm p (Y s j) 0
  ·obtain ⟨v,h1,h2⟩:=rK hp s cs Y hn (by omega);refine⟨v,h1,fun i hi=>?_⟩;by_cases e:i=s
   ·subst e;refine Eqm.sum0 fun j hj=>?_;have:=(hall j hj).mul (Eqm.refl (v j));rwa [Int.zero_mul] at this
   ·exact h2 i (by omega)
  ·have ⟨j0,hj0,hy⟩:∃ j0∈cs,¬ Eqm p (Y s j0) 0:=by
    apply Classical.byContradiction;intro h;exact hall fun j hj=>Classical.byContradiction fun k=>h ⟨j,hj,k⟩
   obtain ⟨b,hb⟩:=hp.2 _ hy;obtain ⟨l1,l2,rfl⟩:=List.append_of_mem hj0;have hn2:(l1++l2).Nodup:=by
    have:=(List.nodup_append.1 hn);refine List.nodup_append.2 ⟨this.1,(List.nodup_cons.1 this.2.1).2,fun x hx y hy=>this.2.2 x hx y (by simp[hy])⟩
   have hnot:∀ j∈l1++l2,j≠j0:=fun j hj e=>by
    subst e;have h3:=List.nodup_append.1 hn
    rcases List.mem_append.1 hj with h | h
    ·exact h3.2.2 j h j (by simp) rfl
    ·exact (List.nodup_cons.1 h3.2.1).1 h
   obtain ⟨v,⟨j1,hj1,hv1⟩,h2⟩:=rK hp s (l1++l2) (fun i j=>Y i j - Y i j0 * b * Y s j) hn2 (by simp at hs ⊢; omega)
   let t:Int:=-(b * aI (l1++l2) fun j=>Y s j * v j)
   let w:Nat→Int:=fun j=>if j=j0 then t else v j
   have hw:∀ j∈l1++l2,w j=v j:=fun j hj=>if_neg (hnot j hj);have hsum:∀ i,aI (l1++j0::l2) (fun j=>Y i j * w j)=(aI (l1++l2) fun j=>Y i j * v j)+Y i j0 * t:=fun i=>by
    rw[kS,df,kS];have e1:aI l1 (fun j=>Y i j * w j)=aI l1 fun j=>Y i j * v j:=aq fun j hj=>by rw[hw j (by simp[hj])]
    have e2:aI l2 (fun j=>Y i j * w j)=aI l2 fun j=>Y i j * v j:=aq fun j hj=>by rw[hw j (by simp[hj])]
    have e3:w j0=t:=if_pos rfl;rw[e1,e2,e3];omega
   refine⟨w,⟨j1,by rcases List.mem_append.1 hj1 with h | h <;> simp[h],by rw[hw j1 hj1]; exact hv1⟩,fun i hi=>?_⟩;rw[hsum i];by_cases e:i=s
   ·subst e;have h3:Eqm p (Y i j0 * t) (-(aI (l1++l2) fun j=>Y i j * v j)):=by
     have:=(hb.mul (Eqm.refl (-(aI (l1++l2) fun j=>Y i j * v j))));rw[Int.one_mul] at this;refine Eqm.trans (Eqm.of ?_) this;show Y i j0 * -(b * _)=_;rw[Int.mul_neg,Int.mul_neg,Int.mul_assoc]
    have:=(Eqm.refl (aI (l1++l2) fun j=>Y i j * v j)).add h3;rwa [Int.add_right_neg] at this
   ·have h4:=h2 i (by omega);refine Eqm.trans (Eqm.of ?_) h4;have h5:(aI (l1++l2) fun j=>(Y i j - Y i j0 * b * Y s j) * v j)=(aI (l1++l2) fun j=>Y i j * v j)+aI (l1++l2) fun j=>-(Y i j0 * b) * (Y s j * v j):=by
     rw[← rB];refine aq fun j _=>?_;rw[Int.sub_mul,Int.neg_mul,Int.mul_assoc (Y i j0 * b)];omega
    rw[h5,dp];show _+Y i j0 * -(b * _)=_;rw[Int.mul_neg,Int.neg_mul,Int.mul_assoc]
theorem D2 (hp:Fld p){r s:Nat}{X Y:Nat→Nat→Int}(h:∀ i,i<r→∀ j,j<r→Eqm p (aI (List.range s) fun k=>X i k * Y k j) (if i=j then 1 else 0)):r≤s:=by
 apply Classical.byContradiction;intro hlt;obtain ⟨v,⟨j,hj,hv⟩,h2⟩:=rK hp s (List.range r) Y List.nodup_range (by simp; omega);rw[List.mem_range] at hj;apply hv;have h3:Eqm p (aI (List.range r) fun k=>(aI (List.range s) fun i=>X j i * Y i k) * v k) (aI (List.range r) fun k=>(if j=k then 1 else 0) * v k) :=
  Eqm.sum fun k hk=>(h j hj k (List.mem_range.1 hk)).mul (Eqm.refl _)
 have h4:(aI (List.range r) fun k=>(aI (List.range s) fun i=>X j i * Y i k) * v k)=aI (List.range s) fun i=>X j i * aI (List.range r) fun k=>Y i k * v k:=by
  have e:∀ k,(aI (List.range s) fun i=>X j i * Y i k) * v k=aI (List.range s) fun i=>X j i * (Y i k * v k):=fun k=>by
   rw[← ge];exact aq fun i _=>Int.mul_assoc _ _ _
  simp only[e];rw[fe];exact aq fun i _=>dp _ _ _
 have h5:Eqm p (aI (List.range s) fun i=>X j i * aI (List.range r) fun k=>Y i k * v k) 0:=Eqm.sum0 fun i hi=>by
  have:=(Eqm.refl (X j i)).mul (h2 i (List.mem_range.1 hi));rwa [Int.mul_zero] at this
 have h6:∀ n,j<n→(aI (List.range n) fun k=>(if j=k then 1 else 0) * v k)=v j:=fun n hn=>by
  induction n with
  | zero=>omega
  | succ n ih =>
   rw[List.range_succ,kS,df,m6];by_cases e:j=n
   ·subst e;rw[if_pos rfl,Int.one_mul,aq (g:=fun _=>0) (fun k hk=>by rw[if_neg (by have:=List.mem_range.1 hk; omega),Int.zero_mul]),jp];omega
   ·rw[ih (by omega),if_neg e];omega
 rw[h4,h6 r hj] at h3;exact h3.symm.trans h5
structure dS (p:Int)(A:Nat→Nat→Int)(m n r:Nat):Prop where
 thru:∃ X Y:Nat→Nat→Int,∀ i,i<m→∀ j,j<n→Eqm p (A i j) (aI (List.range r) fun k=>X i k * Y k j)
 one:∃ L R:Nat→Nat→Int,∀ i,i<r→∀ j,j<r→Eqm p (aI (List.range m) fun a=>L i a * aI (List.range n) fun b=>A a b * R b j) (if i=j then 1 else 0)
theorem dS.le (hp:Fld p){A A' U V:Nat→Nat→Int}{m n m' n' r r':Nat}(h:dS p A m n r)(h':dS p A' m' n' r')
  (hu:∀ i,i<m'→∀ j,j<n'→Eqm p (A' i j) (aI (List.range m) fun a=>U i a * aI (List.range n) fun b=>A a b * V b j)):r'≤r:=by
 obtain ⟨X,Y,hXY⟩:=h.thru;obtain ⟨L,R,hLR⟩:=h'.one;refine D2 hp (X:=fun i k=>aI (List.range m') fun a=>L i a * aI (List.range m) fun c=>U a c * X c k) (Y:=fun k j=>aI (List.range n') fun b=>(aI (List.range n) fun d=>Y k d * V d b) * R b j) fun i hi j hj=>?_;refine Eqm.trans ?_ (hLR i hi j hj);have key:∀ a,a<m'→∀ b,b<n'→Eqm p (aI (List.range r) fun k=>(aI (List.range m) fun c=>U a c * X c k) * aI (List.range n) fun d=>Y k d * V d b) (A' a b):=fun a ha b hb=>by
  refine Eqm.trans ?_ (hu a ha b hb).symm;have e1:(aI (List.range r) fun k=>(aI (List.range m) fun c=>U a c * X c k) * aI (List.range n) fun d=>Y k d * V d b)=aI (List.range m) fun c=>U a c * aI (List.range n) fun d=>(aI (List.range r) fun k=>X c k * Y k d) * V d b:=by
   have f1:∀ k,((aI (List.range m) fun c=>U a c * X c k) * aI (List.range n) fun d=>Y k d * V d b)=aI (List.range m) fun c=>aI (List.range n) fun d=>U a c * (X c k * Y k d * V d b):=fun k=>by
    rw[← ge];refine aq fun c _=>?_;rw[← dp];refine aq fun d _=>?_;simp only[Int.mul_assoc]
   simp only[f1];rw[fe];refine aq fun c _=>?_;rw[fe,← dp];refine aq fun d _=>?_;rw[dp,ge]
  rw[e1];exact Eqm.sum fun c hc=>(Eqm.refl _).mul (Eqm.sum fun d hd=>(hXY c (List.mem_range.1 hc) d (List.mem_range.1 hd)).symm.mul (Eqm.refl _))
 have e2:(aI (List.range r) fun k=>(aI (List.range m') fun a=>L i a * aI (List.range m) fun c=>U a c * X c k) * aI (List.range n') fun b=>(aI (List.range n) fun d=>Y k d * V d b) * R b j)=aI (List.range m') fun a=>L i a * aI (List.range n') fun b=>(aI (List.range r) fun k=>(aI (List.range m) fun c=>U a c * X c k) * aI (List.range n) fun d=>Y k d * V d b) * R b j:=by
  have f1:∀ k,((aI (List.range m') fun a=>L i a * aI (List.range m) fun c=>U a c * X c k) * aI (List.range n') fun b=>(aI (List.range n) fun d=>Y k d * V d b) * R b j)=aI (List.range m') fun a=>aI (List.range n') fun b=>L i a * (((aI (List.range m) fun c=>U a c * X c k) * aI (List.range n) fun d=>Y k d * V d b) * R b j):=fun k=>by
   rw[← ge];refine aq fun a _=>?_;rw[← dp];refine aq fun b _=>?_;simp only[Int.mul_assoc]
  simp only[f1];rw[fe];refine aq fun a _=>?_;rw[fe,← dp];refine aq fun b _=>?_;rw[dp,ge]
 rw[e2];exact Eqm.sum fun a ha=>(Eqm.refl _).mul (Eqm.sum fun b hb=>(key a (List.mem_range.1 ha) b (List.mem_range.1 hb)).mul (Eqm.refl _))
theorem dS.turn {A:Nat→Nat→Int}{m n r:Nat}(h:dS p A m n r):dS p (fun i j=>A j i) n m r:=by
 obtain ⟨X,Y,hXY⟩:=h.thru;obtain ⟨L,R,hLR⟩:=h.one;refine⟨⟨fun i k=>Y k i,fun k j=>X j k,fun i hi j hj=>(hXY j hj i hi).trans (Eqm.of (aq fun k _=>Int.mul_comm _ _))⟩,⟨fun i a=>R a i,fun b j=>L j b,fun i hi j hj=>?_⟩⟩;have h1:=hLR j hj i hi;rw[show (if j=i then (1:Int) else 0)=if i=j then 1 else 0 by by_cases e:i=j <;> simp[e,eq_comm]] at h1;refine Eqm.trans (Eqm.of ?_) h1;have f1:∀ a,R a i * (aI (List.range m) fun b=>A b a * L j b)=aI (List.range m) fun b=>L j b * (A b a * R a i):=fun a=>by
  rw[← dp];refine aq fun b _=>?_;rw[Int.mul_comm,Int.mul_comm (A b a),Int.mul_assoc]
 simp only[f1];rw[fe];exact aq fun b _=>dp _ _ _
end
end Go.Pl
namespace Go.Pl
section
variable {p:Int}
theorem kQ (n i:Nat)(h:i<n)(f:Nat→Int):(aI (List.range n) fun k=>(if i=k then 1 else 0) * f k)=f i:=by
 induction n with
 | zero=>omega
 | succ n ih =>
  rw[List.range_succ,kS,df,m6];by_cases e:i=n
  ·subst e;rw[if_pos rfl,Int.one_mul,aq (g:=fun _=>0) (fun k hk=>by rw[if_neg (by have:=List.mem_range.1 hk; omega),Int.zero_mul]),jp];omega
  ·rw[ih (by omega),if_neg e];omega
def dD (p:Int)(A:Nat→Nat→Int)(m n:Nat)(v:Nat→Int):Prop:=∃ w:Nat→Int,∀ j,j<n→Eqm p (v j) (aI (List.range m) fun a=>w a * A a j)
theorem dD.self {A:Nat→Nat→Int}{m n i:Nat}(h:i<m):dD p A m n (A i):=⟨fun k=>if i=k then 1 else 0,fun j _=>Eqm.of (kQ m i h fun k=>A k j).symm⟩
theorem dD.add {A:Nat→Nat→Int}{m n:Nat}{u v:Nat→Int}(c:Int)(h:dD p A m n u)(k:dD p A m n v):dD p A m n fun j=>u j+c * v j:=by
 obtain ⟨x,hx⟩:=h;obtain ⟨y,hy⟩:=k;refine⟨fun a=>x a+c * y a,fun j hj=>((hx j hj).add ((Eqm.refl c).mul (hy j hj))).trans (Eqm.of ?_)⟩;rw[← dp,← rB];exact aq fun a _=>by rw[Int.add_mul,Int.mul_assoc]
theorem dD.mul {A:Nat→Nat→Int}{m n:Nat}{v:Nat→Int}(c:Int)(k:dD p A m n v):dD p A m n fun j=>c * v j:=by
 obtain ⟨y,hy⟩:=k;refine⟨fun a=>c * y a,fun j hj=>((Eqm.refl c).mul (hy j hj)).trans (Eqm.of ?_)⟩;rw[← dp];exact aq fun a _=>by rw[Int.mul_assoc]
theorem dD.congr {A:Nat→Nat→Int}{m n:Nat}{u v:Nat→Int}(k:dD p A m n v)(h:∀ j,j<n→Eqm p (u j) (v j)):dD p A m n u:=by
 obtain ⟨y,hy⟩:=k;exact⟨y,fun j hj=>(h j hj).trans (hy j hj)⟩
theorem dD.sum {A:Nat→Nat→Int}{m n:Nat}{B:Nat→Nat→Int}(w:Nat→Int):∀ {l:List Nat},(∀ a∈l,dD p A m n (B a))→dD p A m n fun j=>aI l fun a=>w a * B a j
 | [],_=>⟨fun _=>0,fun j _=>Eqm.of (by
   show (0:Int)=_;rw[aq (g:=fun _=>0) (fun a _=>Int.zero_mul _),jp])⟩
 | a::l,h=>by
  have h1:=(dD.sum w fun b hb=>h b (by simp[hb]):dD p A m n fun j=>aI l fun a=>w a * B a j);refine (h1.add (w a) (h a (by simp))).congr fun j _=>Eqm.of ?_;rw[df];omega
theorem dD.trans {A B:Nat→Nat→Int}{m n k:Nat}{v:Nat→Int}(h:dD p B k n v)(hb:∀ a,a<k→dD p A m n (B a)):dD p A m n v:=by
 obtain ⟨w,hw⟩:=h;exact (dD.sum w fun a ha=>hb a (List.mem_range.1 ha)).congr hw
structure lQ (p:Int)(A:Nat→Nat→Int)(m n:Nat)(M:Nat→Nat→Int)(J:List Nat)(c:Nat):Prop where
 fwd:∀ i,i<m→dD p A m n (M i)
 bwd:∀ i,i<m→dD p M m n (A i)
 col:∀ j∈J,j<c
 piv:∀ k j,J[k]?=some j→∀ i,i<m→Eqm p (M i j) (if i=k then 1 else 0)
 low:∀ i,J.length≤i→i<m→∀ j,j<c→Eqm p (M i j) 0
 len:J.length≤m
theorem lQ.start (A:Nat→Nat→Int)(m n:Nat):lQ p A m n A [] 0:=⟨fun _ h=>.self h,fun _ h=>.self h,by simp,by simp,fun _ _ _ j hj=>by omega,Nat.zero_le _⟩
theorem lQ.none {A M:Nat→Nat→Int}{m n c:Nat}{J:List Nat}(h:lQ p A m n M J c)(h0:∀ i,J.length≤i→i<m→Eqm p (M i c) 0):lQ p A m n M J (c+1) :=
 ⟨h.fwd,h.bwd,fun j hj=>by have:=h.col j hj; omega,h.piv,fun i h1 h2 j hj=>by
  by_cases e:j=c
  ·subst e; exact h0 i h1 h2
  ·exact h.low i h1 h2 j (by omega),h.len⟩
theorem lQ.pivot {A M M':Nat→Nat→Int}{m n c i0:Nat}{b:Int}{J:List Nat}(h:lQ p A m n M J c)(hc:c<n)(h1:J.length≤i0)(h2:i0<m)(hb:Eqm p (b * M i0 c) 1)
  (hM:∀ i,i<m→∀ j,j<n→Eqm p (M' i j) (if i=J.length then b * M i0 j else M (if i=i0 then J.length else i) j - M (if i=i0 then J.length else i) c * (b * M i0 j))):lQ p A m n M' (J++[c]) (c+1):=by
 have hr:J.length<m:=by omega
 have hsw:∀ i,i<m→(if i=i0 then J.length else i)<m:=fun i hi=>by split <;> omega
 have rowr:∀ j,j<n→Eqm p (M' J.length j) (b * M i0 j):=fun j hj=>by
  have:=hM J.length hr j hj;rwa [if_pos rfl] at this
 have rown:∀ i,i<m→i≠J.length→∀ j,j<n→Eqm p (M' i j) (M (if i=i0 then J.length else i) j - M (if i=i0 then J.length else i) c * (b * M i0 j)):=fun i hi hne j hj=>by
  have:=hM i hi j hj;rwa [if_neg hne] at this
 have colc:∀ i,i<m→Eqm p (M' i c) (if i=J.length then 1 else 0):=fun i hi=>by
  by_cases e:i=J.length
  ·subst e;rw[if_pos rfl];exact (rowr c hc).trans hb
  ·rw[if_neg e];refine (rown i hi e c hc).trans ?_;have h3:=(Eqm.refl (-(M (if i=i0 then J.length else i) c))).mul hb;have h4:=(Eqm.refl (M (if i=i0 then J.length else i) c)).add h3;rw[Int.mul_one,Int.add_right_neg] at h4;refine (Eqm.of ?_).trans h4;rw[Int.neg_mul];omega
 -- the old rows lie in the new ones
 have old0:dD p M' m n (M i0):=by
  have h3:dD p M' m n fun j=>M i0 c * M' J.length j:=(dD.self hr).mul _;refine h3.congr fun j hj=>?_;have h4:=(Eqm.refl (M i0 c)).mul (rowr j hj);have h5:=hb.mul (Eqm.refl (M i0 j));rw[Int.one_mul] at h5;refine (h5.symm.trans (Eqm.of ?_)).trans h4.symm;rw[← Int.mul_assoc,Int.mul_comm b]
 have old:∀ i,i<m→dD p M' m n (M i):=fun i hi=>by
  by_cases e0:i=i0
  ·subst e0; exact old0
  ·-- i sits at place t of the new matrix
   have ⟨t,ht,htr,hti⟩:∃ t,t<m∧t≠J.length∧(if t=i0 then J.length else t)=i:=by
    by_cases e:i=J.length
    ·exact⟨i0,h2,fun e2=>e0 (by rw[e,e2]),by rw[if_pos rfl]; exact e.symm⟩
    ·exact⟨i,hi,e,if_neg e0⟩
   have h3:dD p M' m n fun j=>M' t j+(M i c * b) * M i0 j:=(dD.self ht).add _ old0;refine h3.congr fun j hj=>?_;have h4:=rown t ht htr j hj;rw[hti] at h4;refine Eqm.symm ((h4.add (Eqm.refl _)).trans (Eqm.of ?_));rw[Int.mul_assoc];omega
 refine⟨fun i hi=>?_,fun i hi=>(h.bwd i hi).trans old,fun j hj=>?_,fun k j hk i hi=>?_,fun i hi1 hi2 j hj=>?_,by simp; omega⟩
 ·by_cases e:i=J.length
  ·subst e;exact ((h.fwd i0 h2).mul b).congr rowr
  ·refine ((h.fwd _ (hsw i hi)).add (-(M (if i=i0 then J.length else i) c * b)) (h.fwd i0 h2)).congr fun j hj=>(rown i hi e j hj).trans (Eqm.of ?_);rw[Int.neg_mul,Int.mul_assoc];omega
 ·rcases List.mem_append.1 hj with h3 | h3
  ·have:=h.col j h3; omega
  ·simp at h3; omega
 ·by_cases hkl:k<J.length
  ·rw[List.getElem?_append_left hkl] at hk;have hjc:j<c:=h.col j (List.mem_of_getElem? hk);have z0:Eqm p (M i0 j) 0:=h.low i0 h1 h2 j hjc;have z1:∀ x,Eqm p (x * M i0 j) 0:=fun x=>by
    have:=(Eqm.refl x).mul z0;rwa [Int.mul_zero] at this
   by_cases e:i=J.length
   ·subst e;rw[if_neg (by omega)];exact (rowr j (by omega)).trans (z1 b)
   ·refine (rown i hi e j (by omega)).trans ?_;have h3:Eqm p (M (if i=i0 then J.length else i) j - M (if i=i0 then J.length else i) c * (b * M i0 j)) (M (if i=i0 then J.length else i) j):=by
     have h4:=z1 (-(M (if i=i0 then J.length else i) c * b));have h5:=(Eqm.refl (M (if i=i0 then J.length else i) j)).add h4;rw[Int.add_zero] at h5;refine (Eqm.of ?_).trans h5;rw[Int.neg_mul,Int.mul_assoc];omega
    refine h3.trans ?_;by_cases e0:i=i0
    ·rw[if_pos e0,if_neg (by omega)];exact h.low J.length (Nat.le_refl _) hr j hjc
    ·rw[if_neg e0];exact h.piv k j hk i hi
  ·have hk2:k=J.length∧j=c:=by
    rw[List.getElem?_append_right (by omega)] at hk;cases hd:k - J.length with
    | zero=>rw[hd] at hk; simp at hk; exact⟨by omega,hk.symm⟩
    | succ d=>rw[hd] at hk; simp at hk
   obtain ⟨rfl,rfl⟩:=hk2;exact colc i hi
 ·rw[List.length_append,List.length_singleton] at hi1;by_cases e:j=c
  ·subst e;have:=colc i hi2;rwa [if_neg (by omega)] at this
  ·have hjc:j<c:=by omega
   have z0:Eqm p (M i0 j) 0:=h.low i0 h1 h2 j hjc;refine (rown i hi2 (by omega) j (by omega)).trans ?_;have h4:=(Eqm.refl (-(M (if i=i0 then J.length else i) c * b))).mul z0;rw[Int.mul_zero] at h4;have h6:Eqm p (M (if i=i0 then J.length else i) j) 0:=h.low _ (by split <;> omega) (hsw i hi2) j hjc;have h5:=h6.add h4;refine (Eqm.of ?_).trans h5;rw[Int.neg_mul,Int.mul_assoc];omega
theorem Ae {f:Nat→Int}(w:Nat→Int){r m:Nat}(hr:r≤m)(h:∀ a,r≤a→a<m→Eqm p (f a) 0):Eqm p (aI (List.range m) fun a=>w a * f a) (aI (List.range r) fun a=>w a * f a):=by
 induction m with
 | zero=>rw[show r=0 by omega]; exact .refl _
 | succ m ih =>
  by_cases e:r=m+1
  ·rw[e]; exact .refl _
  ·rw[List.range_succ,kS,df,m6];have h1:=(Eqm.refl (w m)).mul (h m (by omega) (by omega));rw[Int.mul_zero] at h1;have h2:=(ih (by omega) fun a k1 k2=>h a k1 (by omega)).add h1;rw[Int.add_zero] at h2;rwa [Int.add_zero]
theorem lQ.rank {A M:Nat→Nat→Int}{m n:Nat}{J:List Nat}(h:lQ p A m n M J n):dS p A m n J.length:=by
 have hb:∀ i,∃ w:Nat→Int,i<m→∀ j,j<n→Eqm p (A i j) (aI (List.range m) fun a=>w a * M a j):=fun i=>by
  by_cases hi:i<m
  ·obtain ⟨w,hw⟩:=h.bwd i hi;exact⟨w,fun _=>hw⟩
  ·exact⟨fun _=>0,fun k=>absurd k hi⟩
 have hf:∀ i,∃ w:Nat→Int,i<m→∀ j,j<n→Eqm p (M i j) (aI (List.range m) fun a=>w a * A a j):=fun i=>by
  by_cases hi:i<m
  ·obtain ⟨w,hw⟩:=h.fwd i hi;exact⟨w,fun _=>hw⟩
  ·exact⟨fun _=>0,fun k=>absurd k hi⟩
 refine⟨⟨fun i=>(hb i).choose,M,fun i hi j hj=>?_⟩,⟨fun i=>(hf i).choose,fun b k=>if J[k]?=some b then 1 else 0,fun i hi k hk=>?_⟩⟩
 ·refine ((hb i).choose_spec hi j hj).trans ?_;exact Ae _ h.len fun a h1 h2=>h.low a h1 h2 j hj
 ·obtain ⟨jc,hjc⟩:∃ jc,J[k]?=some jc:=⟨J[k],List.getElem?_eq_getElem hk⟩;have hjn:jc<n:=h.col jc (List.mem_of_getElem? hjc);have him:i<m:=by have:=h.len; omega
  have e:∀ a,(aI (List.range n) fun b=>A a b * (if J[k]?=some b then 1 else 0))=A a jc:=fun a=>by
   rw[hjc];rw[aq (g:=fun b=>(if jc=b then 1 else 0) * A a b) (fun b _=>by rw[Int.mul_comm]; congr 1; by_cases q:jc=b <;> simp[q])];exact kQ n jc hjn _
  simp only[e];exact ((hf i).choose_spec him jc hjn).symm.trans (h.piv k jc hjc i him)
theorem dS.same (hp:Fld p){A:Nat→Nat→Int}{m n r r':Nat}(h:dS p A m n r)(h':dS p A m n r'):r=r':=by
 have key:∀ i,i<m→∀ j,j<n→Eqm p (A i j) (aI (List.range m) fun a=>(if i=a then 1 else 0) * aI (List.range n) fun b=>A a b * (if j=b then 1 else 0)):=fun i hi j hj=>by
  rw[kQ m i hi,aq (g:=fun b=>(if j=b then 1 else 0) * A i b) (fun b _=>Int.mul_comm _ _),kQ n j hj];exact .refl _
 exact Nat.le_antisymm (h'.le hp h key) (h.le hp h' key)
end
end Go.Pl
namespace Go.Pl
section
variable {p:Int}
def sf (k:Nat)(A B:Nat→Nat→Int):Nat→Nat→Int:=fun i j=>aI (List.range k) fun t=>A i t * B t j
def Meq (p:Int)(m n:Nat)(A B:Nat→Nat→Int):Prop:=∀ i,i<m→∀ j,j<n→Eqm p (A i j) (B i j)
def Gw:Nat→Nat→Int:=fun i j=>if i=j then 1 else 0
theorem yw (k l:Nat)(A B C:Nat→Nat→Int):sf l (sf k A B) C=sf k A (sf l B C):=by
 funext i j;unfold sf;have e:∀ t,(aI (List.range k) fun u=>A i u * B u t) * C t j=aI (List.range k) fun u=>A i u * (B u t * C t j):=fun t=>by
  rw[← ge];exact aq fun u _=>Int.mul_assoc _ _ _
 simp only[e];rw[fe];exact aq fun u _=>dp _ _ _
theorem Meq.refl {m n:Nat}(A:Nat→Nat→Int):Meq p m n A A:=fun _ _ _ _=>.refl _
theorem Meq.symm {m n:Nat}{A B:Nat→Nat→Int}(h:Meq p m n A B):Meq p m n B A:=fun i hi j hj=>(h i hi j hj).symm
theorem Meq.trans {m n:Nat}{A B C:Nat→Nat→Int}(h:Meq p m n A B)(k:Meq p m n B C):Meq p m n A C:=fun i hi j hj=>(h i hi j hj).trans (k i hi j hj)
theorem Meq.mul {m n k:Nat}{A A' B B':Nat→Nat→Int}(h:Meq p m k A A')(g:Meq p k n B B'):Meq p m n (sf k A B) (sf k A' B'):=fun i hi j hj =>
 Eqm.sum fun t ht=>(h i hi t (List.mem_range.1 ht)).mul (g t (List.mem_range.1 ht) j hj)
theorem rH {A:Nat→Nat→Int}{m n r:Nat}:dS p A m n r↔(∃ X Y,Meq p m n A (sf r X Y))∧∃ L R,Meq p r r (sf m L (sf n A R)) Gw :=
 ⟨fun h=>⟨h.thru,h.one⟩,fun h=>⟨h.1,h.2⟩⟩
structure Red (p:Int)(M:Nat→Nat→Int)(m n r:Nat)(X E L R:Nat→Nat→Int):Prop where
 thru:Meq p m n M (sf r X E)
 rows:Meq p r n (sf m L M) E
 one:Meq p r r (sf n E R) Gw
section
variable {M X E L R:Nat→Nat→Int}{m n r:Nat}(h:Red p M m n r X E L R)
include h
theorem Red.rank:dS p M m n r:=rH.2 ⟨⟨X,E,h.thru⟩,L,R,by
 rw[← yw];exact (h.rows.mul (.refl _)).trans h.one⟩
end
theorem lQ.red {A M:Nat→Nat→Int}{m n:Nat}{J:List Nat}(h:lQ p A m n M J n):∃ X L R,Red p A m n J.length X M L R:=by
 have hb:∀ i,∃ w:Nat→Int,i<m→∀ j,j<n→Eqm p (A i j) (aI (List.range m) fun a=>w a * M a j):=fun i=>by
  by_cases hi:i<m
  ·obtain ⟨w,hw⟩:=h.bwd i hi;exact⟨w,fun _=>hw⟩
  ·exact⟨fun _=>0,fun k=>absurd k hi⟩
 have hf:∀ i,∃ w:Nat→Int,i<m→∀ j,j<n→Eqm p (M i j) (aI (List.range m) fun a=>w a * A a j):=fun i=>by
  by_cases hi:i<m
  ·obtain ⟨w,hw⟩:=h.fwd i hi;exact⟨w,fun _=>hw⟩
  ·exact⟨fun _=>0,fun k=>absurd k hi⟩
 refine⟨fun i=>(hb i).choose,fun i=>(hf i).choose,fun b k=>if J[k]?=some b then 1 else 0,⟨fun i hi j hj=>?_,fun i hi j hj=>?_,fun i hi k hk=>?_⟩⟩
 ·exact ((hb i).choose_spec hi j hj).trans (Ae _ h.len fun a h1 h2=>h.low a h1 h2 j hj)
 ·exact ((hf i).choose_spec (by have:=h.len; omega) j hj).symm
 ·obtain ⟨jc,hjc⟩:∃ jc,J[k]?=some jc:=⟨J[k],List.getElem?_eq_getElem hk⟩;have hjn:jc<n:=h.col jc (List.mem_of_getElem? hjc);have e:sf n M (fun b k=>if J[k]?=some b then 1 else 0) i k=M i jc:=by
   show (aI (List.range n) fun t=>M i t * (if J[k]?=some t then 1 else 0))=_;rw[hjc];rw[aq (g:=fun b=>(if jc=b then 1 else 0) * M i b) (fun b _=>by rw[Int.mul_comm]; congr 1; by_cases q:jc=b <;> simp[q])];exact kQ n jc hjn _
  rw[e];exact h.piv k jc hjc i (by have:=h.len; omega)
end
end Go.Pl
namespace Go.Pl
theorem tH {p:Int}(h:p=2∨p=3∨p=5∨p=7):Fld p:=by
 refine⟨fun h1=>?_,fun a ha=>?_⟩
 ·obtain ⟨k,hk⟩:=h1
  rcases h with rfl | rfl | rfl | rfl <;> omega
 ·rcases h with rfl | rfl | rfl | rfl
  ·have:a % 2≠0:=fun e=>ha ⟨a / 2,by omega⟩;exact⟨1,⟨a / 2,by omega⟩⟩
  ·have:a % 3≠0:=fun e=>ha ⟨a / 3,by omega⟩;by_cases h1:a % 3=1
   ·exact⟨1,⟨a / 3,by omega⟩⟩
   ·exact⟨2,⟨a / 3 * 2+1,by omega⟩⟩
  ·have:a % 5≠0:=fun e=>ha ⟨a / 5,by omega⟩;by_cases h1:a % 5=1
   ·exact⟨1,⟨a / 5,by omega⟩⟩
   by_cases h2:a % 5=2
   ·exact⟨3,⟨a / 5 * 3+1,by omega⟩⟩
   by_cases h3:a % 5=3
   ·exact⟨2,⟨a / 5 * 2+1,by omega⟩⟩
   ·exact⟨4,⟨a / 5 * 4+3,by omega⟩⟩
  ·have:a % 7≠0:=fun e=>ha ⟨a / 7,by omega⟩;by_cases h1:a % 7=1
   ·exact⟨1,⟨a / 7,by omega⟩⟩
   by_cases h2:a % 7=2
   ·exact⟨4,⟨a / 7 * 4+1,by omega⟩⟩
   by_cases h3:a % 7=3
   ·exact⟨5,⟨a / 7 * 5+2,by omega⟩⟩
   by_cases h4:a % 7=4
   ·exact⟨2,⟨a / 7 * 2+1,by omega⟩⟩
   by_cases h5:a % 7=5
   ·exact⟨3,⟨a / 7 * 3+2,by omega⟩⟩
   ·exact⟨6,⟨a / 7 * 6+5,by omega⟩⟩
section
variable {p:Int}
theorem Eqm.neg {a b:Int}(h:Eqm p a b):Eqm p (-a) (-b):=by
 have:=(Eqm.refl (-1)).mul h;refine (Eqm.of ?_).trans (this.trans (Eqm.of ?_))<;>omega
theorem Eqm.sub {a b c d:Int}(h:Eqm p a b)(k:Eqm p c d):Eqm p (a - c) (b - d):=by
 have:=h.add k.neg;rwa [← Int.sub_eq_add_neg,← Int.sub_eq_add_neg] at this
theorem xl (hp:Fld p)(A:Nat→Nat→Int)(m n:Nat):∀ c,c≤n→∃ M J,lQ p A m n M J c
 | 0,_=>⟨A,[],.start A m n⟩
 | c+1,hc=>by
  obtain ⟨M,J,h⟩:=xl hp A m n c (by omega);by_cases h0:∀ i,J.length≤i→i<m→Eqm p (M i c) 0
  ·exact⟨M,J,h.none h0⟩
  ·have ⟨i0,h1,h2,h3⟩:∃ i0,J.length≤i0∧i0<m∧¬ Eqm p (M i0 c) 0:=by
    apply Classical.byContradiction;intro k;exact h0 fun i a b=>Classical.byContradiction fun e=>k ⟨i,a,b,e⟩
   obtain ⟨b,hb⟩:=hp.2 _ h3;rw[Int.mul_comm] at hb;exact⟨fun i j=>if i=J.length then b * M i0 j else M (if i=i0 then J.length else i) j - M (if i=i0 then J.length else i) c * (b * M i0 j),J++[c],h.pivot (by omega) h1 h2 hb fun i _ j _=>.refl _⟩
theorem ET (hp:Fld p)(A:Nat→Nat→Int)(m n:Nat):∃ r X E L R,Red p A m n r X E L R:=by
 obtain ⟨M,J,h⟩:=xl hp A m n n (Nat.le_refl _);obtain ⟨X,L,R,h1⟩:=h.red;exact⟨_,X,M,L,R,h1⟩
open Classical in
noncomputable def rk (p:Int) (A:Nat→Nat→Int) (m n:Nat):Nat:=if h:∃ r,dS p A m n r then h.choose else 0
theorem Cm (hp:Fld p){A:Nat→Nat→Int}{m n r:Nat}(h:dS p A m n r):rk p A m n=r:=by
 have h1:∃ r,dS p A m n r:=⟨r,h⟩;unfold rk;rw[dif_pos h1];exact dS.same hp h1.choose_spec h
theorem Ck (hp:Fld p)(A:Nat→Nat→Int)(m n:Nat):dS p A m n (rk p A m n):=by
 obtain ⟨r,X,E,L,R,h⟩:=ET hp A m n;rw[Cm hp h.rank];exact h.rank
theorem dS.congr {A B:Nat→Nat→Int}{m n r:Nat}(h:dS p A m n r)(e:Meq p m n A B):dS p B m n r:=by
 obtain ⟨⟨X,Y,h1⟩,L,R,h2⟩:=rH.1 h;exact rH.2 ⟨⟨X,Y,e.symm.trans h1⟩,L,R,((Meq.refl L).mul (e.symm.mul (.refl R))).trans h2⟩
theorem wP (hp:Fld p){A B:Nat→Nat→Int}{m n:Nat}(e:Meq p m n A B):rk p A m n=rk p B m n:=(Cm hp ((Ck hp B m n).congr e.symm))
theorem EP (hp:Fld p)(A:Nat→Nat→Int)(m n:Nat):rk p (fun i j=>A j i) n m=rk p A m n:=Cm hp (Ck hp A m n).turn
theorem lQ.rk (hp:Fld p){A M:Nat→Nat→Int}{m n:Nat}{J:List Nat}(h:lQ p A m n M J n):Pl.rk p A m n=J.length:=Cm hp h.rank
theorem z6 (hp:Fld p)(A:Nat→Nat→Int)(m n:Nat):rk p A m n≤n:=by
 obtain ⟨X,Y,h⟩:=(Ck hp A m n).thru;obtain ⟨L,R,k⟩:=(Ck hp A m n).one;refine D2 hp (X:=fun i b=>aI (List.range m) fun a=>L i a * A a b) (Y:=R) fun i hi j hj=>?_;refine (Eqm.of ?_).trans (k i hi j hj);have e:∀ t,(aI (List.range m) fun a=>L i a * A a t) * R t j=aI (List.range m) fun a=>L i a * (A a t * R t j):=fun t=>by
  rw[← ge];exact aq fun a _=>Int.mul_assoc _ _ _
 simp only[e];rw[fe];exact aq fun a _=>dp _ _ _
theorem nE (hp:Fld p)(A:Nat→Nat→Int)(m n:Nat):rk p A m n≤m:=by
 rw[← EP hp];exact z6 hp _ _ _
def mx {α β:Type}(R:List α)(C:List β)(e:α→β→Int):Nat→Nat→Int:=fun i j=>match R[i]?,C[j]? with
 | some r,some c=>e r c
 | _,_=>0
noncomputable def rkL {α β:Type} (p:Int) (R:List α) (C:List β) (e:α→β→Int):Nat:=rk p (mx R C e) R.length C.length
theorem FZ {α β:Type}{R:List α}{C:List β}{e:α→β→Int}{i j:Nat}{r:α}{c:β}(hr:R[i]?=some r)(hc:C[j]?=some c):mx R C e i j=e r c:=by
 unfold mx;rw[hr,hc]
end
end Go.Pl
namespace Go.Pl
def at2 (M:List (List Int)):Nat→Nat→Int:=fun i j=>(M.getD i []).getD j 0
def Cv (m n:Nat)(f:Nat→Nat→Int):List (List Int):=(List.range m).map fun i=>(List.range n).map (f i)
theorem AI {m n:Nat}{f:Nat→Nat→Int}{i j:Nat}(hi:i<m)(hj:j<n):at2 (Cv m n f) i j=f i j:=by
 have h1:(Cv m n f).getD i []=(List.range n).map (f i):=by
  unfold Cv;rw[List.getD_eq_getElem?_getD,List.getElem?_map,List.getElem?_range hi];rfl
 unfold at2;rw[h1,List.getD_eq_getElem?_getD,List.getElem?_map,List.getElem?_range hj];rfl
def Cf (p a:Int):Int:=(((List.range p.toNat).find? fun b:Nat=>decide ((b * a) % p=1)).getD 0:Nat)
def zk (p:Int)(m n:Nat):Nat→Nat→List (List Int)→Nat→Nat
 | 0,_,_,k=>k
 | f+1,c,M,k=>match (List.range m).find? fun i=>decide (k≤i)&&decide (at2 M i c % p≠0) with
  | none=>zk p m n f (c+1) M k
  | some i0=>zk p m n f (c+1) (Cv m n fun i j=>(if i=k then Cf p (at2 M i0 c) * at2 M i0 j else at2 M (if i=i0 then k else i) j - at2 M (if i=i0 then k else i) c * (Cf p (at2 M i0 c) * at2 M i0 j)) % p) (k+1)
theorem rh (p a:Int):Eqm p (a % p) a:=by
 refine⟨-(a / p),?_⟩;rw[Int.mul_neg];have:=Int.emod_add_mul_ediv a p;omega
theorem rS {p:Int}(hp:Fld p)(hinv:∀ a,a % p≠0→Eqm p (Cf p a * a) 1){A:Nat→Nat→Int}{m n:Nat}:∀ (f c:Nat) (M:List (List Int)) (J:List Nat),f+c=n→lQ p A m n (at2 M) J c→zk p m n f c M J.length=rk p A m n
 | 0,c,M,J,hc,h=>by
  have:c=n:=by omega
  subst this;exact (h.rk hp).symm
 | f+1,c,M,J,hc,h=>by
  unfold zk;cases hf:(List.range m).find? fun i=>decide (J.length≤i)&&decide (at2 M i c % p≠0) with
  | none =>
   refine rS hp hinv f (c+1) M J (by omega) (h.none fun i h1 h2=>?_);have:=List.find?_eq_none.1 hf i (List.mem_range.2 h2);simp only[Bool.and_eq_true,decide_eq_true_eq,not_and,Classical.not_not] at this;have h0:=this h1;exact⟨at2 M i c / p,by have:=Int.emod_add_mul_ediv (at2 M i c) p; omega⟩
  | some i0 =>
   have h1:=List.find?_some hf;have h2:=List.mem_range.1 (List.mem_of_find?_eq_some hf);simp only[Bool.and_eq_true,decide_eq_true_eq] at h1;have h3:=h.pivot (M':=at2 (Cv m n fun i j=>(if i=J.length then Cf p (at2 M i0 c) * at2 M i0 j else at2 M (if i=i0 then J.length else i) j - at2 M (if i=i0 then J.length else i) c * (Cf p (at2 M i0 c) * at2 M i0 j)) % p)) (by omega) h1.1 h2 (hinv _ h1.2) fun i hi j hj=>by
    rw[AI hi hj];exact rh _ _
   have:=rS hp hinv f (c+1) _ (J++[c]) (by omega) h3;rw[List.length_append,List.length_singleton] at this;exact this
theorem E5 (a:Int)(h:a % 2≠0):Eqm 2 (Cf 2 a * a) 1:=by
 have h1:Cf 2 a=1:=by
  unfold Cf;have:(((1:Nat):Int) * a) % 2=1:=by omega
  have h0:¬ (((0:Nat):Int) * a) % 2=1:=by simp
  rw[show List.range (2:Int).toNat=[0,1] from rfl,List.find?_cons_of_neg (by rw[decide_eq_true_eq]; exact h0),List.find?_cons_of_pos (by rw[decide_eq_true_eq]; exact this)];rfl
 rw[h1];exact⟨a / 2,by omega⟩
def rkF {α β:Type}(R:List α)(C:List β)(e:α→β→Int):Nat:=zk 2 R.length C.length C.length 0 (Cv R.length C.length (mx R C e)) 0
theorem FR {α β:Type}(R:List α)(C:List β)(e:α→β→Int):rkL 2 R C e=rkF R C e:=by
 have hp:Fld 2:=tH (.inl rfl);unfold rkF rkL;have h1:Meq 2 R.length C.length (mx R C e) (at2 (Cv R.length C.length (mx R C e))):=fun i hi j hj=>Eqm.of (AI hi hj).symm;rw[wP hp h1];exact (rS hp E5 C.length 0 _ [] (by omega) (lQ.start _ _ _)).symm
def kh (p:Int):Bool:=decide (p=2)||decide (p=3)||decide (p=5)||decide (p=7)
end Go.Pl
namespace Go.Sy
open Go
section
variable {P:Program}{N:Nat}{E:World}{dst:Option Tmp}{ty:TypeId}{pos:String}{af:Array Edge}{gd:Option (Nat×Bool)}{f:Fr}{g:PH}{s:Own}
theorem SU.mkFuncB {n:FuncId}{l:List Operand}{vs:List Value}(hl:evs f l=some vs):SU P N ⟨dst,.makeFunc (.func n) l.toArray #[],ty,pos,af,gd⟩ f (.func (.func n) vs.toArray #[]):=fun a w ha=>by
 simp[execOp,Instr.makeFunc,ha.evs hl]
def Cs (P:Program)(E:World)(v:Value)(args:List Value)(g:PH)(s:Own)(R:Value→PH→Own→Prop):Prop :=
 ∃ n fst,v = .func (.func n) fst #[]∧(∀ args w,(callFunc n args).run P w = .ok (.enter n args) w)∧Ctr P E n (fst++args.toArray) g s R
theorem SO.callB {x:Operand}{l:List Operand}{tys:Array TypeId}{v:Value}{vs:List Value}{R:Value→PH→Own→Prop}(hx:ev f x=some v)(hl:evs f l=some vs)(hc:Cs P E v vs g s R) :
  SO P N E ⟨dst,.call ⟨.value x,l.toArray,tys⟩,ty,pos,af,gd⟩ f g s R:=by
 intro a w ha hw Q next hn;obtain ⟨n,fst,rfl,hcall,hfn⟩:=hc;unfold Oper.wp;have hr:(execOp a.eval ⟨dst,.call ⟨.value x,l.toArray,tys⟩,ty,pos,af,gd⟩).run P w = .ok (.enter n (fst++vs.toArray)) w:=by
  simp[execOp,resolve,ha.ev hx,Deferred.ofValue,invoke,hcall,ha.evs hl]
 rw[hr];refine (hfn w hw).mono fun e w' he=>?_;obtain ⟨u,g',s',rfl,hw',hR⟩:=he;exact hn u g' s' w' hR hw'
theorem SU.minF {x y:Operand}{T U:TypeId}{m n:Int}(hx:ev f x=some (vi m))(hy:ev f y=some (vi n)) :
  SU P N ⟨dst,.call ⟨.builtin .min,#[x,y],#[T,U]⟩,ty,pos,af,gd⟩ f (vi (min m n)):=fun a w ha=>by
 have h:=run_min_int2 (P:=P) (w:=w) #[T,U] ty .i64 .i64 m n;have h2:(if n<m then n else m)=min m n:=by split <;> omega
 rw[h2] at h;simp[execOp,resolve,invoke,builtin,ha.ev hx,ha.ev hy,h]
theorem SU.maxF {x y:Operand}{T U:TypeId}{m n:Int}(hx:ev f x=some (vi m))(hy:ev f y=some (vi n)) :
  SU P N ⟨dst,.call ⟨.builtin .max,#[x,y],#[T,U]⟩,ty,pos,af,gd⟩ f (vi (max m n)):=fun a w ha=>by
 have h:=run_max_int2 (P:=P) (w:=w) #[T,U] ty .i64 .i64 m n;have h2:(if m<n then n else m)=max m n:=by split <;> omega
 rw[h2] at h;simp[execOp,resolve,invoke,builtin,ha.ev hx,ha.ev hy,h]
end
end Go.Sy
namespace Go.Proofs.YtcfkpajlakidbaaGreatDoor
open _root_.Go.Proofs.Tryz _root_.Go.Proofs.YtcfkpajlakidbaaGreatDoor.Tryz
open Go Go.Sy Go.Pl Go.Proofs
set_option maxRecDepth 100000
def Fp (p:Int):Prop:=p=2∨p=3∨p=5∨p=7
theorem Fp.fld {p:Int}(h:Fp p):Fld p:=tH h
theorem Fp.lt {p:Int}(h:Fp p):2≤p∧p≤7:=by
 rcases h with rfl | rfl | rfl | rfl <;> omega
theorem im {p:Int}:kh p=true↔Fp p:=by
 unfold kh Fp;simp only[Bool.or_eq_true,zi7];omega
theorem qq (E:World)(g:PH)(s:Own)(p:Int)(h2:2≤p)(h9:p<9) :
  Ctr Tryz.prog E 51 #[vi p] g s (fun r g' s'=>r=vb (kh p)∧g=g'∧s=s'):=by
 refine za9 (args:=[vi p]) func51 I ntmps51 (bE I) ?_;refine rZ (aT I (sQ (sW I (lU (SU.eq (v':=vb false) (lS I I) (zd6 vb (zf2 oM))) (lM I (yC I (lY I I I (SU.eq (v':=vb false) (gR I I) (zd6 vb (zf2 oM))) (yF I (tZ (cF I (kP (tN (sQ (rZ (aT I (bK ?_))))))))))))))));refine oP (ι:=Nat) (fun k=>[(0,vi p),(3,vi k)]) (fun _=>g) (fun _=>s) (fun k=>k=2∨(k=3∧(p=5∨p=7))) (fun k=>3 - k) 2 sB I I (.inl I) ?_;rintro k hk;have hk3:(k:Int)=2∨(k:Int)=3∧(p=5∨p=7):=oM;refine sQ (sW rfl (lM rfl (lU (SU.eq (v':=vi ((k:Int) * k)) (SU.mulW rfl rfl) (zd6 vi (zk1 _ (by rcases hk3 with h | ⟨h,_⟩ <;> rw[h] <;> omega)))) ?_)));refine lM I (lU (SU.leq I I) (tZ ?_));refine iP I (fun hle=>?_) (fun hle=>?_)
 ·have hk2:k=2:=by
   rcases hk with h | ⟨h,h'⟩
   ·exact h
   ·subst h;have:(((3:Nat):Int) * ((3:Nat):Int))=9:=rfl;rw[this] at hle;omega
  subst hk2;have h4:4≤p:=by
   have:(((2:Nat):Int) * ((2:Nat):Int))=4:=rfl;rw[this] at hle;omega
  refine kP (tN (sQ (bK (sW I (lM I (lU (SU.eq (v':=vi (p % 2)) (zd3 I I dC) (zd6 vi (by rw[Int.tmod_eq_emod_of_nonneg oM]; rfl))) ?_))))));refine yE I (tZ ?_);refine iP I (fun hr=>?_) (fun hr=>?_)
  ·refine rZ (aT I (rE (bR (tR (tR (bR (tR ?_)))))));have:kh p=false:=by
    rw[Bool.eq_false_iff,Ne,im];rintro (h | h | h | h)<;>omega
   rw[this];exact za6 (.inl I) results51 I ⟨I,I,I⟩
  ·refine kP (bN (tN (rG (lM I (yD I (lA I (nL ?_)))))));exact ST.again 3 sB I I (.inr ⟨I,oM⟩) dC
 ·refine xI (tX (tX (bX (tN (rZ (aT I (rE ?_)))))));have hp:kh p=true:=by
   rw[im]
   rcases hk with h | ⟨h,h'⟩
   ·subst h;have:(((2:Nat):Int) * ((2:Nat):Int))=4:=rfl;rw[this] at hle;unfold Fp;omega
   ·unfold Fp;omega
  rw[hp];exact za6 (.inl I) results51 I ⟨I,I,I⟩
theorem qF (E:World)(g:PH)(s:Own)(p:Int)(hp:Fp p)(R C:Nat)(hr:R≤400)(hc:C≤400) :
  Ctr Tryz.prog E 206 #[vi p,vi R,vi C] g s (fun x g' s'=>x=vb true∧g=g'∧s=s'):=by
 have hl:=hp.lt;have hps:kh p=true:=im.2 hp;refine za9 (args:=[vi p,vi R,vi C]) func206 I ntmps206 (bE I) ?_;refine rZ (aT I (sW I (lW (cL call51 I (by have:=qq E g s p oM oM; rw[hps] at this; exact this)) ?_)));rintro _ _ _ ⟨rfl,rfl,rfl⟩;refine lM I (yC I (yC I (lY I I I (SU.minF I I) (lY I I I (SU.eq (v':=vb true) (gQ I I) (zd6 vb (zf3 oM))) (yP I (lM I (yC I (yC I (lY I I I (SU.maxF I I) (lY I I I (SU.eq (v':=vb true) (SU.leq I I) (zd6 vb (zf3 oM))) (yP I (aT I (rE ?_)))))))))))));exact za6 (.inl I) results206 I ⟨I,I,I⟩
theorem Ce {r c:Nat}(hr:r≤400)(hc:c≤400):r * c≤160000:=Nat.mul_le_mul hr hc
def FmR (g:PH)(v:Value)(p:Int)(R C:Nat)(A:List Int):Prop:=∃ q c,v = .agg #[vi p,vi R,vi C,.slice q A.length c]∧cj g (.slice q A.length c) A
theorem Tryz.build201 (m r c:Int)(p:Option Addr)(n k:Nat)(w:World):(Instr.build 201 #[(0,vi m),(1,vi r),(2,vi c),(3,.slice p n k)]).run Tryz.prog w = .ok (.agg #[vi m,vi r,vi c,.slice p n k]) w:=by
 have h1:∀ n,(vi n).cells = #[vi n]:=fun _=>rfl;have h2:(Value.slice p n k).cells = #[.slice p n k]:=rfl;simp[Instr.build,Instr.fill,h1,h2];rfl
theorem Bw (E:World)(g:PH)(s:Own)(p:Int)(hp:Fp p)(r c:Nat)(hr:r≤400)(hc:c≤400) :
  Ctr Tryz.prog E 187 #[vi p,vi r,vi c] g s (fun x g' s'=>g=g'∧∃ b,x = .agg #[vi p,vi r,vi c,.slice (some ⟨b,0,none⟩) (r * c) (r * c)]∧s'=rowA encInt 3 (.slice (some ⟨b,0,none⟩) (r * c) (r * c)) (List.replicate (r * c) 0)::s):=by
 have hm:=Ce hr hc;refine za9 (args:=[vi p,vi r,vi c]) func187 I ntmps187 (bE I) ?_;refine rZ (bW (aL zk4) fun b6=>?_);refine tZ (sQ (sW I (lM I (lM I (lW (cL call206 I (qF E g _ p hp r c hr hc)) ?_)))));rintro _ _ _ ⟨rfl,rfl,rfl⟩;refine lU (SU.not I) (tZ (cF I (kP (tN (sW I (lM I (lM I (lM I (lM I (lU (SU.eq (v':=vi ((r * c:Nat))) (SU.mulW I I) (zd6 vi (by rw[← Int.natCast_mul]; exact zk1 _ oM))) ?_))))))))));refine lW (mK encInt 0 sty25 I I I oM oM) ?_;rintro _ _ _ ⟨b15,rfl,rfl,rfl⟩;refine lU (za1 I (build201 _ _ _ _ _ _)) ?_;refine oZ (sK 1 dh rfl rfl rfl rfl rfl (by (repeat' (first | exact trivial | refine⟨by rfl,?_⟩)))) ?_;refine tZ (rE ?_);exact ST.retCD 1 _ (.inl I) results187 I isAgg201 dh I I (.cons_cons _ (.cons _ (.refl _))) ⟨I,_,I,I⟩
theorem FsQ (E:World)(g:PH)(s:Own)(b:Nat)(p n:Int)(hb:eH g s ⟨b,0,none⟩ (vi p))(h0:0≤n)(hn:n<p) :
  cX Tryz.prog E (.func (.func 214) #[] #[pp b 0]) [vi n] g s (fun x g' s'=>x=vb false∧g=g'∧s=s'):=by
 refine cX.mk (cap:=[pp b 0]) call214 ?_;refine za9 (args:=[vi n,pp b 0]) func214 I ntmps214 (bE I) ?_;refine rZ (aT I (sW I (lU (SU.eq (v':=vb false) (lS I I) (zd6 vb (zf2 oM))) (lM I (yC I (lY I I I (fA dK I zT3 I) (SL.gq (gT I I I dC) (qL (v:=vi p) iT3 I hb) dC (lY I I I (SU.eq (v':=vb false) (gQ I I) (zd6 vb (zf2 oM))) (yF I (aT I (rE ?_)))))))))));exact za6 (.inl I) results214 I ⟨I,I,I⟩
theorem yQ (E:World)(g:PH)(s:Own)(v:Value)(kn:FuncId)(kc:Array Value)(l:List Int)(hv:cj g v l)(hl:l.length<1099511627776)(hp:∀ a∈l,cX Tryz.prog E (.func (.func kn) #[] kc) [vi a] g s (fun x g' s'=>x=vb false∧g=g'∧s=s')) :
  Ctr Tryz.prog E 227 #[v,.func (.func kn) #[] kc] g s (fun r g' s'=>r=vi (-1)∧g=g'∧s=s'):=by
 obtain ⟨p,c,rfl⟩:=za2 hv;refine za9 (args:=[.slice p l.length c,.func (.func kn) #[] kc]) func227 I ntmps227 (bE I) ?_;refine rZ (aT I (sQ (sW I (lU (eN aj I) (lM I (tZ (bK ?_)))))));refine oP (ι:=Nat) (fun k=>[(0,.slice p l.length c),(1,.func (.func kn) #[] kc),(7,vi l.length),(8,vi k)]) (fun _=>g) (fun _=>s) (fun k=>k≤l.length) (fun k=>l.length - k) 0
  sB rfl rfl (zf1 _) ?_
 rintro k hk;refine rZ (yL I (tZ (sQ ?_)));refine iP I (fun hlt=>?_) (fun hlt=>?_)
 ·have hkl:k<l.length:=oM;have hb1:=za4 hv oM;refine kP (tN (sQ (bK (sW I (aT I (sW I (lM I (lM I (lU (iA aj zT3 I I hb1 oM sL) ?_)))))))));refine SL.q (eB iT3 I (za5 hv) (gE hkl) I) dC ?_;refine lW (SO.callV I I (hp l[k] (gM hkl))) ?_;rintro _ _ _ ⟨rfl,rfl,rfl⟩;refine tZ (cF I (kP (bN (tN (rG (yD I (lM I (nL ?_))))))));exact ST.again (k+1) sB I I oM oM
 ·refine xI (tX (tX (bX (tN (rZ (aT I (rE ?_)))))));exact za6 (.inl I) results227 I ⟨I,I,I⟩
theorem sG (E:World)(g:PH)(s:Own)(v:Value)(kn:FuncId)(kc:Array Value)(l:List Int)(hv:cj g v l)(hl:l.length<1099511627776)(hp:∀ a∈l,cX Tryz.prog E (.func (.func kn) #[] kc) [vi a] g s (fun x g' s'=>x=vb false∧g=g'∧s=s')) :
  Ctr Tryz.prog E 213 #[v,.func (.func kn) #[] kc] g s (fun r g' s'=>r=vb false∧g=g'∧s=s'):=by
 refine za9 (args:=[v,.func (.func kn) #[] kc]) func213 I ntmps213 (bE I) ?_;refine rZ (aT I (sW I (lM I (lW (cL call227 I (yQ E g _ v kn kc l hv hl hp)) ?_))));rintro _ _ _ ⟨rfl,rfl,rfl⟩;refine lU (gQ I I) (aT I (rE ?_));exact za6 (.inl I) results213 I ⟨I,I,I⟩
theorem wc (E:World)(g:PH)(s:Own)(v:Value)(p:Int)(hp:Fp p)(R C:Nat)(hr:R≤400)(hc:C≤400)(A:List Int)(hA:A.length=R * C)(hv:FmR g v p R C A)(h0:∀ x∈A,0≤x∧x<p) :
  Ctr Tryz.prog E 204 #[v] g s (fun x g' s'=>x=vb true∧g=g'∧s=s'):=by
 obtain ⟨q,c,rfl,hs⟩:=hv;have hm:=Ce hr hc;refine za9 (args:=[.agg #[vi p,vi R,vi C,.slice q A.length c]]) func204 I ntmps204 (bE I) ?_;refine rZ (bW (bO I) fun b1=>?_);refine aT I (rZ (lU (fA dK I zT3 I) (lK (qL iT3 I (cO 0 I I)) (lU (fA dK I zT3 I) (lK (qL iT3 I (cO 0 I I)) (lU (fA dK I zT3 I) (lK (qL iT3 I (cO 0 I I)) (lW (cL call206 I (qF E g _ p hp R C hr hc)) ?_))))))));rintro _ _ _ ⟨rfl,rfl,rfl⟩;refine lM I (lY I I I (fA dK I cR I) (SL.gq (gT I I I dC) (qL eC I (cO 0 I I)) dC (lY I I I (eN aj I) (lY I I I (fA dK I zT3 I) (SL.gq (gT I I I dC) (qL iT3 I (cO 0 I I)) dC (lY I I I (fA dK I zT3 I) (SL.gq (gT I I I dC) (qL iT3 I (cO 0 I I)) dC (lY I I I (SU.eq (v':=vi ((R * C:Nat))) (SU.mulW I I) (zd6 vi (by rw[← Int.natCast_mul]; exact zk1 _ oM))) ?_))))))));refine lY I I I (SU.eq (v':=vb true) (eQ I I) (zd6 vb (zf3 (by rw[hA])))) ?_;refine yP I (lM I (lY I I I (fA dK I cR I) (SL.gq (gT I I I dC) (qL eC I (cO 0 I I)) dC (lY I I I (SU.mkFunc I) (SL.go (gT I I I dC) (cL call213 I (sG E g _ (.slice q A.length c) _ _ A hs oM fun a ha=>FsQ E g _ b1 p a (cO 0 I I) (h0 a ha).1 (h0 a ha).2)) dC ?_)))));rintro _ _ _ ⟨rfl,rfl,rfl⟩;refine lY I I I (SU.not I) (yP I (aT I (rE (dR (s':=s) uR ?_))));exact za6 (.inl I) results204 I ⟨I,I,I⟩
end Go.Proofs.YtcfkpajlakidbaaGreatDoor
