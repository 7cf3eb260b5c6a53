/-
  The law TilesErrors of the chapter on tiles.
-/
import Derived.Test.YtcfkpajlakidbaaGreatTe11
import Derived.Test.YtcfkpajlakidbaaGreatTe09
import Derived.Test.YtcfkpajlakidbaaGreatTe06
import Derived.Test.YtcfkpajlakidbaaGreatTe08
import Derived.Test.YtcfkpajlakidbaaGreatTe07
set_option linter.unusedSimpArgs false
set_option linter.unusedVariables false
namespace Go.Proofs.YtcfkpajlakidbaaGreat
open _root_.Go.Proofs.Tryz _root_.Go.Proofs.YtcfkpajlakidbaaGreat.Tryz
open Go Go.Sy Go.Pl Go.Proofs
set_option maxRecDepth 100000
set_option maxHeartbeats 4000000
def Pgs (g:PH)(v:Value)(P:List (List (List Int))):Prop:=∃ rs,SlA bq g v rs∧ar (fun (Q:List (List Int)) (r:Sv)=>aI g (.slice r.p r.n r.c) Q) P rs
theorem Pgs.mono {g g':PH}{v:Value}{P:List (List (List Int))}(h:Pgs g v P)(hl:Le g g'):Pgs g' v P:=by
 obtain ⟨rs,h1,h2⟩:=h;exact⟨rs,za3 h1 hl,h2.mono fun _ _ h=>h.mono hl⟩
theorem Pgs.nil (g:PH):Pgs g (.slice none 0 0) []:=⟨[],zb8 g _,trivial⟩
theorem vw {α:Type}[DecidableEq α]{P:List α}{n:Nat}(h1:1<n)(hn:n≤P.length):hZ (P.take n)=if P[n - 1]'oM=P[n - 2]'oM then hZ (P.take (n - 1)) else P.take n:=by
 have e1:P.take n=P.take (n - 2)++[P[n - 2]'oM]++[P[n - 1]'oM]:=by
  have a1:=tS (l:=P) (i:=n - 1) oM;have a2:=tS (l:=P) (i:=n - 2) oM;rw[show n - 2+1=n - 1 by omega] at a2;rw[show n - 1+1=n by omega] at a1;rw[a1,a2]
 have e2:P.take (n - 1)=P.take (n - 2)++[P[n - 2]'oM]:=by
  have a2:=tS (l:=P) (i:=n - 2) oM;rwa [show n - 2+1=n - 1 by omega] at a2
 rw[e1,e2];generalize P.take (n - 2)=q;generalize P[n - 2]'oM=a;generalize P[n - 1]'oM=b;unfold hZ;rw[List.reverse_append,List.reverse_append];show (l8 (b::a::q.reverse)).reverse=if b=a then (l8 (a::q.reverse)).reverse else q++[a]++[b]
 conv=>lhs; unfold l8
 split
 ·rfl
 ·simp
theorem wW {α:Type}[DecidableEq α]{P:List α}{n:Nat}(h:¬ 1<n):hZ (P.take n)=P.take n:=by
 have hl:(P.take n).length≤1:=by rw[zd9]; omega
 generalize P.take n=q at hl
 match q,hl with
 | [],_=>rfl
 | [a],_=>rfl
theorem vk {L:List Cl}(hL:Rt L){T:List (List Int)}(hT:T.length≤6):∀ c∈eu L T,c.id<4611686018427387904:=fun z hz=>by
 obtain ⟨d,hd,rfl⟩:=ze7.1 hz;have hd:=(dP _ _).1 hd;rw[zG] at hd;obtain ⟨c,hc,s,hs,rfl⟩:=(vW hL).1 hd;have h1:=sub_le (oO.1 hs).2;have h2:=zV L c.id hT;have h3:=(zf1.1 (hL.ix_get hc)).1;have h4:=hL.few;have h5:=yv (i:=ixB L c.id) (s:=s) hT oM oM;show bId T.length (ixB L c.id) s<_;omega
theorem ve {l:List Cl}(h:(aU l).2=0) : -1≤um l∧um l≤8:=by
 have hr:=jZ h;have ht:ae l=aa l:=a8 hr.asc;have key:∀ (q:List Cl) (m:Int),(∀ c∈q,c.dim≤8) → -1≤m→m≤8 → -1≤pW q m∧pW q m≤8:=by
  intro q;induction q with
  | nil=>exact fun m _ h1 h2=>⟨h1,h2⟩
  | cons c q ih =>
   intro m hq h1 h2;have hc:=hq c (by simp);exact ih (max m c.dim) (fun d hd=>hq d (by simp[hd])) oM oM
 unfold um;rw[ht];exact key _ _ (fun c hc=>(hr.form c hc).dim.2) dC dC
theorem uT {B:List Cl}{c:Cl}(hc:c∈B)(h:200<(B.filter fun x=>decide (x.dim=c.dim)).length):py B=true:=zj2.2 ⟨c,hc,zf4 h⟩
theorem zr {B:List Cl}(h:∀ d:Int,(B.filter fun x=>decide (x.dim=d)).length≤200):py B=false:=by
 rw[Bool.eq_false_iff];intro k;obtain ⟨c,hc,h2⟩:=zj2.1 k;have:=h c.dim;simp at h2;omega
theorem Tryz.build72 (b mb mk:Nat)(p:Int)(w:World):(Instr.build 72 #[(0,pp b 0),(1,vi p),(2,.map (some mb)),(3,.map (some mk))]).run Tryz.prog w = .ok (.agg #[pp b 0,vi p,.map (some mb),.map (some mk)]) w:=by
 have h1:∀ n,(vi n).cells = #[vi n]:=fun _=>rfl;have h2:(pp b 0).cells = #[pp b 0]:=rfl;have h3:∀ m:Nat,(Value.map (some m)).cells = #[.map (some m)]:=fun _=>rfl;simp[Instr.build,Instr.fill,h1,h2,h3];rfl
theorem oL {rf:List Cl→List Cl→Nat}{n:Nat}{B:List Cl}{D:Nat}{r:Int}:(wL rf n B D r).length=n:=by
 unfold wL;rw[ze2,zh9]
theorem jJ {α:Type}(f:Nat→α)(k:Nat):(List.range (k+1)).map f=(List.range k).map f++[f k]:=by
 rw[List.range_succ,zg1];rfl
theorem y5 {ms:Mk}{j:Nat}{k:Int}{v:Value}{l:List Rc}(h:ms[j]?=some (k,v,l)){hd:Own}(s:Own){x:Ent}(hh:hd.length=6):((hd++(ep ms++s)).set (j+6) x)[j+6]?=some x:=by
 have hj:=(zf1.1 h).1;rw[List.getElem?_set_self];simp only[ze1,ep,ze2];omega
theorem mL {rf:List Cl→List Cl→Nat}{n:Nat}{B:List Cl}{D:Nat}:(iy rf n B D).length=n:=by
 unfold iy;rw[ze2,zh9]
theorem pH {rf:List Cl→List Cl→Nat}{n:Nat}{B:List Cl}{D:Nat}:∀ Q∈iy rf n B D,Q.length=n∧∀ x∈Q,x.length=D:=fun Q h=>by
 obtain ⟨r,-,rfl⟩:=ze7.1 h;refine⟨oL,fun x hx=>?_⟩;obtain ⟨a,-,rfl⟩:=ze7.1 hx;rw[ze2,zh9]
theorem Tryz.sty37:STy Tryz.prog 37 22 1 24 (.slice none 0 0):=⟨underlying37,⟨t22,by kernel_rfl,by kernel_rfl,by kernel_rfl,by kernel_rfl⟩,rfl,by decide⟩
theorem fm (E:World)(hE:E.drawn=0)(g:PH)(s:Own)(v tv:Value)(l:List Cl)(T:List (List Int))(p:Int)(hv:au g v l)(hf:di l)(hw:∀ c∈l,cN c.id)(ht:aI g tv T)(hT:T.length<1099511627776)(hTl:∀ t∈T,t.length<1099511627776)(hp2:2≤p)(hp9:p<9) :
  Ctr Tryz.prog E 12 #[.agg #[v],tv,vi p] g s (fun x g' s'=>s=s'∧Le g g'∧∃ u,x = .tuple #[u,vi (ce l T p)]∧Pgs g' u (cw l T p)):=by
 obtain ⟨vp,vc,rfl⟩:=hv.form;have hnone:ce l T p≠0→cw l T p=[]:=fun h=>by unfold cw; rw[zf6 h]
 refine za9 (args:=[.agg #[.slice vp l.length vc],tv,vi p]) func12 I ntmps12 (bE I) ?_;refine rZ (bW (bO I) fun b3=>?_);refine lA I (aT I (sQ (sW I (lW (cL call29 I (mG E g _ p hp2 hp9)) ?_))));rintro _ _ _ ⟨rfl,rfl,rfl⟩;refine lU (SU.not I) (tZ ?_);refine iQ I (fun hpr=>?_) (fun hpr=>?_)
 ·have hpr:iw p=false:=by simpa using hpr
  refine rZ (lA I (aT I (rE (tR ?_))));have he:ce l T p=46:=by unfold ce; rw[zf6 hpr]
  refine dR (s':=s) uR ?_;exact ST.ret2 (.inl I) results12 I I ⟨I,zb7 g,_,by rw[he],by rw[hnone (by rw[he]; decide)]; exact Pgs.nil g⟩
 ·have hpr:iw p=true:=by simpa using hpr
  have hp:=fk.1 hpr;refine kP (tN (rZ (lK (qV 0 bh az I I I) (lM I (lW (cL call30 I (kZ E hE g _ _ tv l T hv hf hw ht hT hTl)) ?_)))));rintro _ g1 _ ⟨rfl,hle1,pv,rfl,hcov⟩;refine lM I (yX I (yX I (lA I (aT I (sQ (sW I (lU (nQ I I) (tZ ?_))))))));refine iP I (fun hop=>?_) (fun hop=>?_)
  ·refine sW I (lA I (aT I (rE (tR ?_))));have he:ce l T p=dE l T:=by unfold ce; rw[zf5 (by rw[hpr]; simp),zf6 hop]
   refine dR (s':=s) uR ?_;exact ST.ret2 (.inl I) results12 I I ⟨I,hle1,_,by rw[he]; rfl,by rw[hnone (by rw[he]; exact hop)]; exact Pgs.nil _⟩
  ·have hop0:dE l T=0:=zg5 hop;have hcov:=hcov hop0;obtain ⟨hok,hT6⟩:=iK hop0;have hRt:=jZ hok;have hLt:ae l=aa l:=a8 hRt.asc;have hRt:Rt (ae l):=by rw[hLt]; exact hRt
   have hBf:=bZ (lc hRt hT6);have hBlt:=vk hRt hT6;have hdim:=ve hok;refine kP (tN (sW I (lW (cL call31 I (lI E g1 _ pv (ae l) T hcov hRt hT6)) ?_)));rintro _ g2 _ ⟨rfl,hle2,u,rfl,hu⟩;obtain ⟨up,uc,rfl⟩:=hu.form;refine bW (aL zk6) fun b10=>?_;refine oZ (sK 0 az I I I I I ⟨I,trivial⟩) (tZ (sQ (rZ (lK (qV 0 bh az I I I) (lW (cL call24 I (gX E g2 _ _ (eu (ae l) T) hu hBf)) ?_)))));rintro _ _ _ ⟨rfl,rfl,rfl⟩;refine lM I (yX I (yX I (lA I (aT I (sW I (lU (nQ I I) (tZ ?_)))))));refine iP I (fun hbl=>?_) (fun hbl=>?_)
   ·refine rZ (lA I (aT I (rE (tR ?_))));have he:ce l T p=2:=by unfold ce; rw[zf5 (by rw[hpr]; simp),zf5 hop,zf6 (.inl hbl)]
    refine dR (s':=s) uR ?_;exact ST.ret2 (.inl I) results12 I I ⟨I,hle1.trans hle2,_,by rw[he],by rw[hnone (by rw[he]; decide)]; exact Pgs.nil _⟩
   ·have hBR:Rt (eu (ae l) T):=by
     have:=jZ (zg5 hbl);unfold eu at this ⊢;rwa [eK] at this
    generalize hBd:eu (ae l) T=B at *;obtain ⟨us,hus,hallu⟩:=hu;have hul:=hallu.length;obtain ⟨bc,mc,cv,iv,rfl,hbc,-⟩:=id hcov;refine kP (tN (sW I (lM I (lW (SO.mkMap) ?_))));rintro _ _ _ ⟨b46,rfl,rfl,rfl⟩;refine lW (SO.mkKn (F:=fun a low dim=>eS (rkP p) T.length B a low dim)) ?_;rintro _ _ _ ⟨b47,rfl,rfl,rfl⟩;refine lU (za1 I (build72 _ _ _ _)) (bW (bO I) fun b49=>?_);refine aT I (sQ (rZ (lU (fA cJ I bQ I) (lK (qL (v:=.slice up B.length uc) dI I (cO 3 I I)) (lU (eN aN I) (lM I (tZ (bK ?_))))))));refine oP (ι:=Nat×Mk) (fun z=>[(3,pp b3 0),(8,pp bc 0),(10,pp b10 0),(13,pp b49 0),(51,.slice up B.length uc),(52,vi B.length),(53,vi z.1)]) (fun _=>g2) (fun z=>pt b49 (.cells #[pp bc 0,vi p,.map (some b46),.map (some b47)] 72 (0,0))::knE b47 (fun a low dim=>eS (rkP p) T.length B a low dim)::mp b46 (lT z.2)::pt b10 (.cells #[.slice up B.length uc] 30 (0,0))::pt b3 (.cells #[.slice vp l.length vc] 30 (0,0))::(ep z.2++s)) (fun z=>z.1≤us.length∧(∀ d,kB (mg z.2) d=(us.take z.1).filter fun r=>decide (r.dim=d))∧∀ d:Int,((us.take z.1).filter fun r=>decide (r.dim=d)).length≤200) (fun z=>us.length - z.1) (0,[]) sB I I ⟨zf2 _,fun _=>I,fun _=>by simp⟩ ?_;rintro ⟨k,ms⟩ ⟨hk,hcon,hcnt⟩;dsimp only at hk hcon hcnt ⊢;refine rZ (yL I (tZ (sQ ?_)));refine iP I (fun hlt=>?_) (fun hlt=>?_)
    ·have hkr:k<us.length:=oM;have hkB:k<B.length:=oM;have hb1:=za4 hus oM;have hgr:us[((k:Nat):Int).toNat]?=some us[k]:=gE hkr;have hsn:=wn hkr;have hR:=hallu.get (gE hkB) (gE hkr);have hmB:B[k]∈B:=gM hkB;have hfB:=(kz hallu B[k].dim).length;have hsub:∀ d:Int,((us.take (k+1)).filter fun r=>decide (r.dim=d)).length≤(us.filter fun r=>decide (r.dim=d)).length:=fun d=>((List.take_sublist _ _).filter _).length_le;have hlB:=hBR.few;generalize us[k]=x at *;generalize B[k]=y at *;obtain ⟨xi,xd,xp,xn,xc⟩:=x;obtain ⟨-,hyd,-⟩:=hR;dsimp only at hyd hsn;obtain ⟨ms1,j0,v0,l0,hp0,hp1,hp2,hp3,hp4,-,hp5⟩:=Ax ms xd;have hl0:l0.length≤200:=by rw[← hp0,hcon]; exact hcnt _
     have hl1:((us.take (k+1)).filter fun r=>decide (r.dim=xd))=l0++[⟨xi,xd,⟨xp,xn,xc⟩⟩]:=by rw[hsn,zf6 rfl,← hp0,hcon]
     refine kP (tN (sQ (bK (rZ (lU (iA aN aC I I hb1 oM sL) (lK (eA eL aC I (za5 hus) hgr) (bW (aL zk8) fun b15=>?_)))))));refine oZ (sK 0 aC I I I I I sB) (tZ (sQ ?_));refine SC.to (fun w hw=>hp5 E g2 [pt b15 (.cells #[vi xi,vi xd,.slice xp xn xc] 63 (0,0)),pt b49 (.cells #[pp bc 0,vi p,.map (some b46),.map (some b47)] 72 (0,0)),knE b47 (fun a low dim=>eS (rkP p) T.length B a low dim),mp b46 (lT ms),pt b10 (.cells #[.slice up B.length uc] 30 (0,0)),pt b3 (.cells #[.slice vp l.length vc] 30 (0,0))] s w hw) ?_;refine SC.drawT 6 [16] [(0,2),(1,2),(2,2),(3,1),(4,2),(5,1),(6,2),(7,2),(8,2),(9,1),(10,2),(11,1),(12,1),(13,1),(14,0),(15,0),(16,0)] zd8 kR ?_;refine yM rfl (pU rfl (nC rfl) (pU rfl (fA rA rfl sizeOf69 rfl) (pK rfl (qL (v:=.map (some b46)) isAgg69 rfl (cO 1 rfl rfl)) (pU rfl (fA am rfl zT3 rfl) (pK rfl (qL (v:=vi xd) iT3 rfl (cO 0 rfl rfl)) (yM rfl (pU rfl (nC rfl) (pU rfl (fA rA rfl sizeOf69 rfl) (pK rfl (qL (v:=.map (some b46)) isAgg69 rfl (cO 1 rfl rfl)) (pU rfl (fA am rfl zT3 rfl) (pK rfl (qL (v:=vi xd) iT3 rfl (cO 0 rfl rfl)) (pK rfl (SQ.eq (v':=v0) (SQ.lookup mty69 rfl rfl (cH.own 3 rfl)) hp2) (pK rfl (qV 0 eL aC rfl rfl rfl) (SP.o rfl (bS sty28 rfl rfl rfl (ab ⟨rfl,trivial⟩) dC) dC (.inr (by rintro _ _ _ ⟨b71,rfl,rfl,rfl⟩; exact⟨by exact zb7 _,(by exact .cons _ (List.take_sublist _ _))⟩)) ?_))))))))))))));rintro _ _ _ ⟨b71,rfl,rfl,rfl⟩;refine SP.o rfl (aP (e:=encCell) (l:=l0) (j0+6) ⟨xi,xd,⟨xp,xn,xc⟩⟩ sty28 rfl rfl rfl (vJ hp1 s) rfl oM oM) dC (.inr (by rintro v72 _ _ ⟨rfl,rfl⟩; exact⟨by exact zb7 _,(by exact eV _ _ _ _)⟩)) ?_;rintro v72 _ _ ⟨rfl,rfl⟩;refine zc7 fun ⟨w0,hw0⟩=>?_;obtain ⟨q72,d72,rfl⟩:=ag (e:=encCell) (l:=l0++[⟨xi,xd,⟨xp,xn,xc⟩⟩]) (i:=j0+6) hw0 (y5 hp1 s rfl);clear hw0 w0;refine SP.on I (SO.mapUpdate 3 mty69 I I I I) (.inl dC) ?_;rintro _ _ _ ⟨rfl,rfl⟩;refine pN (tN (sQ (SC.drop (s':=pt b15 (.cells #[vi xi,vi xd,.slice xp xn xc] 63 (0,0))::pt b49 (.cells #[pp bc 0,vi p,.map (some b46),.map (some b47)] 72 (0,0))::knE b47 (fun a low dim=>eS (rkP p) T.length B a low dim)::mp b46 (lT (ms1.set j0 (xd,Value.slice q72 (l0++[(⟨xi,xd,⟨xp,xn,xc⟩⟩:Rc)]).length d72,l0++[(⟨xi,xd,⟨xp,xn,xc⟩⟩:Rc)])))::pt b10 (.cells #[.slice up B.length uc] 30 (0,0))::pt b3 (.cells #[.slice vp l.length vc] 30 (0,0))::(ep (ms1.set j0 (xd,Value.slice q72 (l0++[(⟨xi,xd,⟨xp,xn,xc⟩⟩:Rc)]).length d72,l0++[(⟨xi,xd,⟨xp,xn,xc⟩⟩:Rc)]))++s)) (by rw[← hp3,← vI hp1 s]; exact .refl _) ?_)));refine dW [] [(0,2),(1,2),(2,2),(3,1),(4,2),(5,1),(6,1),(7,2),(8,2)] zd8 kR ?_;refine yM I (pU I (nC I) (pU I (fA rA I sizeOf69 I) (pK I (qL (v:=.map (some b46)) isAgg69 I (cO 1 I I)) (pU I (fA am I zT3 I) (pK I (qL (v:=vi xd) iT3 I (cO 0 I I)) (pK I (SQ.eq (v':=Value.slice q72 (l0++[(⟨xi,xd,⟨xp,xn,xc⟩⟩:Rc)]).length d72) (SQ.lookup mty69 I I (cH.own 3 I)) (by rw[← hp3,vU,zf6 I]; rfl)) ?_))))));refine pU I (eN aN I) (pU I (gR I I) (pN (tN ?_)));refine iP I (fun hbig=>?_) (fun hbig=>?_)
     ·have hmany:py B=true:=uT hmB (by
       rw[hfB,← hyd];have:=hsub xd;rw[hl1] at this;omega)
      have he:ce l T p=2:=by unfold ce; rw[zf5 (by rw[hpr]; simp),zf5 hop,hBd,zf6 (.inr hmany)]
      refine rZ (lA I (aT I (rE (bR (tR (tR (bR (tR (dR (s':=s) (.cons _ (.cons _ (.cons _ (.cons _ (.cons _ (.cons _ (List.sublist_append_right _ _))))))) ?_)))))))));exact ST.ret2 (.inl I) results12 I I ⟨I,hle1.trans hle2,_,by rw[he],by rw[hnone (by rw[he]; decide)]; exact Pgs.nil _⟩
     ·refine kP (bN (tN (rG (yD I (lM I (nL (dR (.cons _ (.refl _)) ?_)))))));exact gA (k+1,(ms1.set j0 (xd,Value.slice q72 (l0++[(⟨xi,xd,⟨xp,xn,xc⟩⟩:Rc)]).length d72,l0++[(⟨xi,xd,⟨xp,xn,xc⟩⟩:Rc)]))) sB I I ⟨by dsimp only; omega,fun d=>by
       dsimp only;rw[hp4,r8,hcon,hcon,hsn];by_cases e:d=xd
       ·subst e; rfl
       ·rw[zf5 e,zf5 e],fun d=>by
       dsimp only;by_cases e:d=xd
       ·rw[e,hl1]; omega
       ·rw[hsn,zf5 e]; exact hcnt d⟩ (by dsimp only; omega)
    ·have hke:k=us.length:=oM;subst hke;rw[List.take_length] at hcon hcnt;refine xI (tX (tX (bX (tN (sQ (SC.freeze fun g3 hl3 hb49=>?_))))));refine cP (s':=mp b46 (lT ms)::pt b10 (.cells #[.slice up B.length uc] 30 (0,0))::pt b3 (.cells #[.slice vp l.length vc] 30 (0,0))::(ep ms++knE b47 (fun a low dim=>eS (rkP p) T.length B a low dim)::s)) (List.perm_middle (a:=knE b47 (fun a low dim=>eS (rkP p) T.length B a low dim)) (l₁:=mp b46 (lT ms)::pt b10 (.cells #[.slice up B.length uc] 30 (0,0))::pt b3 (.cells #[.slice vp l.length vc] 30 (0,0))::ep ms) (l₂:=s)).symm ?_;refine SC.freezeMap fun g4 hl4 hmp=>?_;refine SC.freeze fun g5 hl5 hb10=>?_;refine SC.freeze fun g6 hl6 hb3=>?_;refine SC.freezeKs fun g7 hl7 hks=>?_;refine rG (aT I (sQ (sW I (lU (nC I) (lU (fA lP I zT3 I) (lK (qL (v:=vi T.length) iT3 I (cK ((hle2.trans (hl3.trans (hl4.trans (hl5.trans (hl6.trans hl7))))) _ _ hbc) I)) (lM I (tZ (bK ?_)))))))));have hcnt':∀ d:Int,(B.filter fun c=>decide (c.dim=d)).length≤200:=fun d=>by
      rw[(kz hallu d).length];exact hcnt d
     have hno:py B=false:=zr hcnt';have hl57:=hl5.trans (hl6.trans hl7);have hl37:=hl4.trans hl57;have hl27:=hl3.trans hl37;have hspec:rz g7 (pp b49 0) (ae l) T p B b47:=⟨b49,b46,pp bc 0,rfl,hl37 _ _ hb49,hcov.mono (hle2.trans hl27),Al (hmp.mono hl57) hks (hallu.mono fun _ _=>ao.mono hl27) hcon⟩;have hbc7:=(hle2.trans hl27) _ _ hbc;have hb37:=hl7 _ _ hb3;have hv7:=hv.mono (hle1.trans (hle2.trans hl27));have hBok:Bok T.length B:=⟨hBR,hBlt,hcnt'⟩;have hD:um l+1=((dimN l:Nat):Int):=by unfold dimN um at *; omega
     have hD9:dimN l≤9:=oM;have he:ce l T p=0:=by unfold ce; rw[zf5 (by rw[hpr]; simp),zf5 hop,hBd,zf5]; rw[hno]; rintro (h | h); exact hbl h; cases h
     have hC:cw l T p=hZ (iy (rkP p) T.length B (dimN l)):=by unfold cw; rw[zf5 (by rw[he]; simp),hBd]
     generalize dimN l=D at *;refine zb4 22 1 ?_;refine oP (ι:=PH×Nat×Value×List Sv) (fun z=>[(3,pp b3 0),(8,pp bc 0),(13,pp b49 0),(16,z.2.2.1),(86,vi T.length),(87,vi z.2.1)]) (fun z=>z.1) (fun z=>rowA bq 22 z.2.2.1 z.2.2.2::knE b47 (fun a low dim=>eS (rkP p) T.length B a low dim)::s) (fun z=>Le g7 z.1∧z.2.1≤T.length∧ar (fun (Q:List (List Int)) (r:Sv)=>aI z.1 (.slice r.p r.n r.c) Q) ((List.range z.2.1).map fun r:Nat=>wL (rkP p) T.length B D ((r:Int)+1)) z.2.2.2) (fun z=>T.length - z.2.1) (g7,0,.slice none 0 0,[]) sB I I ⟨zb7 _,zf2 _,trivial⟩ ?_;rintro ⟨g8,k2,ov,os⟩ ⟨hle8,hk2,hacc⟩;dsimp only at hle8 hk2 hacc ⊢;have hol:=hacc.length;rw[ze2,zh9] at hol;refine rZ (yL I (tZ (sQ ?_)));refine iP I (fun hlt=>?_) (fun hlt=>?_)
     ·refine kP (tN (sQ (bK (sW I (aT I (rZ (aT I (sQ (sW I (lU (nC I) (lU (fA lP I zT3 I) (lK (qL (v:=vi T.length) iT3 I (cK (hle8 _ _ hbc7) I)) (lM I (tZ (bK (zb4 25 1 ?_))))))))))))))));refine oP (ι:=PH×Nat×Value×List Sv) (fun z=>[(3,pp b3 0),(8,pp bc 0),(13,pp b49 0),(16,ov),(17,vi k2),(18,z.2.2.1),(86,vi T.length),(87,vi k2),(93,vi T.length),(94,vi z.2.1)]) (fun z=>z.1) (fun z=>rowA bq 25 z.2.2.1 z.2.2.2::rowA bq 22 ov os::knE b47 (fun a low dim=>eS (rkP p) T.length B a low dim)::s) (fun z=>Le g8 z.1∧z.2.1≤T.length∧ar (bC z.1) ((List.range z.2.1).map fun a:Nat=>(List.range D).map fun b:Nat=>ui (rkP p) T.length B ((k2:Int)+1) a b) z.2.2.2) (fun z=>T.length - z.2.1) (g8,0,.slice none 0 0,[]) sB I I ⟨zb7 _,zf2 _,trivial⟩ ?_;rintro ⟨g9,k3,pv,ps⟩ ⟨hle9,hk3,hac2⟩;dsimp only at hle9 hk3 hac2 ⊢;have hpl:=hac2.length;rw[ze2,zh9] at hpl;have hle79:=hle8.trans hle9;refine rZ (yL I (tZ (sQ ?_)));refine iP I (fun hlt3=>?_) (fun hlt3=>?_)
      ·refine kP (tN (sQ (bK (sW I (aT I (rZ (aT I (sQ (rZ (lK (SQ.loadOne bh az I (cK (hle79 _ _ hb37) I)) (lW (cL call32 I (sk E g9 _ (.slice vp l.length vc) l (hv7.mono hle79) hf)) ?_)))))))))));rintro _ g10 _ ⟨rfl,rfl,hle10⟩;refine lU (SU.eq (v':=vi D) (aD I I oM) (zd7 vi hD)) (lM I (tZ (bK (zb4 3 1 ?_))));refine oP (ι:=PH×Nat×Value) (fun z=>[(3,pp b3 0),(8,pp bc 0),(13,pp b49 0),(16,ov),(17,vi k2),(18,pv),(19,vi k3),(20,z.2.2),(86,vi T.length),(87,vi k2),(93,vi T.length),(94,vi k3),(99,vi D),(100,vi z.2.1)]) (fun z=>z.1) (fun z=>rowA encInt 3 z.2.2 ((List.range z.2.1).map fun b:Nat=>ui (rkP p) T.length B ((k2:Int)+1) k3 b)::rowA bq 25 pv ps::rowA bq 22 ov os::knE b47 (fun a low dim=>eS (rkP p) T.length B a low dim)::s) (fun z=>Le g10 z.1∧z.2.1≤D) (fun z=>D - z.2.1) (g10,0,.slice none 0 0) sB I I ⟨zb7 _,zf2 _⟩ ?_;rintro ⟨g11,k4,iv⟩ ⟨hle11,hk4⟩;dsimp only at hle11 hk4 ⊢;have hle711:=hle79.trans (hle10.trans hle11);have hil:((List.range k4).map fun b:Nat=>ui (rkP p) T.length B ((k2:Int)+1) k3 b).length=k4:=by rw[ze2,zh9]
       refine rZ (yL I (tZ (sQ ?_)));refine iP I (fun hlt4=>?_) (fun hlt4=>?_)
       ·refine kP (tN (sQ (bK (sW I (aT I (rG (lM I (lM I (lM I (yD I (lM I (lM I (lW (cL call33 I (qM E g11 _ (pp b49 0) (ae l) T p hp B b47 3 ((k2:Int)+1) k3 k4 (hspec.mono hle711) hBok hT6 I oM oM oM)) ?_)))))))))))));rintro _ g12 _ ⟨rfl,rfl,hle12⟩;refine lW (bS sty25 I I I (ab ⟨I,trivial⟩) dC) ?_;rintro _ _ _ ⟨b110,rfl,rfl,rfl⟩;refine lW (aP (e:=encInt) (l:=(List.range k4).map fun b:Nat=>ui (rkP p) T.length B ((k2:Int)+1) k3 b) 0 (ui (rkP p) T.length B ((k2:Int)+1) k3 k4) sty25 I I I I I oM oM) ?_;rintro v111 _ _ ⟨rfl,rfl⟩;refine lA I (nL (bN (tN (rG (yD I (lM I (nL ?_)))))));exact gA (g12,k4+1,v111) sB I (by dsimp only; rw[jJ]; rfl) ⟨hle11.trans hle12,by dsimp only; omega⟩ (by dsimp only; omega)
       ·have hke4:k4=D:=oM;subst hke4;refine fS fun g12 hle12 hs12=>?_;obtain ⟨q12,c12,rfl⟩:=Sl.form hs12;rw[hil] at hs12 ⊢;refine xI (tX (tX (bX (tN (rG (lM I (lM I (lW (bS sty22 I I I (ab ⟨I,trivial⟩) dC) ?_))))))));rintro _ _ _ ⟨b115,rfl,rfl,rfl⟩;refine lW (aP (e:=bq) (l:=ps) 0 ⟨q12,k4,c12⟩ sty22 I I I I I oM oM) ?_;rintro v116 _ _ ⟨rfl,rfl⟩;refine lA I (nL (bN (tN (rG (yD I (lM I (nL ?_)))))));exact gA (g12,k3+1,v116,ps++[⟨q12,k4,c12⟩]) sB I I ⟨hle9.trans (hle10.trans (hle11.trans hle12)),by dsimp only; omega,by
         dsimp only;rw[jJ];refine (hac2.mono fun _ _=>bC.mono (hle10.trans (hle11.trans hle12))).append ⟨?_,trivial⟩;show Sl _ _ _ _ _;rw[hil];exact hs12⟩ (by dsimp only; omega)
      ·have hke3:k3=T.length:=oM;subst hke3;refine fS fun g10 hle10 hs10=>?_;obtain ⟨q10,c10,rfl⟩:=Sl.form hs10;refine xI (tX (tX (bX (tN (rG (lM I (lM I (lW (bS sty37 I I I (ab ⟨I,trivial⟩) dC) ?_))))))));rintro _ _ _ ⟨b120,rfl,rfl,rfl⟩;refine lW (aP (e:=bq) (l:=os) 0 ⟨q10,ps.length,c10⟩ sty37 I I I I I oM oM) ?_;rintro v121 _ _ ⟨rfl,rfl⟩;refine lA I (nL (bN (tN (rG (yD I (lM I (nL ?_)))))));exact gA (g10,k2+1,v121,os++[⟨q10,ps.length,c10⟩]) sB I I ⟨hle8.trans (hle9.trans hle10),by dsimp only; omega,by
        dsimp only;rw[jJ];exact (hacc.mono fun _ _ h=>h.mono (hle9.trans hle10)).append ⟨⟨ps,hs10,hac2.mono fun _ _=>bC.mono hle10⟩,trivial⟩⟩ (by dsimp only; omega)
     ·have hke2:k2=T.length:=oM;subst hke2;have hacc:ar (fun (Q:List (List Int)) (r:Sv)=>aI g8 (.slice r.p r.n r.c) Q) (iy (rkP p) T.length B D) os:=hacc;have hPAl:=mL (rf:=rkP p) (n:=T.length) (B:=B) (D:=D);have hPAs:=pH (rf:=rkP p) (n:=T.length) (B:=B) (D:=D);rw[hC];generalize iy (rkP p) T.length B D=PA at *;refine fS fun g9 hle9 hs9=>?_;obtain ⟨q9,c9,rfl⟩:=Sl.form hs9;have hacc:=hacc.mono fun _ _ h=>aI.mono h hle9;refine xI (tX (tX (bX (tN (rZ (aT I (sQ (bK ?_))))))));refine oP (ι:=Nat×Option Addr×Nat) (fun z=>[(16,.slice z.2.1 z.1 z.2.2),(22,.func (.func 34) #[] #[])]) (fun _=>g9) (fun _=>knE b47 (fun a low dim=>eS (rkP p) T.length B a low dim)::s) (fun z=>z.1≤os.length∧SlA bq g9 (.slice z.2.1 z.1 z.2.2) (os.take z.1)∧hZ (PA.take z.1)=hZ PA) (fun z=>z.1) (os.length,q9,c9) sB I I ⟨lR _,by dsimp only; rw[List.take_length]; exact hs9,by dsimp only; rw[← hol,← hPAl,List.take_length]⟩ ?_;rintro ⟨m,q,c⟩ ⟨hm,hsm,htr⟩;dsimp only at hm hsm htr ⊢;by_cases h1:1<m
      ·have hst:=vw (P:=PA) h1 oM;have hP1:PA[m - 1]'oM∈PA:=gM _;have hP2:PA[m - 2]'oM∈PA:=gM _;have hL1:=hacc.get (gE (i:=m - 1) oM) (gE (i:=m - 1) oM);have hL2:=hacc.get (gE (i:=m - 2) oM) (gE (i:=m - 2) oM);have hg1:(os.take m)[((m:Int) - 1).toNat]?=some (os[m - 1]'oM):=by
        rw[show ((m:Int) - 1).toNat=m - 1 by omega,zh6,zf6 oM];exact gE _
       have hg2:(os.take m)[((m:Int) - 2).toNat]?=some (os[m - 2]'oM):=by
        rw[show ((m:Int) - 2).toNat=m - 2 by omega,zh6,zf6 oM];exact gE _
       generalize PA[m - 1]'oM=Q1 at *;generalize PA[m - 2]'oM=Q2 at *;generalize os[m - 1]'oM=r1 at *;generalize os[m - 2]'oM=r2 at *;obtain ⟨p1,n1,c1⟩:=r1;obtain ⟨p2,n2,c2⟩:=r2;have hbm:=za4 hsm (by rw[zd9]; omega);have hmc:=(SlA.cap hsm).2;rw[zd9,Nat.min_eq_left hm] at hmc;have hcut:=SlA.cut (l:=0) (m:=m - 1) (k:=1) (e:=bq) (xs:=os.take m) (p:=q) (c:=c) (g:=g9) (by rw[zd9,Nat.min_eq_left hm]; exact hsm) (zf2 _) (by rw[zd9]; omega);rw[List.drop_zero,Nat.sub_zero,List.take_take,Nat.min_eq_left oM] at hcut;obtain ⟨q',c',hq'⟩:=za2 hcut;rw[zd9,Nat.min_eq_left oM] at hq';rw[hq'] at hcut;refine sQ (sQ ?_);refine dW [] [(0,2),(1,2),(2,2),(3,2),(4,2),(5,2),(6,2),(7,2),(8,2),(9,2),(10,1),(11,2),(12,2),(13,2),(14,2),(15,2),(16,1),(17,0),(18,2)] zd8 kR ?_;refine yM I (pU I (eN mf I) (pU I (SU.eq (v':=vb true) (gR I I) (zd7 vb (zf4 oM))) (yM I (yJ I (yJ I (yJ I (zb1 I (gT I I I dC) (eN mf I) dC (zb1 I (gT I I I dC) (sU I I oM) dC (zb1 I (gT I I I dC) (iA mf ow I I hbm oM sL) dC (SP.gq I (gT I I I dC) (eB (u:=.slice p1 n1 c1) isAgg22 I (za5 hsm) hg1 I) dC (yJ I (yJ I (zb1 I (gT I I I dC) (eN mf I) dC (zb1 I (gT I I I dC) (sU I I oM) dC (zb1 I (gT I I I dC) (iA mf ow I I hbm oM sL) dC (SP.gq I (gT I I I dC) (eB (u:=.slice p2 n2 c2) isAgg22 I (za5 hsm) hg2 I) dC (SP.go I (gT I I I dC) (SO.callV I I (cz.mk (cap:=[]) call34 (pG E g9 _ (.slice p1 n1 c1) (.slice p2 n2 c2) Q1 Q2 hL1 hL2 (by rw[(hPAs _ hP1).1]; omega) (fun x hx=>by rw[(hPAs _ hP1).2 x hx]; omega) (by rw[(hPAs _ hP2).1]; omega)))) dC (.inr iR) ?_)))))))))))))))));rintro _ _ _ ⟨rfl,rfl,rfl⟩;refine pU I (wT I I) (pN (tN ?_));refine iQ I (fun heq=>?_) (fun heq=>?_)
       ·rw[zf6 (by simpa using heq)] at hst;refine kP (tN (bK (rG (lM I (lM I (lU (eN mf I) (lU (sU I I oM) (lU (SU.eq (v':=.slice q' (m - 1) c') (SU.sliceH mf ow I I oM oM) (by rw[show ((m:Int) - 1).toNat=m - 1 by omega]; exact hq')) ?_))))))));refine lA I (nL (bN ?_));exact gA (m - 1,q',c') sB I I ⟨by dsimp only; omega,hcut,by dsimp only; rw[← hst]; exact htr⟩ (by dsimp only; omega)
       ·rw[zf5 (by simpa using heq)] at hst;refine xI (tX (tX (bX (tN (sW I (lA I (aT I (rE (dR (s':=s) uR ?_)))))))));exact ST.ret2 (.inl I) results12 I I ⟨I,hle1.trans (hle2.trans (hl27.trans (hle8.trans hle9))),_,by rw[he],by rw[← htr,hst]; exact⟨os.take m,hsm,ar.take m hacc⟩⟩
      ·have hst:=wW (P:=PA) h1;refine sQ (sQ ?_);refine dW [] [(0,2),(1,2),(2,2),(3,2),(4,2),(5,2),(6,2),(7,2),(8,2),(9,2),(10,1),(11,2),(12,2),(13,2),(14,2),(15,2),(16,1),(17,0),(18,2)] zd8 kR ?_;refine yM I (pU I (eN mf I) (pU I (SU.eq (v':=vb false) (gR I I) (zd7 vb (zf3 oM))) (yM I (yG I (yG I (yG I (yG I (yG I (yG I (yI I (yG I (yG I (yG I (yG I (yG I (yI I (fO I (gZ I I I dC) dC ⟨by exact zb7 _,(by exact .refl _)⟩ ?_)))))))))))))))));refine pU I (wF I I) (pN (tN (cF I (xI (tX (tX (bX (tN (sW I (lA I (aT I (rE (dR (s':=s) uR ?_)))))))))))));exact ST.ret2 (.inl I) results12 I I ⟨I,hle1.trans (hle2.trans (hl27.trans (hle8.trans hle9))),_,by rw[he],by rw[← htr,hst]; exact⟨os.take m,hsm,ar.take m hacc⟩⟩
structure PgOk (l:List Cl)(T:List (List Int))(p:Int):Prop where
 fp:Fp p
 opn:dE l T=0
 few:T.length≤6
 bok:Bok T.length (eu (ae l) T)
 dim:um l+1=((dimN l:Nat):Int)
 dims:dimN l≤9
 eq:cw l T p=hZ (iy (rkP p) T.length (eu (ae l) T) (dimN l))
theorem qY {B:List Cl}(h:py B=false)(d:Int):(B.filter fun c=>decide (c.dim=d)).length≤200:=by
 cases hd:B.filter (fun c=>decide (c.dim=d)) with
 | nil=>simp
 | cons c q =>
  have hc:c∈B.filter fun c=>decide (c.dim=d):=by rw[hd]; simp
  obtain ⟨h1,h2⟩:=zg9.1 hc;have h2:c.dim=d:=zf8 h2;subst h2;rw[← hd];refine Nat.le_of_not_lt fun h3=>?_;rw[uT h1 h3] at h;cases h
theorem rS {l:List Cl}{T:List (List Int)}{p:Int}(h:ce l T p=0):PgOk l T p:=by
 have hC:cw l T p=hZ (iy (rkP p) T.length (eu (ae l) T) (dimN l)):=by unfold cw; rw[zf5 (by rw[h]; simp)]
 unfold ce at h;split at h
 ·cases h
 ·rename_i hpr;split at h
  ·rename_i hop; exact absurd h hop
  ·rename_i hop;have hop:=zg5 hop;split at h
   ·cases h
   ·rename_i hbl;have hbl1:(aU (eu (ae l) T)).2=0:=zg5 fun k=>hbl (.inl k);have hmany:py (eu (ae l) T)=false:=Bool.eq_false_iff.2 fun k=>hbl (.inr k);obtain ⟨hok,hT6⟩:=iK hop;have hRt:=jZ hok;have hLt:ae l=aa l:=a8 hRt.asc;have hRt:Rt (ae l):=by rw[hLt]; exact hRt
    have hBR:Rt (eu (ae l) T):=by
     have:=jZ hbl1;unfold eu at this ⊢;rwa [eK] at this
    have hdim:=ve hok;have hD:um l+1=((dimN l:Nat):Int):=by unfold dimN um at *; omega
    exact⟨fk.1 (by simpa using hpr),hop,hT6,⟨hBR,vk hRt hT6,qY hmany⟩,hD,oM,hC⟩
theorem oA {α:Type}[DecidableEq α]:∀ {l:List α} {x:α},x∈l8 l→x∈l
 | [],_,h=>h
 | [_],_,h=>h
 | a::b::l,x,h=>by
  unfold l8 at h;split at h
  ·exact List.mem_cons_of_mem _ (oA h)
  ·exact h
theorem vx {α:Type}[DecidableEq α]{l:List α}{x:α}(h:x∈hZ l):x∈l:=by
 unfold hZ at h;rw[List.mem_reverse] at h;have:=oA h;rwa [List.mem_reverse] at this
theorem oB {α:Type}[DecidableEq α]:∀ {l:List α},(l8 l).length≤l.length
 | []=>lR _
 | [_]=>lR _
 | a::b::l=>by
  unfold l8;split
  ·exact zk1 oB (Nat.le_succ _)
  ·exact lR _
theorem vy {α:Type}[DecidableEq α]{l:List α}:(hZ l).length≤l.length:=by
 unfold hZ;rw[List.length_reverse];have:=oB (l:=l.reverse);rwa [List.length_reverse] at this
theorem zn {p:Int}(hp:Fp p){n:Nat}{B:List Cl}(hB:Bok n B)(r a b:Int):(ui (rkP p) n B r a b).natAbs≤800:=by
 have hbd:=rK hp hB;have b1:=hbd a (a - r) (a+b);have b2:=hbd (a - 1) (a - r) (a+b);have b3:=hbd (a+r - 1) a (a+b+1);have b4:=hbd (a+r - 1) (a - 1) (a+b+1);unfold ui;omega
theorem xu {l:List Cl}{T:List (List Int)}{p:Int}(h:ce l T p=0):∀ Q∈cw l T p,Q.length=T.length∧∀ x∈Q,x.length=dimN l∧∀ y∈x,y.natAbs≤800:=fun Q hQ=>by
 have ho:=rS h;rw[ho.eq] at hQ;obtain ⟨r,-,rfl⟩:=ze7.1 (vx hQ);refine⟨oL,fun x hx=>?_⟩;obtain ⟨a,-,rfl⟩:=ze7.1 hx;refine⟨by rw[ze2,zh9],fun y hy=>?_⟩;obtain ⟨b,-,rfl⟩:=ze7.1 hy;exact zn ho.fp ho.bok _ _ _
theorem vQ {l:List Cl}{T:List (List Int)}{p:Int}:(cw l T p).length≤T.length:=by
 unfold cw;split
 ·exact zf2 _
 ·refine zk1 vy ?_;rw[mL];exact lR _
def pY (P:List (List Int))(d:Nat):Int:=((P.zipIdx.map fun q=>if q.2≤d then q.1.getD (d - q.2) 0 else 0)).sum
theorem eG (D:Nat)(P:List (List Int)):eJ D P=(List.range D).map (pY P):=rfl
theorem jq (P:List (List Int))(x:List Int)(d:Nat):pY (P++[x]) d=pY P d+if P.length≤d then x.getD (d - P.length) 0 else 0:=by
 unfold pY;rw[List.zipIdx_append,zg1,List.sum_append];simp
theorem xS (P:List (List Int))(d:Nat):pY (P++[[]]) d=pY P d:=by rw[jq]; simp
theorem mB {m:Nat}:∀ {q:List Int},(∀ y∈q,y.natAbs≤m)→q.sum.natAbs≤q.length * m
 | [],_=>by simp
 | y::q,h=>by
  have h1:=h y (by simp);have h2:=mB (q:=q) fun z hz=>h z (by simp[hz]);rw[List.sum_cons,ze4,Nat.succ_mul];omega
theorem zI {m:Nat}{P:List (List Int)}(h:∀ x∈P,∀ y∈x,y.natAbs≤m)(d:Nat):(pY P d).natAbs≤P.length * m:=by
 have:=mB (m:=m) (q:=P.zipIdx.map fun q=>if q.2≤d then q.1.getD (d - q.2) 0 else 0) fun y hy=>by
  obtain ⟨q,hq,rfl⟩:=ze7.1 hy;split
  ·rw[zg6];cases hx:q.1[d - q.2]? with
   | none=>simp
   | some y=>exact h q.1 (List.fst_mem_of_mem_zipIdx hq) y (zf7 hx)
  ·simp
 rwa [ze2,List.length_zipIdx] at this
theorem sA (D:Nat)(P:List (List Int))(x:List Int)(j:Nat)(hj:j<x.length):eJ D (P++[x.take (j+1)])=(eJ D (P++[x.take j])).set (P.length+j) (pY (P++[x.take j]) (P.length+j)+x[j]):=by
 rw[eG,eG];refine List.ext_getElem? fun d=>?_;rw[List.getElem?_set,zh5,zh5,ze2,zh9];by_cases hd:d<D
 ·rw[List.getElem?_range hd];show some _=if P.length+j=d then (if P.length+j<D then some (pY (P++[x.take j]) (P.length+j)+x[j]) else none) else some (pY (P++[x.take j]) d)
  rw[jq,jq,jq];have e1:x.take (j+1)=x.take j++[x[j]]:=tS hj;by_cases e:P.length+j=d
  ·subst e;rw[zf6 rfl,zf6 hd,zf6 oM,zf6 oM,Nat.add_sub_cancel_left,e1];simp[zg6,Nat.le_of_lt hj,zg8,gE hj]
  ·rw[zf5 e];congr 2;by_cases e2:P.length≤d
   ·rw[zf6 e2,zf6 e2,zg6,zg6];congr 1;rw[zh6,zh6];split <;> split <;> first | rfl | omega | skip
   ·rw[zf5 e2,zf5 e2]
 ·rw[List.getElem?_eq_none (by rw[zh9]; omega)];split
  ·rw[zf5 oM]; rfl
  ·rfl
theorem zH {D:Nat}{P:List (List Int)}{x:List Int}{j:Nat}(hj:j<x.length)(h:¬ P.length+j<D):eJ D (P++[x.take (j+1)])=eJ D (P++[x.take j]):=by
 rw[sA D P x j hj,List.set_eq_of_length_le];rw[eG,ze2,zh9];omega
theorem m5 (E:World)(hE:E.drawn=0)(g:PH)(s:Own)(v tv:Value)(l:List Cl)(T:List (List Int))(p:Int)(hv:au g v l)(hf:di l)(hw:∀ c∈l,cN c.id)(ht:aI g tv T)(hT:T.length<1099511627776)(hTl:∀ t∈T,t.length<1099511627776)(hp2:2≤p)(hp9:p<9) :
  Ctr Tryz.prog E 14 #[.agg #[v],tv,vi p] g s (fun x g' s'=>s=s'∧Le g g'∧∃ u,x = .tuple #[u,vi (ce l T p)]∧bU g' u (gL l T p)):=by
 obtain ⟨vp,vc,rfl⟩:=hv.form;refine za9 (args:=[.agg #[.slice vp l.length vc],tv,vi p]) func14 I ntmps14 (bE I) ?_;refine rZ (bW (bO I) fun b3=>?_);refine lA I (aT I (rZ (lK (qV 0 bh az I I I) (lM I (lM I (lW (cL call12 I (fm E hE g _ _ tv l T p hv hf hw ht hT hTl hp2 hp9)) ?_))))));rintro _ g1 _ ⟨rfl,hle1,u,rfl,us,hus,hall⟩;obtain ⟨up,uc,rfl⟩:=za2 hus;have hlen:=hall.length;by_cases he:ce l T p=0
 ·refine lM I (yX I (yX I (lA I (aT I (sQ (sW I (lU (SU.eq (v':=vb false) (nQ I I) (zd7 vb (by rw[he]; rfl))) ?_)))))));refine lM I (yC I (lY I I I (eN mf I) (lY I I I (eQ I I) (yF I (tZ ?_)))));refine iP I (fun h0=>?_) (fun h0=>?_)
  ·refine sW I (lA I (aT I (rE (tR ?_))));have hb:gL l T p=[]:=by unfold gL; rw[zf6 oM]
   refine dR (s':=s) uR ?_;exact ST.ret2 (.inl I) results14 I I ⟨I,hle1,_,I,by rw[hb]; exact zb8 _ _⟩
  ·have ho:=rS he;have hbd:=xu he;obtain ⟨hfp,-,hT6,hbok,hD,hD9,-⟩:=ho;have hb:gL l T p=eJ (dimN l) ((cw l T p).getLastD []):=by unfold gL; rw[zf5 oM]
   have hpf:=vQ (l:=l) (T:=T) (p:=p);have hPl:us.length - 1<(cw l T p).length:=oM;have hQ:(cw l T p)[us.length - 1]?=some ((cw l T p)[us.length - 1]):=gE hPl;have hlast:(cw l T p).getLastD []=(cw l T p)[us.length - 1]:=by
    rw[List.getLastD_eq_getLast?,List.getLast?_eq_getElem?,hlen,hQ];rfl
   have hQm:=gM hPl;have hQR:=hall.get hQ (gE (i:=us.length - 1) oM);have hgu:us[((us.length:Int) - 1).toNat]?=some (us[us.length - 1]'oM):=by
    rw[show ((us.length:Int) - 1).toNat=us.length - 1 by omega];exact gE _
   rw[hlast] at hb;have hb1:=za4 hus oM;generalize (cw l T p)[us.length - 1]=Q at *;generalize us[us.length - 1]'oM=r1 at *;obtain ⟨p1,n1,c1⟩:=r1;obtain ⟨hQl,hQx⟩:=hbd Q hQm;obtain ⟨rs,hrs,hallr⟩:=hQR;dsimp only at hrs;obtain ⟨rfl,-⟩:=SlA.cap hrs;have hrl:=hallr.length;refine kP (tN (rZ (lK (qV 0 bh az I I I) (lW (cL call32 I (sk E g1 _ (.slice vp l.length vc) l (hv.mono hle1) hf)) ?_))));rintro _ g2 _ ⟨rfl,rfl,hle2⟩;refine lU (SU.eq (v':=vi (dimN l)) (aD I I oM) (zd7 vi hD)) (lW (mK encInt 0 sty25 I I I oM oM) ?_);rintro _ _ _ ⟨bl,rfl,rfl,rfl⟩;refine aT I (sQ (sW I (lM I (lU (eN mf I) (lU (sU I I oM) (lU (iA mf ow I I hb1 oM (show ((us.length:Int) - 1)<((us.length:Nat):Int) by omega)) ?_))))));refine lK (eB (u:=.slice p1 rs.length c1) isAgg22 I (za5 (za3 hus hle2)) hgu I) (lU (eN bL I) (lM I (tZ (bK ?_))));generalize dimN l=D at *;have h00:eJ D []=List.replicate D 0:=by
    rw[eG,List.eq_replicate_iff];exact⟨by simp,fun b hb=>by obtain ⟨d,_,rfl⟩:=ze7.1 hb; rfl⟩
   rw[← h00];have hrs2:=za3 hrs hle2;refine oP (ι:=Nat) (fun a=>[(10,.slice (some ⟨bl,0,none⟩) D D),(39,.slice p1 rs.length c1),(40,vi rs.length),(41,vi a)]) (fun _=>g2) (fun a=>rowA encInt 3 (.slice (some ⟨bl,0,none⟩) D D) (eJ D (Q.take a))::pt b3 (.cells #[.slice vp l.length vc] 30 (0,0))::s) (fun a=>a≤rs.length) (fun a=>rs.length - a) 0 sB I I (zf2 _) ?_;rintro a ha;refine rZ (yL I (tZ (sQ ?_)));refine iP I (fun hlt=>?_) (fun hlt=>?_)
   ·have har:a<rs.length:=oM;have haQ:a<Q.length:=oM;have hgr:rs[((a:Nat):Int).toNat]?=some rs[a]:=gE har;have hR:=hallr.get (gE haQ) (gE har);have hb2:=za4 hrs oM;have hxm:=gM haQ;have htk:Q.take (a+1)=Q.take a++[Q[a]]:=tS haQ;have hQtl:(Q.take a).length=a:=by rw[zd9]; omega
    have hQtm:∀ y∈Q.take a,∀ z∈y,z.natAbs≤800:=fun y hy=>(hQx y (List.mem_of_mem_take hy)).2;generalize Q.take a=Qa at *;generalize Q[a]=x at *;generalize rs[a]=r at *;obtain ⟨p2,n2,c2⟩:=r;have hR:bU g1 (.slice p2 n2 c2) x:=hR;obtain ⟨rfl,-⟩:=SlA.cap hR;obtain ⟨hxl,hxb⟩:=hQx x hxm;have hR2:=za3 hR hle2;refine kP (tN (sQ (bK (sW I (lU (iA bL ci I I hb2 oM sL) (lK (eB (u:=.slice p2 x.length c2) dF I (za5 hrs2) hgr I) (lA I (aT I (sW I (lU (eN ak I) (lM I (tZ (bK ?_)))))))))))));refine oP (ι:=Nat) (fun j=>[(10,.slice (some ⟨bl,0,none⟩) D D),(11,vi a),(39,.slice p1 rs.length c1),(40,vi rs.length),(41,vi a),(46,.slice p2 x.length c2),(47,vi x.length),(48,vi j)]) (fun _=>g2) (fun j=>rowA encInt 3 (.slice (some ⟨bl,0,none⟩) D D) (eJ D (Qa++[x.take j]))::pt b3 (.cells #[.slice vp l.length vc] 30 (0,0))::s) (fun j=>j≤x.length) (fun j=>x.length - j) 0 sB I (by rw[show eJ D (Qa++[x.take 0])=eJ D Qa from zc4 fun d _=>xS Qa d]) (zf2 _) ?_;rintro j hj;refine rZ (yL I (tZ (sQ ?_)));refine iP I (fun hlt2=>?_) (fun hlt2=>?_)
    ·have hjx:j<x.length:=oM;have hb3:=za4 hR oM;have hgx:x[((j:Nat):Int).toNat]?=some x[j]:=gE hjx;have hst:=sA D Qa x j hjx;have hou:=zH (D:=D) (P:=Qa) hjx;have hyb:=hxb _ (gM hjx);rw[hQtl] at hst hou;refine kP (tN (sQ (bK (sW I (lU (iA ak zT3 I I hb3 oM sL) (lK (eB iT3 I (za5 hR2) hgx I) (lA I (aT I (sW I (lM I (yD I (lM I (lU (eN ak I) (yL I (tZ ?_)))))))))))))));refine iP I (fun hin=>?_) (fun hin=>?_)
     ·have hin':a+j<D:=oM;have hBb:=zI (P:=Qa++[x.take j]) (m:=800) (fun y hy=>by
       rcases ze8.1 hy with h | h
       ·exact hQtm y h
       ·rw[zh3] at h;subst h;exact fun z hz=>hxb z (List.mem_of_mem_take hz)) (a+j)
      rw[ze1,ze3,hQtl] at hBb;have hBk:(eJ D (Qa++[x.take j]))[((a:Int)+j).toNat]?=some (pY (Qa++[x.take j]) (a+j)):=by
       rw[show ((a:Int)+j).toNat=a+j by omega,eG,zh5,List.getElem?_range hin'];rfl
      have hBl:(eJ D (Qa++[x.take j])).length=D:=by rw[eG,ze2,zh9]
      generalize pY (Qa++[x.take j]) (a+j)=y0 at *;refine rG (lM I (lM I (lM I (yD I (lU (iA ak zT3 I I I oM sL) (lK (eB iT3 I (zb5 (e:=encInt) 0 I) hBk I) (lM I (yD I (lU (SU.eq (v':=.pointer (some ⟨bl,0+(a+j) * 1,none⟩)) (iA ak zT3 I I I oM sL) (by rw[show ((a:Int)+j).toNat=a+j by omega]; rfl)) ?_)))))))));refine oZ (sT (e:=encInt) (a:=y0+x[j]) (j:=a+j) 0 zT3 I I I (by rw[hBl]; exact hin') I) ?_;rw[← hst];refine nL (bN (tN (rG (yD I (lM I (nL ?_))))));exact gA (j+1) sB I I oM oM
     ·rw[← hou oM];refine kP (bN (tN (rG (yD I (lM I (nL ?_))))));exact gA (j+1) sB I I oM oM
    ·have hje:j=x.length:=oM;subst hje;rw[List.take_length,← htk];refine xI (tX (tX (bX (bN (tN (rG (yD I (lM I (nL ?_)))))))));exact gA (a+1) sB I I oM oM
   ·have hae:a=rs.length:=oM;subst hae;rw[← hrl,List.take_length,← hb];refine xI (tX (tX (bX (tN (sW I (lA I (aT I (rE ?_))))))));have hlb:(gL l T p).length=D:=by rw[hb,eG,ze2,zh9]
    refine fT fun g3 hle3 hs3=>?_;refine dR (s':=s) uR ?_;exact ST.ret2 (.inl I) results14 I I ⟨I,hle1.trans (hle2.trans hle3),_,by rw[he],by unfold bU SlA; rw[← hlb] at hs3 ⊢; exact hs3⟩
 ·refine lM I (yX I (yX I (lA I (aT I (sQ (sW I (lU (SU.eq (v':=vb true) (nQ I I) (zd7 vb (zf4 he))) (lM I (yA I (yA I (yA I (yP I (tZ (cT I (sW I (lA I (aT I (rE (tR ?_)))))))))))))))))));have hb:gL l T p=[]:=by
   unfold gL;rw[zf6];unfold cw;rw[zf6 he];rfl
  refine dR (s':=s) uR ?_;exact ST.ret2 (.inl I) results14 I I ⟨I,hle1,_,I,by rw[hb]; exact zb8 _ _⟩
set_option maxHeartbeats 1000000
theorem yr (g:PH):au g (.slice none 0 0) []:=⟨[],zb8 g _,trivial⟩
theorem dY (E:World)(hE:E.drawn=0)(g:PH)(s:Own)(v tv:Value)(l:List Cl)(T:List (List Int))(hv:au g v l)(hf:di l)(hw:∀ c∈l,cN c.id)(ht:aI g tv T)(hT:T.length<1099511627776)(hTl:∀ t∈T,t.length<1099511627776) :
  Ctr Tryz.prog E 23 #[.agg #[v],tv] g s (fun x g' s'=>s=s'∧Le g g'∧x=vi (dE l T)):=by
 obtain ⟨vp,vc,rfl⟩:=hv.form;refine za9 (args:=[.agg #[.slice vp l.length vc],tv]) func23 I ntmps23 (bE I) ?_;refine rZ (bW (bO I) fun b2=>?_);refine aT I (rZ (lK (qV 0 bh az I I I) (lM I (lW (cL call30 I (kZ E hE g _ _ tv l T hv hf hw ht hT hTl)) ?_))));rintro _ g1 _ ⟨rfl,hle1,pv,rfl,-⟩;refine lM I (yX I (yX I (lA I (aT I (sW I (aT I (rE (dR (s':=s) uR ?_))))))));exact za6 (.inl I) results23 I ⟨I,hle1,I⟩
theorem Tryz.buildN30 (w:World):(Instr.build 30 #[]).run Tryz.prog w = .ok (.agg #[.slice none 0 0]) w:=by
 simp[Instr.build,Instr.fill];rfl
theorem rj (E:World)(hE:E.drawn=0)(g:PH)(s:Own)(v tv:Value)(l:List Cl)(T:List (List Int))(hv:au g v l)(hf:di l)(hw:∀ c∈l,cN c.id)(ht:aI g tv T)(hT:T.length<1099511627776)(hTl:∀ t∈T,t.length<1099511627776) :
  Ctr Tryz.prog E 20 #[.agg #[v],tv] g s (fun x g' s'=>s=s'∧Le g g'∧∃ u,x = .agg #[u]∧au g' u (fv l T)):=by
 obtain ⟨vp,vc,rfl⟩:=hv.form;refine za9 (args:=[.agg #[.slice vp l.length vc],tv]) func20 I ntmps20 (bE I) ?_;refine rZ (bW (bO I) fun b2=>?_);refine bW (aL zk6) fun b4=>?_;refine tZ (rZ (lK (qV 1 bh az I I I) (lM I (lW (cL call30 I (kZ E hE g _ _ tv l T hv hf hw ht hT hTl)) ?_))));rintro _ g1 _ ⟨rfl,hle1,pv,rfl,hcov⟩;refine lM I (yX I (yX I (lA I (aT I (sQ (sW I (lU (nQ I I) (tZ ?_))))))));refine iP I (fun hop=>?_) (fun hop=>?_)
 ·have hb:fv l T=[]:=by unfold fv; rw[zf6 (.inl hop)]
  refine rZ (lU (za1 I buildN30) (oZ (sK 0 az I I I I I ⟨I,trivial⟩) (tZ (rE (tR ?_)))));exact ST.retCD 0 s (.inl I) results20 I bh az I I uR ⟨I,hle1,_,I,by rw[hb]; exact yr _⟩
 ·have hop0:dE l T=0:=zg5 hop;have hcov:=hcov hop0;obtain ⟨hok,hT6⟩:=iK hop0;have hRt:=jZ hok;have hLt:ae l=aa l:=a8 hRt.asc;have hRt:Rt (ae l):=by rw[hLt]; exact hRt
  have hBf:=bZ (lc hRt hT6);refine kP (tN (sW I (lW (cL call31 I (lI E g1 _ pv (ae l) T hcov hRt hT6)) ?_)));rintro _ g2 _ ⟨rfl,hle2,u,rfl,hu⟩;obtain ⟨up,uc,rfl⟩:=hu.form;refine bW (aL zk6) fun b7=>?_;refine oZ (sK 0 az I I I I I ⟨I,trivial⟩) (tZ (sQ (rZ (lK (qV 0 bh az I I I) (lW (cL call24 I (gX E g2 _ _ (eu (ae l) T) hu hBf)) ?_)))));rintro _ _ _ ⟨rfl,rfl,rfl⟩;refine lM I (yX I (yX I (lA I (aT I (sW I (lU (nQ I I) (tZ ?_)))))));refine iP I (fun hbl=>?_) (fun hbl=>?_)
  ·have hb:fv l T=[]:=by unfold fv; rw[zf6 (.inr hbl)]
   refine rZ (lU (za1 I buildN30) (oZ (sK 1 az I I I I I ⟨I,trivial⟩) (tZ (rE (tR ?_)))));exact ST.retCD 1 s (.inl I) results20 I bh az I I uR ⟨I,hle1.trans hle2,_,I,by rw[hb]; exact yr _⟩
  ·have hb:fv l T=eu (ae l) T:=by unfold fv; rw[zf5]; rintro (h | h); exact hop h; exact hbl h
   refine kP (tN (rZ (lK (qV 0 bh az I I I) (oZ (sK 1 az I I I I I ⟨I,trivial⟩) (tZ (rE ?_))))));exact ST.retCD 1 s (.inl I) results20 I bh az I I uR ⟨I,hle1.trans hle2,_,I,by rw[hb]; exact hu⟩
set_option maxHeartbeats 2000000
theorem n9 (E:World)(g:PH)(s:Own)(v u:Value)(P Q:List (List Int))(hv:aI g v P)(hu:aI g u Q)(hP:P.length<1099511627776)(hPl:∀ x∈P,x.length<1099511627776)(hQ:Q.length<1099511627776) :
  Ctr Tryz.prog E 44 #[v,u] g s (fun r g' s'=>r=vb (decide (P=Q))∧g=g'∧s=s'):=by
 obtain ⟨rs,hrs,hallr⟩:=hv;obtain ⟨qs,hqs,hallq⟩:=hu;have hlr:=hallr.length;have hlq:=hallq.length;obtain ⟨rp,rc,rfl⟩:=za2 hrs;obtain ⟨qp,qc,rfl⟩:=za2 hqs;refine za9 (args:=[.slice rp rs.length rc,.slice qp qs.length qc]) func44 I ntmps44 (bE I) ?_;refine rZ (aT I (sQ (sW I (lU (eN bL I) (lM I (lU (eN bL I) (lU (nQ I I) (tZ ?_))))))));refine iP I (fun hne=>?_) (fun hne=>?_)
 ·refine rZ (aT I (rE (tR ?_)));have h0:decide (P=Q)=false:=zf3 fun e=>hne (by rw[← hlr,← hlq,e]);exact za6 (.inl I) results44 I ⟨by rw[h0],I,I⟩
 ·have hlen:rs.length=qs.length:=oM;refine kP (tN (sQ (rZ (aT I (bK ?_)))));refine oP (ι:=Nat) (fun k=>[(0,.slice rp rs.length rc),(1,.slice qp qs.length qc),(5,vi k)]) (fun _=>g) (fun _=>s) (fun k=>k≤rs.length∧P.take k=Q.take k) (fun k=>rs.length - k) 0 sB I I ⟨zf2 _,I⟩ ?_;rintro k ⟨hk,heq⟩;refine sQ (sW I (lM I (lU (eN bL I) (yL I (tZ ?_)))));refine iP I (fun hlt=>?_) (fun hlt=>?_)
  ·have hkr:k<rs.length:=oM;have hkq:k<qs.length:=oM;have hkP:k<P.length:=oM;have hkQ:k<Q.length:=oM;have hb1:=za4 hrs oM;have hb2:=za4 hqs oM;have hgr:rs[((k:Nat):Int).toNat]?=some rs[k]:=gE hkr;have hgq:qs[((k:Nat):Int).toNat]?=some qs[k]:=gE hkq;have hR:=hallr.get (gE hkP) (gE hkr);have hQ':=hallq.get (gE hkQ) (gE hkq);have h1:P.take (k+1)=P.take k++[P[k]]:=tS hkP;have h2:Q.take (k+1)=Q.take k++[Q[k]]:=tS hkQ;have hpl:=hPl _ (gM hkP);have hdiff:P[k]≠Q[k]→decide (P=Q)=false:=fun h=>zf3 fun e=>h (by subst e; rfl);generalize P[k]=x at *;generalize Q[k]=y at *;generalize rs[k]=r at *;generalize qs[k]=q at *;obtain ⟨ap,an,ac⟩:=r;obtain ⟨bp,bn,bc⟩:=q;refine kP (tN (sQ (bK (sQ ?_))));refine dW [] [(0,2),(1,2),(2,2),(3,1),(4,2),(5,2),(6,2),(7,1),(8,0),(9,2)] zd8 kR ?_;refine yM I (yM I (pU I (iA bL ci I I hb1 oM sL) (pK I (eB (u:=.slice ap an ac) dF I (za5 hrs) hgr I) (yM I (yM I (pU I (iA bL ci I I hb2 oM sL) (pK I (eB (u:=.slice bp bn bc) dF I (za5 hqs) hgq I) (SP.o I (cL call17 I (oV E g s (.slice ap an ac) (.slice bp bn bc) x y hR hQ' oM)) dC (.inr iR) ?_))))))));rintro _ _ _ ⟨rfl,rfl,rfl⟩;refine pU I (aS I) (pN (tN (sW I (lU (SU.notP I) (tZ ?_)))));refine iQ I (fun hxy=>?_) (fun hxy=>?_)
   ·have hxy':x≠y:=by simpa using hxy
    refine rZ (aT I (rE (bR (tR (tR (bR (tR ?_)))))));exact za6 (.inl I) results44 I ⟨by rw[hdiff hxy'],I,I⟩
   ·have hxy':x=y:=by simpa using hxy
    refine kP (bN (tN (rG (lM I (yD I (lA I (nL ?_)))))));exact gA (k+1) sB I I ⟨oM,by rw[h1,h2,heq,hxy']⟩ oM
  ·have hkk:k=rs.length:=oM;subst hkk;rw[tL oM,tL oM] at heq;refine xI (tX (tX (bX (tN (rZ (aT I (rE ?_)))))));have h0:decide (P=Q)=true:=zf4 heq;exact za6 (.inl I) results44 I ⟨by rw[h0],I,I⟩
theorem mi (E:World)(g:PH)(s:Own)(v u:Value)(P Q:List (List (List Int)))(hv:Pgs g v P)(hu:Pgs g u Q)(hP:P.length<1099511627776)(hPl:∀ A∈P,A.length<1099511627776∧∀ x∈A,x.length<1099511627776)(hQ:Q.length<1099511627776)(hQl:∀ A∈Q,A.length<1099511627776) :
  Ctr Tryz.prog E 16 #[v,u] g s (fun r g' s'=>r=vb (decide (P=Q))∧g=g'∧s=s'):=by
 obtain ⟨rs,hrs,hallr⟩:=hv;obtain ⟨qs,hqs,hallq⟩:=hu;have hlr:=hallr.length;have hlq:=hallq.length;obtain ⟨rp,rc,rfl⟩:=za2 hrs;obtain ⟨qp,qc,rfl⟩:=za2 hqs;refine za9 (args:=[.slice rp rs.length rc,.slice qp qs.length qc]) func16 I ntmps16 (bE I) ?_;refine rZ (aT I (sQ (sW I (lU (eN mf I) (lM I (lU (eN mf I) (lU (nQ I I) (tZ ?_))))))));refine iP I (fun hne=>?_) (fun hne=>?_)
 ·refine rZ (aT I (rE (tR ?_)));have h0:decide (P=Q)=false:=zf3 fun e=>hne (by rw[← hlr,← hlq,e]);exact za6 (.inl I) results16 I ⟨by rw[h0],I,I⟩
 ·have hlen:rs.length=qs.length:=oM;refine kP (tN (sQ (rZ (aT I (bK ?_)))));refine oP (ι:=Nat) (fun k=>[(0,.slice rp rs.length rc),(1,.slice qp qs.length qc),(5,vi k)]) (fun _=>g) (fun _=>s) (fun k=>k≤rs.length∧P.take k=Q.take k) (fun k=>rs.length - k) 0 sB I I ⟨zf2 _,I⟩ ?_;rintro k ⟨hk,heq⟩;refine sQ (sW I (lM I (lU (eN mf I) (yL I (tZ ?_)))));refine iP I (fun hlt=>?_) (fun hlt=>?_)
  ·have hkr:k<rs.length:=oM;have hkq:k<qs.length:=oM;have hkP:k<P.length:=oM;have hkQ:k<Q.length:=oM;have hb1:=za4 hrs oM;have hb2:=za4 hqs oM;have hgr:rs[((k:Nat):Int).toNat]?=some rs[k]:=gE hkr;have hgq:qs[((k:Nat):Int).toNat]?=some qs[k]:=gE hkq;have hR:=hallr.get (gE hkP) (gE hkr);have hQ':=hallq.get (gE hkQ) (gE hkq);have h1:P.take (k+1)=P.take k++[P[k]]:=tS hkP;have h2:Q.take (k+1)=Q.take k++[Q[k]]:=tS hkQ;have hpl:=hPl _ (gM hkP);have hql:=hQl _ (gM hkQ);have hdiff:P[k]≠Q[k]→decide (P=Q)=false:=fun h=>zf3 fun e=>h (by subst e; rfl);generalize P[k]=x at *;generalize Q[k]=y at *;generalize rs[k]=r at *;generalize qs[k]=q at *;obtain ⟨ap,an,ac⟩:=r;obtain ⟨bp,bn,bc⟩:=q;refine kP (tN (sQ (bK (sQ ?_))));refine dW [] [(0,2),(1,2),(2,2),(3,1),(4,2),(5,2),(6,2),(7,1),(8,0),(9,2)] zd8 kR ?_;refine yM I (yM I (pU I (iA mf ow I I hb1 oM sL) (pK I (eB (u:=.slice ap an ac) isAgg22 I (za5 hrs) hgr I) (yM I (yM I (pU I (iA mf ow I I hb2 oM sL) (pK I (eB (u:=.slice bp bn bc) isAgg22 I (za5 hqs) hgq I) (SP.o I (cL call44 I (n9 E g s (.slice ap an ac) (.slice bp bn bc) x y hR hQ' hpl.1 hpl.2 hql)) dC (.inr iR) ?_))))))));rintro _ _ _ ⟨rfl,rfl,rfl⟩;refine pU I (aS I) (pN (tN (sW I (lU (SU.notP I) (tZ ?_)))));refine iQ I (fun hxy=>?_) (fun hxy=>?_)
   ·have hxy':x≠y:=by simpa using hxy
    refine rZ (aT I (rE (bR (tR (tR (bR (tR ?_)))))));exact za6 (.inl I) results16 I ⟨by rw[hdiff hxy'],I,I⟩
   ·have hxy':x=y:=by simpa using hxy
    refine kP (bN (tN (rG (lM I (yD I (lA I (nL ?_)))))));exact gA (k+1) sB I I ⟨oM,by rw[h1,h2,heq,hxy']⟩ oM
  ·have hkk:k=rs.length:=oM;subst hkk;rw[tL oM,tL oM] at heq;refine xI (tX (tX (bX (tN (rZ (aT I (rE ?_)))))));have h0:decide (P=Q)=true:=zf4 heq;exact za6 (.inl I) results16 I ⟨by rw[h0],I,I⟩
def mu:List Cl:=[⟨1,0,[]⟩,⟨2,0,[]⟩,⟨3,0,[]⟩,⟨4,1,[⟨1,-1⟩,⟨2,1⟩]⟩,⟨5,1,[⟨1,-1⟩,⟨3,1⟩]⟩,⟨6,1,[⟨2,-1⟩,⟨3,1⟩]⟩]
theorem uJ:bG [1,2]=[1,2]:=by
 unfold bG;rw[gz dC];rfl
theorem y8:bG [0,2]=[0,2]:=by
 unfold bG;rw[gz dC];rfl
theorem xa:bA [[0,1],[1,2],[0,2]]=mu:=by
 simp only[bA,aJ,uK,uJ,y8];rfl
theorem ky:di mu:=sf dC dC
theorem ni:∀ c∈mu,cN c.id:=by unfold cN; decide
theorem xQ:dE mu [[4,6],[5]]=0:=by kernel_rfl
theorem zD:dE mu [[4],[5]]=45:=by kernel_rfl
theorem wu:(aU (eu (ae mu) [[4,6],[5]])).2=0:=by kernel_rfl
theorem wv:(fv mu [[4,6],[5]]).length=10:=by
 unfold fv;rw[zf5 (by rintro (h | h); exact h xQ; exact h wu)]
 kernel_rfl
theorem jO:ce mu [[4,6],[5]] 2=0:=by kernel_rfl
theorem ze:rkP 2=fun C R=>rkF C R oy:=funext fun C=>funext fun R=>z6 C R oy
theorem o7:cw mu [[4,6],[5]] 2=[[[2,0],[2,0]],[[1,0],[1,0]]]:=by
 unfold cw;rw[zf5 (by rw[jO]; simp),ze]
 kernel_rfl
theorem ww:gL mu [[4,6],[5]] 2=[1,1]:=by
 unfold gL;rw[o7]
 kernel_rfl
theorem re (E:World)(g:PH)(s:Own):Ctr Tryz.prog E 26 #[] g s (fun r g' s'=>s=s'∧Le g g'∧∃ u,r = .agg #[u]∧au g' u mu):=by
 refine za9 (args:=[]) func26 I ntmps26 (bE I) ?_;refine rZ (bW (aL zk6) fun b0=>?_);refine tZ (rZ (lW (bS sty25 I I I (ab sB) dC) ?_));rintro _ _ _ ⟨b1,rfl,rfl,rfl⟩;refine zb3 fun g1 hle1 hb1=>?_;refine lW (bS sty25 I I I (ab sB) dC) ?_;rintro _ _ _ ⟨b2,rfl,rfl,rfl⟩;refine zb3 fun g2 hle2 hb2=>?_;refine lW (bS sty25 I I I (ab sB) dC) ?_;rintro _ _ _ ⟨b3,rfl,rfl,rfl⟩;refine zb3 fun g3 hle3 hb3=>?_;refine lW (bS sty22 I I I (ab sB) dC) ?_;rintro _ _ _ ⟨b4,rfl,rfl,rfl⟩;refine zb3 fun g4 hle4 hb4=>?_;have hlit:aI g4 (.slice (some ⟨b4,0,none⟩) 3 3) [[0,1],[1,2],[0,2]]:=⟨[dH (.slice (some ⟨b1,0,none⟩) 2 2),dH (.slice (some ⟨b2,0,none⟩) 2 2),dH (.slice (some ⟨b3,0,none⟩) 2 2)],SlA.lit hb4 rfl rfl,⟨SlA.lit ((hle2.trans (hle3.trans hle4)) _ _ hb1) rfl rfl,SlA.lit ((hle3.trans hle4) _ _ hb2) rfl rfl,SlA.lit (hle4 _ _ hb3) rfl rfl,trivial⟩⟩;refine lW (cL call54 I (l6 E g4 _ _ _ hlit dC dC)) ?_;rintro _ g5 _ ⟨rfl,hle5,u,rfl,hu⟩;rw[xa] at hu;obtain ⟨q,d,rfl⟩:=hu.form;refine oZ (sK 0 az I I I I I sB) ?_;refine tZ (rE ?_);exact ST.retCD 0 s (.inl I) results26 I bh az I I uR ⟨I,hle1.trans (hle2.trans (hle3.trans (hle4.trans hle5))),_,I,hu⟩
theorem n8 (E:World)(hE:E.drawn=0)(g:PH)(s:Own):Ctr Tryz.prog E 7 #[] g s (fun r g' s'=>r=vb true∧s=s'∧Le g g'):=by
 refine za9 (args:=[]) func7 I ntmps7 (bE I) ?_;refine rZ (aT I (rZ (lW (cL call26 I (re E g s)) ?_)));rintro _ g1 _ ⟨rfl,hle1,u,rfl,hu⟩;obtain ⟨q,d,rfl⟩:=hu.form;refine bW (aL zk6) fun b1=>?_;refine oZ (sK 0 az I I I I I ⟨I,trivial⟩) (tZ (rZ (lW (bS sty25 I I I (ab sB) dC) ?_)));rintro _ _ _ ⟨b10,rfl,rfl,rfl⟩;refine zb3 fun g2 hle2 hb10=>?_;refine lW (bS sty25 I I I (ab ⟨I,trivial⟩) dC) ?_;rintro _ _ _ ⟨b11,rfl,rfl,rfl⟩;refine zb3 fun g3 hle3 hb11=>?_;refine lW (bS sty22 I I I (ab sB) dC) ?_;rintro _ _ _ ⟨b12,rfl,rfl,rfl⟩;refine zb3 fun g4 hle4 hb12=>?_;have hT:aI g4 (.slice (some ⟨b12,0,none⟩) 2 2) [[4,6],[5]]:=⟨[dH (.slice (some ⟨b10,0,none⟩) 2 2),dH (.slice (some ⟨b11,0,none⟩) 1 1)],SlA.lit hb12 rfl rfl,⟨SlA.lit ((hle3.trans hle4) _ _ hb10) rfl rfl,SlA.lit (hle4 _ _ hb11) rfl rfl,trivial⟩⟩;have hu4:=hu.mono (hle2.trans (hle3.trans hle4));refine aT I (rZ (lK (qV 0 bh az I I I) (lM I (lW (cL call20 I (rj E hE g4 _ _ _ mu [[4,6],[5]] hu4 ky ni hT dC dC)) ?_))));rintro _ g5 _ ⟨rfl,hle5,u5,rfl,hu5⟩;obtain ⟨q5,d5,rfl⟩:=hu5.form;rw[wv];have hu5':=hu4.mono hle5;have hT5:=hT.mono hle5;refine bW (aL zk6) fun b3=>?_;refine oZ (sK 0 az I I I I I ⟨I,trivial⟩) (tZ (rZ (lK (qV 1 bh az I I I) (lM I (lW (cL call12 I (fm E hE g5 _ _ _ mu [[4,6],[5]] 2 hu5' ky ni hT5 dC dC dC dC)) ?_)))));rintro _ g6 _ ⟨rfl,hle6,u6,rfl,hP⟩;rw[jO];rw[o7] at hP;have hu6:=hu5'.mono hle6;have hT6:=hT5.mono hle6;refine lM I (yX I (yX I (lA I (aT I (rZ (lK (qV 1 bh az I I I) (lM I (lW (cL call14 I (m5 E hE g6 _ _ _ mu [[4,6],[5]] 2 hu6 ky ni hT6 dC dC dC dC)) ?_))))))));rintro _ g7 _ ⟨rfl,hle7,u7,rfl,hB⟩;rw[jO];rw[ww] at hB;have hu7:=hu6.mono hle7;have hP7:=hP.mono hle7;refine lM I (yX I (yX I (lA I (aT I (rZ (lW (bS sty25 I I I (ab sB) dC) ?_))))));rintro _ _ _ ⟨b28,rfl,rfl,rfl⟩;refine zb3 fun g8 hle8 hb28=>?_;refine lW (bS sty25 I I I (ab sB) dC) ?_;rintro _ _ _ ⟨b29,rfl,rfl,rfl⟩;refine zb3 fun g9 hle9 hb29=>?_;refine lW (bS sty22 I I I (ab sB) dC) ?_;rintro _ _ _ ⟨b30,rfl,rfl,rfl⟩;refine zb3 fun g10 hle10 hb30=>?_;have h30:aI g10 (.slice (some ⟨b30,0,none⟩) 2 2) [[2,0],[2,0]]:=⟨[dH (.slice (some ⟨b28,0,none⟩) 2 2),dH (.slice (some ⟨b29,0,none⟩) 2 2)],SlA.lit hb30 rfl rfl,⟨SlA.lit ((hle9.trans hle10) _ _ hb28) rfl rfl,SlA.lit (hle10 _ _ hb29) rfl rfl,trivial⟩⟩;refine lW (bS sty25 I I I (ab sB) dC) ?_;rintro _ _ _ ⟨b31,rfl,rfl,rfl⟩;refine zb3 fun g11 hle11 hb31=>?_;refine lW (bS sty25 I I I (ab sB) dC) ?_;rintro _ _ _ ⟨b32,rfl,rfl,rfl⟩;refine zb3 fun g12 hle12 hb32=>?_;refine lW (bS sty22 I I I (ab sB) dC) ?_;rintro _ _ _ ⟨b33,rfl,rfl,rfl⟩;refine zb3 fun g13 hle13 hb33=>?_;have h33:aI g13 (.slice (some ⟨b33,0,none⟩) 2 2) [[1,0],[1,0]]:=⟨[dH (.slice (some ⟨b31,0,none⟩) 2 2),dH (.slice (some ⟨b32,0,none⟩) 2 2)],SlA.lit hb33 rfl rfl,⟨SlA.lit ((hle12.trans hle13) _ _ hb31) rfl rfl,SlA.lit (hle13 _ _ hb32) rfl rfl,trivial⟩⟩;refine lW (bS sty37 I I I (ab sB) dC) ?_;rintro _ _ _ ⟨b34,rfl,rfl,rfl⟩;refine zb3 fun g14 hle14 hb34=>?_;have hW:Pgs g14 (.slice (some ⟨b34,0,none⟩) 2 2) [[[2,0],[2,0]],[[1,0],[1,0]]]:=⟨[dH (.slice (some ⟨b30,0,none⟩) 2 2),dH (.slice (some ⟨b33,0,none⟩) 2 2)],SlA.lit hb34 rfl rfl,⟨h30.mono (hle11.trans (hle12.trans (hle13.trans hle14))),h33.mono hle14,trivial⟩⟩;have hl14:=hle8.trans (hle9.trans (hle10.trans (hle11.trans (hle12.trans (hle13.trans hle14)))));have hP14:=hP7.mono hl14;have hB14:=za3 hB hl14;have hu14:=hu7.mono hl14;refine aT I (rZ (lU (fA cJ I bQ I) (lK (qL (v:=.slice q5 10 d5) dI I (cO 0 I I)) (lU (eN aN I) (yE I (lM I (yC I (lY I I I (eQ I I) (yP I (lM I (yC I (yC I (SL.go (gT I I I dC) (cL call16 I (mi E g14 _ _ _ _ _ hP14 hW dC dC dC dC)) dC ?_)))))))))))));rintro _ _ _ ⟨rfl,rfl,rfl⟩;rw[show decide (([[[2,0],[2,0]],[[1,0],[1,0]]]:List (List (List Int)))=[[[2,0],[2,0]],[[1,0],[1,0]]])=true from zf4 rfl];refine yP I (lM I (yC I (lY I I I (eQ I I) (yP I (lM I (yC I (SL.go (gT I I I dC) (bS sty25 I I I (ab sB) dC) dC ?_)))))));rintro _ _ _ ⟨b54,rfl,rfl,rfl⟩;refine zb3 fun g15 hle15 hb54=>?_;have hW54:bU g15 (.slice (some ⟨b54,0,none⟩) 2 2) [1,1]:=SlA.lit hb54 rfl rfl;have hB15:=za3 hB14 hle15;refine SL.go (gT I I I dC) (cL call17 I (oV E g15 _ _ _ _ _ hB15 hW54 dC)) dC ?_;rintro _ _ _ ⟨rfl,rfl,rfl⟩;rw[show decide (([1,1]:List Int)=[1,1])=true from zf4 rfl];refine yP I (lM I (SL.gq (gT I I I dC) (qV 1 bh az I I I) dC (SL.go (gT I I I dC) (bS sty25 I I I (ab ⟨I,trivial⟩) dC) dC ?_)));rintro _ _ _ ⟨b59,rfl,rfl,rfl⟩;refine zb3 fun g16 hle16 hb59=>?_;refine SL.go (gT I I I dC) (bS sty25 I I I (ab ⟨I,trivial⟩) dC) dC ?_;rintro _ _ _ ⟨b60,rfl,rfl,rfl⟩;refine zb3 fun g17 hle17 hb60=>?_;refine SL.go (gT I I I dC) (bS sty22 I I I (ab sB) dC) dC ?_;rintro _ _ _ ⟨b61,rfl,rfl,rfl⟩;refine zb3 fun g18 hle18 hb61=>?_;have hT2:aI g18 (.slice (some ⟨b61,0,none⟩) 2 2) [[4],[5]]:=⟨[dH (.slice (some ⟨b59,0,none⟩) 1 1),dH (.slice (some ⟨b60,0,none⟩) 1 1)],SlA.lit hb61 rfl rfl,⟨SlA.lit ((hle17.trans hle18) _ _ hb59) rfl rfl,SlA.lit (hle18 _ _ hb60) rfl rfl,trivial⟩⟩;have hu18:=hu14.mono (hle15.trans (hle16.trans (hle17.trans hle18)));refine SL.go (gT I I I dC) (cL call23 I (dY E hE g18 _ _ _ mu [[4],[5]] hu18 ky ni hT2 dC dC)) dC ?_;rintro _ g19 _ ⟨rfl,hle19,rfl⟩;rw[zD];refine lY I I I (eQ I I) (yP I (aT I (rE (dR (s':=s) uR ?_))));exact za6 (.inl I) results7 I ⟨I,I,hle1.trans (hle2.trans (hle3.trans (hle4.trans (hle5.trans (hle6.trans (hle7.trans (hl14.trans (hle15.trans (hle16.trans (hle17.trans (hle18.trans hle19)))))))))))⟩
def wN (y:Int):Int:=if aG y 2=0 then 4 else 5
theorem rD (y:Int):([4,5]:List Int)[(aG y 2).toNat]?=some (wN y):=by
 have:=aR y 2 dC dC;unfold wN
 rcases (by omega:aG y 2=0∨aG y 2=1) with e | e
 ·rw[e]; rfl
 ·rw[e]; rfl
def eH (kd:Int)(ls:List (List Int))(y:Int):List Cl:=if (iS kd ls y).length>20 then iS (wN y) [] (aG y 8) else iS kd ls y
def jD (kd:Int)(ls:List (List Int))(y:Int):List Cl:=if (eH kd ls y).length>20 then bA [[0,1,2],[1,2,3],[0,3]] else eH kd ls y
theorem Tryz.buildK24 (a b:Int)(w:World):(Instr.build 24 #[(0,vi a),(2,vi b)]).run Tryz.prog w = .ok (.agg #[vi a,.slice none 0 0,vi b]) w:=by
 have h1:∀ n,(vi n).cells = #[vi n]:=fun _=>rfl;simp[Instr.build,Instr.fill,h1];rfl
theorem mC (E:World)(g:PH)(s:Own)(v:Value)(kd y:Int)(ls:List (List Int))(hv:aI g v ls) :
  Ctr Tryz.prog E 8 #[.agg #[vi kd,v,vi y]] g s (fun r g' s'=>s=s'∧Le g g'∧∃ u,r = .agg #[u]∧au g' u (jD kd ls y)):=by
 obtain ⟨p,n,c,rfl⟩:∃ p n c,v = .slice p n c:=by
  obtain ⟨rs0,hrs0,_⟩:=hv;obtain ⟨p,c,rfl⟩:=za2 hrs0;exact⟨_,_,_,I⟩
 have hy:=aR y 2 dC dC;have hf1:=(jL kd ls y).1;have hf2:=(jL (wN y) [] (aG y 8)).1;refine za9 (args:=[.agg #[vi kd,.slice p n c,vi y]]) func8 I ntmps8 (bE I) ?_;refine rZ (bW (bO I) fun b1=>?_);refine bW (aL zk6) fun b2=>?_;refine tZ (rZ (lK (qV 1 isAgg24 sizeOf24 I I I) (lW (cL call27 I (oT E g _ _ kd y ls hv)) ?_)));rintro _ g1 _ ⟨rfl,hle1,u1,rfl,hu1⟩;obtain ⟨q1,d1,rfl⟩:=hu1.form;refine bW (aL zk6) fun b3=>?_;refine oZ (sK 0 az I I I I I ⟨I,trivial⟩) (tZ ?_);refine SC.cut (ι:=PH×Option Addr×Nat) (fun i=>[(2,pp b2 0),(3,pp b3 0)]) (fun i=>i.1) (fun i=>pt b3 (.cells #[.slice i.2.1 (eH kd ls y).length i.2.2] 30 (0,0))::pt b2 (.cells #[.slice none 0 0] 30 (0,0))::pt b1 (.cells #[vi kd,.slice p n c,vi y] 24 (0,0))::s) (fun i=>Le g1 i.1∧au i.1 (.slice i.2.1 (eH kd ls y).length i.2.2) (eH kd ls y)) ?_ ?_
 ·refine rZ (lU (fA cJ I bQ I) (lK (qL (v:=.slice q1 (iS kd ls y).length d1) dI I (cO 0 I I)) (lU (eN aN I) (lU (gR I I) (tZ ?_)))));refine iP I (fun h20=>?_) (fun h20=>?_)
  ·have hs2:eH kd ls y=iS (wN y) [] (aG y 8):=by unfold eH; rw[zf6 oM]
   rw[hs2];refine SC.drawX [11] zd8 kR ?_;refine SX.u (i:=1) I kR (fA i5 I zT3 I) dC (SX.q (i:=2) I kR (qL (v:=vi y) iT3 I (cO 2 I I)) dC (SX.u (i:=6) I kR (fA i5 I zT3 I) dC (SX.q (i:=7) I kR (qL (v:=vi y) iT3 I (cO 2 I I)) dC ?_)))
   repeat' (first
    | (show SB _ _ _ _ _ _ _ _ _ _ 0 _ _ _; refine SB.o (i:=0) I (bS sty25 I I I (ab sB) dC) dC (.inr iR) ?_; rintro _ _ _ ⟨b10,rfl,rfl,rfl⟩; refine SX.freeze fun g2 hle2 hb10=>?_; have h10:SlA encInt g2 (.slice (some ⟨b10,0,none⟩) 2 2) [4,5]:=SlA.lit hb10 rfl rfl; refine SX.u (i:=4) I kD (iA ak zT3 I I I oM (show aG y 2<((2:Nat):Int) by omega)) dC ?_)
    | (show SB _ _ _ _ _ _ _ _ _ _ 0 _ _ _; refine SB.o (i:=0) I (bS sty25 I I I (ab sB) dC) dC (.inr iR) ?_; rintro _ _ _ ⟨b10,rfl,rfl,rfl⟩; refine SX.freeze fun g2 hle2 hb10=>?_; have h10:SlA encInt g2 (.slice (some ⟨b10,0,none⟩) 2 2) [4,5]:=SlA.lit hb10 rfl rfl)
    | (show SB _ _ _ _ _ _ _ _ _ _ 3 _ _ _; refine SB.o (i:=3) I (cL dn I (ai E _ _ y 2 dC)) dC (.inr iR) ?_; rintro _ _ _ ⟨rfl,rfl,rfl⟩; refine SX.u (i:=4) I kD (iA ak zT3 I I I oM (show aG y 2<((2:Nat):Int) by omega)) dC ?_)
    | (show SB _ _ _ _ _ _ _ _ _ _ 3 _ _ _; refine SB.o (i:=3) I (cL dn I (ai E _ _ y 2 dC)) dC (.inr iR) ?_; rintro _ _ _ ⟨rfl,rfl,rfl⟩)
    | (show SB _ _ _ _ _ _ _ _ _ _ 5 _ _ _; refine SB.o (i:=5) I (SQ.sof (eB iT3 I (za5 h10) (rD y) I)) dC (.inr iR) ?_; rintro _ _ _ ⟨rfl,rfl,rfl⟩; refine SX.u (i:=9) I kD (za1 I (buildK24 _ _)) dC ?_)
    | (show SB _ _ _ _ _ _ _ _ _ _ 5 _ _ _; refine SB.o (i:=5) I (SQ.sof (eB iT3 I (za5 h10) (rD y) I)) dC (.inr iR) ?_; rintro _ _ _ ⟨rfl,rfl,rfl⟩)
    | (show SB _ _ _ _ _ _ _ _ _ _ 8 _ _ _; refine SB.o (i:=8) I (cL dn I (ai E _ _ y 8 dC)) dC (.inr iR) ?_; rintro _ _ _ ⟨rfl,rfl,rfl⟩; refine SX.u (i:=9) I kD (za1 I (buildK24 _ _)) dC ?_)
    | (show SB _ _ _ _ _ _ _ _ _ _ 8 _ _ _; refine SB.o (i:=8) I (cL dn I (ai E _ _ y 8 dC)) dC (.inr iR) ?_; rintro _ _ _ ⟨rfl,rfl,rfl⟩)
    | (show SB _ _ _ _ _ _ _ _ _ _ 8 _ _ _; refine SB.o (i:=8) I (cL dn I (ai E _ _ y 8 dC)) dC (.inr iR) ?_; rintro _ _ _ ⟨rfl,rfl,rfl⟩)
    | (show SB _ _ _ _ _ _ _ _ _ _ 10 _ _ _; refine SB.o (i:=10) rfl (cL call27 rfl (oT E g2 _ _ (wN y) (aG y 8) [] ⟨[],zb8 _ _,trivial⟩)) dC (.inr (by rintro _ g3 _ ⟨rfl,hle3,u3,rfl,hu3⟩; exact⟨by exact Le.trans (by assumption) (by assumption),(by exact .refl _)⟩)) ?_; rintro _ g3 _ ⟨rfl,hle3,u3,rfl,hu3⟩; obtain ⟨q3,d3,rfl⟩:=hu3.form)
    | (show SB _ _ _ _ _ _ _ _ _ _ 11 _ _ _; refine SB.on (i:=11) I (sK 0 az I I I I I ⟨I,trivial⟩) (.inl dC) ?_; rintro _ _ _ ⟨rfl,rfl⟩)
    | refine zd3 0 3 kD ?_ ?_
    | refine zd2 3 kD ?_
    | refine zd3 5 8 kD ?_ ?_
    | refine zd2 8 kD ?_
    | refine zd2 10 kD ?_
    | refine zd2 11 kD ?_
    | refine zd2 5 kD ?_
    | refine zd3 0 8 kD ?_ ?_
    | refine zd2 0 kD ?_
    | (refine SX.nil kD ?_; exact za7 (g3,q3,d3) sB I I ⟨hle2.trans hle3,hu3⟩))
  ·have hs2:eH kd ls y=iS kd ls y:=by unfold eH; rw[zf5 oM]
   rw[hs2];refine kP ?_;exact za7 (g1,q1,d1) sB I I ⟨zb7 _,hu1⟩
 rintro ⟨g3,q3,d3⟩ ⟨hle3,hu3⟩;dsimp only at hle3 hu3 ⊢;have hf2:(eH kd ls y).length<1099511627776:=by
  have h2:=(jL (wN y) [] (aG y 8)).1;unfold eH;split <;> omega
 refine sQ (rZ (lU (fA cJ I bQ I) (lK (qL (v:=.slice q3 (eH kd ls y).length d3) dI I (cO 0 I I)) (lU (eN aN I) (lU (gR I I) (tZ ?_))))));refine iP I (fun h21=>?_) (fun h21=>?_)
 ·have hs:jD kd ls y=bA [[0,1,2],[1,2,3],[0,3]]:=by unfold jD; rw[zf6 oM]
  refine rG (lW (bS sty25 I I I (ab sB) dC) ?_);rintro _ _ _ ⟨b25,rfl,rfl,rfl⟩;refine zb3 fun g4 hle4 hb25=>?_;refine lW (bS sty25 I I I (ab sB) dC) ?_;rintro _ _ _ ⟨b26,rfl,rfl,rfl⟩;refine zb3 fun g5 hle5 hb26=>?_;refine lW (bS sty25 I I I (ab sB) dC) ?_;rintro _ _ _ ⟨b27,rfl,rfl,rfl⟩;refine zb3 fun g6 hle6 hb27=>?_;refine lW (bS sty22 I I I (ab sB) dC) ?_;rintro _ _ _ ⟨b28,rfl,rfl,rfl⟩;refine zb3 fun g7 hle7 hb28=>?_;have hlit:aI g7 (.slice (some ⟨b28,0,none⟩) 3 3) [[0,1,2],[1,2,3],[0,3]]:=⟨[dH (.slice (some ⟨b25,0,none⟩) 3 3),dH (.slice (some ⟨b26,0,none⟩) 3 3),dH (.slice (some ⟨b27,0,none⟩) 2 2)],SlA.lit hb28 rfl rfl,⟨SlA.lit ((hle5.trans (hle6.trans hle7)) _ _ hb25) rfl rfl,SlA.lit ((hle6.trans hle7) _ _ hb26) rfl rfl,SlA.lit (hle7 _ _ hb27) rfl rfl,trivial⟩⟩;refine lW (cL call21 I (ay E g7 _ _ _ hlit dC dC)) ?_;rintro _ g8 _ ⟨rfl,hle8,u8,rfl,hu8⟩;obtain ⟨q8,d8,rfl⟩:=hu8.form;refine oZ (sK 0 az I I I I I ⟨I,trivial⟩) (tZ (rZ (lK (qV 0 bh az I I I) (oZ (sK 1 az I I I I I ⟨I,trivial⟩) (tZ (rE ?_))))));exact ST.retCD 1 s (.inl I) results8 I bh az I I uR ⟨I,hle1.trans (hle3.trans (hle4.trans (hle5.trans (hle6.trans (hle7.trans hle8))))),_,I,by rw[hs]; exact hu8⟩
 ·have hs:jD kd ls y=eH kd ls y:=by unfold jD; rw[zf5 oM]
  refine kP (tN (rZ (lK (qV 0 bh az I I I) (oZ (sK 1 az I I I I I ⟨I,trivial⟩) (tZ (rE ?_))))));exact ST.retCD 1 s (.inl I) results8 I bh az I I uR ⟨I,hle1.trans hle3,_,I,by rw[hs]; exact hu3⟩
structure Sml (l:List Cl):Prop where
 rt:Rt l
 few:l.length≤20
 ids:∀ c∈l,cN c.id
theorem Aw:bA [[0,1,2],[1,2,3],[0,3]]=[⟨1,0,[]⟩,⟨2,0,[]⟩,⟨3,0,[]⟩,⟨4,0,[]⟩,⟨5,1,[⟨1,-1⟩,⟨2,1⟩]⟩,⟨6,1,[⟨1,-1⟩,⟨3,1⟩]⟩,⟨7,1,[⟨1,-1⟩,⟨4,1⟩]⟩,⟨8,1,[⟨2,-1⟩,⟨3,1⟩]⟩,⟨9,1,[⟨2,-1⟩,⟨4,1⟩]⟩,⟨10,1,[⟨3,-1⟩,⟨4,1⟩]⟩,⟨11,2,[⟨5,1⟩,⟨6,-1⟩,⟨8,1⟩]⟩,⟨12,2,[⟨8,1⟩,⟨9,-1⟩,⟨10,1⟩]⟩]:=by
 have h123:bG [1,2,3]=[1,2,3]:=by
  unfold bG;rw[gz dC];rfl
 have h03:bG [0,3]=[0,3]:=by
  unfold bG;rw[gz dC];rfl
 simp only[bA,aJ,xf,h123,h03];rfl
theorem vD (kd:Int)(ls:List (List Int))(y:Int):Sml (jD kd ls y):=by
 have key:∀ k m z,(iS k m z).length≤20→Sml (iS k m z):=fun k m z h=>⟨mP k m z,h,xB k m z⟩;unfold jD;split
 ·have hr:=lr [[0,1,2],[1,2,3],[0,3]];rw[Aw] at hr ⊢;have h0:=jZ (zd7 Prod.snd hr);rw[show aa _=_ from by kernel_rfl] at h0;exact⟨h0,by decide,by unfold cN; decide⟩
 ·rename_i h;unfold eH at h ⊢;split
  ·rename_i h1;rw[zf6 h1] at h;exact key _ _ _ oM
  ·rename_i h1;exact key _ _ _ oM
open Go.ChangeShapes Go.WideShapes Go.ChangeAt Go.RowKit
set_option maxRecDepth 100000
section
variable {H:Type}{enc:TypeId×Value→H}{W:World}{base:Nat}{spare:Nat→Bool}{hd:Bool}
theorem As {n:Int}(h:(Lit.int .u8 n).wf=true):∃ k:Nat,n=(k:Int)∧k<256:=by
 have h2:IntKind.u8.min≤n∧n≤IntKind.u8.max:=by simpa [Lit.wf] using h
 have e1:IntKind.u8.min=0:=by decide
 have e2:IntKind.u8.max=255:=by decide
 exact⟨n.toNat,oM,oM⟩
theorem zF {fuel:Nat}{v:Value}{x:DataW H×List MemPlace}(h:DataW.trod enc Tryz.prog W base spare hd fuel 5 [v]=some x):∃ k:Nat,v = .int .u8 (k:Int)∧k<256:=by
 obtain ⟨a,e,_,w⟩:=DataW.trod_int underlying5 h;obtain ⟨k,rfl,hk⟩:=As w;simp at e;exact⟨k,e,hk⟩
theorem zZ {r:Reach}{b0:Nat}{v:Value}{d:DataW H}{p:List MemPlace}(hv:Value.okWide Tryz.prog W r b0 5 v)(h:DataW.Trod enc Tryz.prog W base spare hd 5 v d p):∃ k:Nat,v = .int .u8 (k:Int)∧k<256:=by
 obtain ⟨n,rfl⟩:=okWide_int underlying5 hv;obtain ⟨fuel,hf⟩:=h;exact zF (show DataW.trod enc Tryz.prog W base spare hd fuel 5 [.int .u8 n]=some (d,p) by simpa [Value.cells] using hf)
theorem zK {r:Reach}{b0:Nat}{v:Value}{d:DataW H}{p:List MemPlace}(hv:Value.okWide Tryz.prog W r b0 35 v)(h:DataW.Trod enc Tryz.prog W base spare hd 35 v d p) :
  ∃ a b c:Int,v = .agg #[vi a,vi b,vi c]∧cN a∧cN b∧cN c:=by
 obtain ⟨cs,rfl,hsz⟩:=pI jA hv;rw[cells35] at hsz;obtain ⟨l⟩:=cs
 match l,hsz with
 | [c0,c1,c2],_ =>
  obtain ⟨fuel,hf⟩:=h;obtain ⟨a,b,c,rfl,rfl,rfl,w0,w1,w2⟩:=wY (c0:=c0) (c1:=c1) (c2:=c2) (show DataW.trod enc Tryz.prog W base spare hd fuel 35 [c0,c1,c2]=some (d,p) by simpa [Value.cells] using hf);exact⟨a,b,c,I,w0,w1,w2⟩
end
def f9:List Cl:=[⟨1,0,[]⟩,⟨2,0,[]⟩,⟨3,0,[]⟩,⟨4,1,[⟨1,-1⟩,⟨2,1⟩]⟩,⟨5,1,[⟨2,-1⟩,⟨3,1⟩]⟩]
theorem vE:bA [[0,1],[1,2]]=f9:=by
 simp only[bA,aJ,uK,uJ];rfl
theorem jm:di f9:=sf dC dC
theorem ku:∀ c∈f9,cN c.id:=by unfold cN; decide
def iC (n:Nat):Int:=if n>6 then 2 else if n=0 then 45 else 0
theorem kY {n:Nat}(h:n<9):dE f9 (List.replicate n [4,5])=iC n:=by
 have h1:((List.range 9).all fun n=>decide (dE f9 (List.replicate n [4,5])=iC n))=true:=by kernel_rfl
 exact zf8 (List.all_eq_true.1 h1 n (List.mem_range.2 h))
theorem tr {n:Nat}(h:n<9)(h2:n<4∨n>6):ce f9 (List.replicate n [4,5]) 2=iC n:=by
 have h1:([0,1,2,3,7,8].all fun n=>decide (ce f9 (List.replicate n [4,5]) 2=iC n))=true:=by kernel_rfl
 refine zf8 (List.all_eq_true.1 h1 n ?_);simp only[ze6];omega
theorem Sml.small {l:List Cl}(h:Sml l):nR l:=⟨by have:=h.few; omega,fun c hc=>by have:=nF (h.rt.form c hc); omega⟩
theorem vP (l:List Cl)(T:List (List Int)):ce l T 6=46:=by
 unfold ce;rw[zf6 dC]
theorem vR {l:List Cl}(T:List (List Int))(h:(aU l).2≠0):ce l T 2=(aU l).2:=by
 have ho:dE l T=(aU l).2:=by unfold dE; rw[zf6 h]
 unfold ce;rw[zf5 dC,ho,zf6 h]
theorem oJ {g:PH}{n:Nat}{os:List Sv}(h:ar (bC g) (List.replicate n [4,5]) os):os.length=n:=by
 have:=h.length;rw[List.length_replicate] at this;exact this.symm
theorem xl (n:Nat)(x:List Int):List.replicate (n+1) x=List.replicate n x++[x]:=by rw[List.replicate_succ']
theorem kA (E:World)(hE:E.drawn=0)(g:PH)(s:Own)(v:Value)(kd y:Int)(ls:List (List Int))(bt:Nat)(a0 a1 a2:Int)(hv:aI g v ls)(hbt:bt<256)(ha1:cN a1) :
  Ctr Tryz.prog E 5 #[.agg #[vi kd,v,vi y],.int .u8 (bt:Int),.agg #[vi a0,vi a1,vi a2]] g s (fun r g' s'=>r=vb true∧s=s'∧Le g g'):=by
 obtain ⟨p,n,c,rfl⟩:∃ p n c,v = .slice p n c:=by
  obtain ⟨rs0,hrs0,_⟩:=hv;obtain ⟨p,c,rfl⟩:=za2 hrs0;exact⟨_,_,_,I⟩
 have hsm:=vD kd ls y;have hSf:=qv hsm.small a0 a1 a2;have hSi:=sZ hsm.ids a0 a1 a2 ha1;generalize hMd:jD kd ls y=M at *;generalize hSd:ir M a0 a1 a2=Sp at *;have hn9:bt % 9<9:=Nat.mod_lt _ dC;generalize hnn:bt % 9=nn at *;refine za9 (args:=[.agg #[vi kd,.slice p n c,vi y],.int .u8 (bt:Int),.agg #[vi a0,vi a1,vi a2]]) func5 I ntmps5 (bE I) ?_;refine rZ (bW (bO I) fun b3=>?_);refine bW (bO I) fun b5=>?_;refine aT I (rZ (lW (cL call7 I (n8 E hE g _)) ?_));rintro _ g1 _ ⟨rfl,rfl,hle1⟩;have hv1:=hv.mono hle1;refine aT I (rZ (lW (bS sty25 I I I (ab sB) dC) ?_));rintro _ _ _ ⟨b25,rfl,rfl,rfl⟩;refine zb3 fun g2 hle2 hb25=>?_;refine lW (bS sty25 I I I (ab sB) dC) ?_;rintro _ _ _ ⟨b26,rfl,rfl,rfl⟩;refine zb3 fun g3 hle3 hb26=>?_;refine lW (bS sty22 I I I (ab sB) dC) ?_;rintro _ _ _ ⟨b27,rfl,rfl,rfl⟩;refine zb3 fun g4 hle4 hb27=>?_;have hlit:aI g4 (.slice (some ⟨b27,0,none⟩) 2 2) [[0,1],[1,2]]:=⟨[dH (.slice (some ⟨b25,0,none⟩) 2 2),dH (.slice (some ⟨b26,0,none⟩) 2 2)],SlA.lit hb27 rfl rfl,⟨SlA.lit ((hle3.trans hle4) _ _ hb25) rfl rfl,SlA.lit (hle4 _ _ hb26) rfl rfl,trivial⟩⟩;refine lW (cL call21 I (ay E g4 _ _ _ hlit dC dC)) ?_;rintro _ g5 _ ⟨rfl,hle5,u5,rfl,hu5⟩;rw[vE] at hu5;obtain ⟨q5,d5,rfl⟩:=hu5.form;have hv5:=hv1.mono (hle2.trans (hle3.trans (hle4.trans hle5)));refine bW (aL zk6) fun b8=>?_;refine oZ (sK 0 az I I I I I ⟨I,trivial⟩) (tZ ?_);refine SC.to (g':=g5) (s':=pt b8 (.cells #[.slice q5 f9.length d5] 30 (0,0))::pt b5 (.cells #[vi a0,vi a1,vi a2] 35 (0,0))::pt b3 (.cells #[vi kd,.slice p n c,vi y] 24 (0,0))::s) (fun w hw=>hw) ?_;refine SC.cut (ι:=Nat×PH×Option Addr×Nat) (fun i=>[(1,.int .u8 (bt:Int)),(7,vb true),(8,pp b8 0),(9,pp i.1 0)]) (fun i=>i.2.1) (fun i=>pt i.1 (.cells #[.slice i.2.2.1 Sp.length i.2.2.2] 30 (0,0))::pt b8 (.cells #[.slice q5 f9.length d5] 30 (0,0))::s) (fun i=>Le g5 i.2.1∧au i.2.1 (.slice i.2.2.1 Sp.length i.2.2.2) Sp) ?_ ?_
 ·refine SC.drawX [5] zd8 kR ?_;refine SX.q (i:=0) I kR (qV 2 isAgg24 sizeOf24 I I I) dC (SX.q (i:=2) I kR (qV 1 isAgg35 sizeOf35 I I I) dC ?_)
  repeat' (first
   | (show SB _ _ _ _ _ _ _ _ _ _ 1 _ _ _; refine SB.o (i:=1) I (cL call8 I (mC E g5 _ _ kd y ls hv5)) dC (.inr (by rintro _ g6 _ ⟨rfl,hle6,u6,rfl,hu6⟩; exact⟨by assumption,(by exact .refl _)⟩)) ?_;  rintro _ g6 _ ⟨rfl,hle6,u6,rfl,hu6⟩; rw[hMd] at hu6; obtain ⟨q6,d6,rfl⟩:=hu6.form)
   | (show SB _ _ _ _ _ _ _ _ _ _ 1 _ _ _; refine SB.o (i:=1) I (cL call8 I (mC E g5 _ _ kd y ls hv5)) dC (.inr (by rintro _ g6 _ ⟨rfl,hle6,u6,rfl,hu6⟩; exact⟨by assumption,(by exact .cons _ (.refl _))⟩)) ?_;  rintro _ g6 _ ⟨rfl,hle6,u6,rfl,hu6⟩; rw[hMd] at hu6; obtain ⟨q6,d6,rfl⟩:=hu6.form)
   | (show SB _ _ _ _ _ _ _ _ _ _ 3 _ _ _; refine SB.o (i:=3) rfl (cL call22 rfl (j6 E g6 _ _ _ a0 a1 a2 hu6 hsm.small.fits)) dC (.inr (by rintro _ g7 _ ⟨rfl,hle7,u7,rfl,hu7⟩; exact⟨by exact Le.trans (by assumption) (by assumption),(by exact .cons _ (.refl _))⟩)) ?_; rintro _ g7 _ ⟨rfl,hle7,u7,rfl,hu7⟩; rw[hSd] at hu7; obtain ⟨q7,d7,rfl⟩:=hu7.form)
   | (show SB _ _ _ _ _ _ _ _ _ _ 3 _ _ _; refine SB.o (i:=3) rfl (cL call22 rfl (j6 E g6 _ _ _ a0 a1 a2 hu6 hsm.small.fits)) dC (.inr (by rintro _ g7 _ ⟨rfl,hle7,u7,rfl,hu7⟩; exact⟨by exact Le.trans (by assumption) (by assumption),(by exact .refl _)⟩)) ?_; rintro _ g7 _ ⟨rfl,hle7,u7,rfl,hu7⟩; rw[hSd] at hu7; obtain ⟨q7,d7,rfl⟩:=hu7.form)
   | (show SB _ _ _ _ _ _ _ _ _ _ 4 _ _ _; refine SB.o (i:=4) rfl (aL zk6) dC (.inr (by rintro _ _ _ ⟨b9,rfl,rfl,rfl⟩; exact⟨by exact Le.trans (by assumption) (by assumption),(by exact .cons _ (.refl _))⟩)) ?_; rintro _ _ _ ⟨b9,rfl,rfl,rfl⟩)
   | (show SB _ _ _ _ _ _ _ _ _ _ 4 _ _ _; refine SB.o (i:=4) I (aL zk6) dC (.inr iR) ?_; rintro _ _ _ ⟨b9,rfl,rfl,rfl⟩)
   | (show SB _ _ _ _ _ _ _ _ _ _ 4 _ _ _; refine SB.o (i:=4) I (aL zk6) dC (.inr iR) ?_; rintro _ _ _ ⟨b9,rfl,rfl,rfl⟩)
   | (show SB _ _ _ _ _ _ _ _ _ _ 5 _ _ _; refine SB.on (i:=5) I (sK 0 az I I I I I ⟨I,trivial⟩) (.inl dC) ?_; rintro _ _ _ ⟨rfl,rfl⟩)
   | refine zd3 1 4 kD ?_ ?_
   | refine zd3 3 4 kD ?_ ?_
   | refine zd2 4 kD ?_
   | refine zd2 5 kD ?_
   | refine zd2 3 kD ?_
   | refine zd2 1 kD ?_
   | (refine SX.nil kD ?_; refine dR (.cons_cons _ (.cons_cons _ (.cons _ (.cons _ (.refl _))))) ?_; exact za7 (b9,g7,q7,d7) sB I I ⟨hle6.trans hle7,hu7⟩))
 rintro ⟨b9,g7,q7,d7⟩ ⟨hle7,hu7⟩;dsimp only at hle7 hu7 ⊢;have hu5:=hu5.mono hle7;refine sW I (lU (SU.eq (v':=.int .u8 (nn:Int)) (zd4 I I dC) (zd7 (Value.int .u8) (by have h:=Int.ofNat_tmod bt 9; rw[← hnn]; exact h.symm))) ?_);refine lU (SU.eq (v':=vi nn) (zd5 underlying5 uT3 I) (zd7 vi (zk3 _ oM))) (aT I (rZ (aT I (sQ (rZ (aT I (bK (zb4 25 1 ?_))))))));refine oP (ι:=Nat×PH×Value×List Sv) (fun z=>[(7,vb true),(8,pp b8 0),(9,pp b9 0),(10,vi nn),(11,z.2.2.1),(12,vi z.1)]) (fun z=>z.2.1) (fun z=>rowA bq 25 z.2.2.1 z.2.2.2::pt b9 (.cells #[.slice q7 Sp.length d7] 30 (0,0))::pt b8 (.cells #[.slice q5 f9.length d5] 30 (0,0))::s) (fun z=>z.1≤nn∧Le g7 z.2.1∧ar (bC z.2.1) (List.replicate z.1 [4,5]) z.2.2.2) (fun z=>nn - z.1) (0,g7,.slice none 0 0,[]) sB I I ⟨zf2 _,zb7 _,trivial⟩ ?_;rintro ⟨k,g8,ov,os⟩ ⟨hk,hle8,hacc⟩;dsimp only at hk hle8 hacc ⊢;have hol:=oJ hacc;refine sQ (sW I (lM I (yL I (tZ ?_))));refine iP I (fun hlt=>?_) (fun hlt=>?_)
 ·refine kP (tN (sQ (bK (rG (lM I (lW (bS sty25 I I I (ab sB) dC) ?_))))));rintro _ _ _ ⟨b42,rfl,rfl,rfl⟩;refine zb3 fun g9 hle9 hb42=>?_;refine lW (bS sty22 I I I (ab ⟨I,trivial⟩) dC) ?_;rintro _ _ _ ⟨b43,rfl,rfl,rfl⟩;refine lW (aP (e:=bq) (l:=os) 0 ⟨some ⟨b42,0,none⟩,2,2⟩ sty22 I I I I I oM oM) ?_;rintro v44 _ _ ⟨rfl,rfl⟩;refine lA I (nL (bN (tN (rG (lM I (yD I (lA I (nL ?_))))))));exact gA (k+1,g9,v44,os++[⟨some ⟨b42,0,none⟩,2,2⟩]) sB I I ⟨by dsimp only; omega,hle8.trans hle9,by
   dsimp only;rw[xl];exact (hacc.mono fun _ _=>bC.mono hle9).append ⟨SlA.lit hb42 I I,trivial⟩⟩ (by dsimp only; omega)
 ·have hke:k=nn:=oM;subst hke;refine fS fun g9 hle9 hs9=>?_;obtain ⟨q9,d9,rfl⟩:=Sl.form hs9;have hT:aI g9 (.slice q9 os.length d9) (List.replicate k [4,5]):=⟨os,hs9,hacc.mono fun _ _=>bC.mono hle9⟩;rw[hol] at hT ⊢;have hTl:(List.replicate k ([4,5]:List Int)).length<1099511627776:=by rw[List.length_replicate]; omega
  have hTs:∀ t∈List.replicate k ([4,5]:List Int),t.length<1099511627776:=fun t ht=>by rw[(List.mem_replicate.1 ht).2]; decide
  have hu5:=hu5.mono (hle8.trans hle9);have hu7:=hu7.mono (hle8.trans hle9);refine xI (tX (tX (bX (tN (rZ (aT I ?_))))));refine SC.cut (ι:=Unit) (fun _=>[(7,vb true),(8,pp b8 0),(9,pp b9 0),(10,vi k),(11,.slice q9 k d9),(13,vi (iC k))]) (fun _=>g9) (fun _=>pt b9 (.cells #[.slice q7 Sp.length d7] 30 (0,0))::pt b8 (.cells #[.slice q5 f9.length d5] 30 (0,0))::s) (fun _=>True) ?_ ?_
  ·refine bK (sW I (lU (gR I I) (aT I ?_)));refine iP I (fun h6=>?_) (fun h6=>?_)
   ·have hw:iC k=2:=by unfold iC; rw[zf6 oM]
    rw[hw];refine rG (lA I (nL (bN ?_)));exact za7 () sB I I trivial
   ·refine sW I (yE I (aT I ?_));refine iP I (fun h0=>?_) (fun h0=>?_)
    ·have hw:iC k=45:=by unfold iC; rw[zf5 oM,zf6 oM]
     rw[hw];refine rG (lA I (nL (bN ?_)));exact za7 () sB I I trivial
    ·have hw:iC k=0:=by unfold iC; rw[zf5 oM,zf5 oM]
     rw[hw];refine kP (bN ?_);exact za7 () sB I I trivial
  rintro - -;refine rZ (lK (qV 1 bh az I I I) (lM I (lW (cL call23 I (dY E hE g9 _ _ _ f9 _ hu5 jm ku hT hTl hTs)) ?_)));rintro _ g10 _ ⟨rfl,hle10,rfl⟩;rw[kY hn9];have hu5:=hu5.mono hle10;have hu7:=hu7.mono hle10;have hT:=hT.mono hle10;refine aT I ?_;refine SC.cut (ι:=PH) (fun _=>[(7,vb true),(8,pp b8 0),(9,pp b9 0),(10,vi k),(11,.slice q9 k d9),(13,vi (iC k)),(14,vi (iC k))]) (fun g'=>g') (fun _=>pt b9 (.cells #[.slice q7 Sp.length d7] 30 (0,0))::pt b8 (.cells #[.slice q5 f9.length d5] 30 (0,0))::s) (fun g'=>Le g10 g') ?_ ?_
  ·refine SC.cutB 59 (decide ((k:Int)<4)||decide ((k:Int)>6)) ?_ ?_
   ·refine rG (lM I (yL I (lM I ?_)));refine sP ?_ ?_
    ·intro h56;refine yA I (yA I (yP I (nL ?_)));exact za8 (by (simp_all[bd]; done)) mI
    ·intro h56;refine yC I (lY I I I (gR I I) (yF I (nL ?_)));exact za8 (by (simp_all[bd]; omega)) mI
   refine iQ I (fun hq=>?_) (fun hq=>?_)
   ·have hq:k<4∨k>6:=by
     rw[zi7,zi8,zi8] at hq;omega
    refine rG (lK (qV 1 bh az I I I) (lM I (lW (cL call12 I (fm E hE g10 _ _ _ f9 _ 2 hu5 jm ku hT hTl hTs dC dC)) ?_)));rintro _ g11 _ ⟨rfl,hle11,u11,rfl,-⟩;rw[tr hn9 hq];refine lM I (yX I (yX I (lA I (nL ?_))));exact za7 g11 sB I I hle11
   ·refine kP ?_;exact za7 g10 sB I I (zb7 _)
  rintro g11 hle11;have hu5:=hu5.mono hle11;have hu7:=hu7.mono hle11;have hT:=hT.mono hle11;obtain ⟨rs,hrs,hall⟩:=id hT;have hrl:=oJ hall;have hcap:=(SlA.cap hrs).2;have hmk:(min (k:Int) 3)=((min k 3:Nat):Int):=oM;have hm3:min k 3≤k:=Nat.min_le_left _ _;have hcut:=SlA.cut (l:=0) (m:=min k 3) (k:=1) (e:=bq) (xs:=rs) (p:=q9) (c:=d9) (g:=g11) (by rw[hrl]; exact hrs) (zf2 _) oM;rw[List.drop_zero,Nat.sub_zero] at hcut;obtain ⟨q3,c3,hq3⟩:=za2 hcut;rw[zd9,hrl,Nat.min_eq_left hm3] at hq3;rw[hq3] at hcut;have hT3:aI g11 (.slice q3 (min k 3) c3) (List.replicate (min k 3) [4,5]):=⟨rs.take (min k 3),hcut,by
   have:=ar.take (min k 3) hall;rwa [List.take_replicate,Nat.min_eq_left hm3] at this⟩
  have hl3:(List.replicate (min k 3) ([4,5]:List Int)).length<1099511627776:=by rw[List.length_replicate]; omega
  have hs3:∀ t∈List.replicate (min k 3) ([4,5]:List Int),t.length<1099511627776:=fun t ht=>by rw[(List.mem_replicate.1 ht).2]; decide
  have hbad:=vR (l:=Sp) (List.replicate (min k 3) [4,5]);generalize List.replicate (min k 3) ([4,5]:List Int)=T3 at *;refine sW I (lM I (lU (SU.eq (v':=vi (min k 3:Nat)) (SU.minF I I) (zd7 vi hmk)) (lU (SU.eq (v':=.slice q3 (min k 3) c3) (SU.sliceH bL ci I I oM oM) hq3) (aT I (rZ (lK (qV 0 bh az I I I) (lM I (lW (cL call12 I (fm E hE g11 _ _ _ Sp _ 6 hu7 hSf hSi hT hTl hTs dC dC)) ?_))))))));rintro _ g12 _ ⟨rfl,hle12,u12,rfl,-⟩;rw[vP];have hu7:=hu7.mono hle12;have hT3:=hT3.mono hle12;refine lM I (yX I (yX I (lA I (aT I (rZ (lK (qV 0 bh az I I I) (lM I (lW (cL call14 I (m5 E hE g12 _ _ _ Sp T3 2 hu7 hSf hSi hT3 hl3 hs3 dC dC)) ?_))))))));rintro _ g13 _ ⟨rfl,hle13,u13,rfl,-⟩;have hu7:=hu7.mono hle13;have hT3:=hT3.mono hle13;refine lM I (yX I (yX I (lA I (aT I (rZ (lK (qV 0 bh az I I I) (lM I (lW (cL call12 I (fm E hE g13 _ _ _ Sp T3 2 hu7 hSf hSi hT3 hl3 hs3 dC dC)) ?_))))))));rintro _ g14 _ ⟨rfl,hle14,u14,rfl,-⟩;have hu7:=hu7.mono hle14;have hu5:=hu5.mono (hle12.trans (hle13.trans hle14));have hT:=hT.mono (hle12.trans (hle13.trans hle14));refine lM I (yX I (yX I (lA I (aT I (rZ (lK (qV 0 bh az I I I) (lW (cL call24 I (gX E g14 _ _ Sp hu7 hSf)) ?_)))))));rintro _ _ _ ⟨rfl,rfl,rfl⟩;have hlast:Le g g14:=hle1.trans (hle2.trans (hle3.trans (hle4.trans (hle5.trans (hle7.trans (hle8.trans (hle9.trans (hle10.trans (hle11.trans (hle12.trans (hle13.trans hle14)))))))))));generalize ce Sp T3 2=pe at *;by_cases hz:(aU Sp).2=0
  ·refine lM I (yX I (yX I (lA I (aT I (sW I (lM I (SL.gq (gT I I I dC) (qV 1 bh az I I I) dC (yC I (SL.go (gT I I I dC) (cL call23 I (dY E hE g14 _ _ _ f9 _ hu5 jm ku hT hTl hTs)) dC ?_)))))))));rintro _ g15 _ ⟨rfl,hle15,rfl⟩;rw[kY hn9];refine yC I (lY I I I (SU.eq (v':=vb true) (eQ I I) (zd7 vb (zf4 I))) (yP I (lM I (yC I (yC I (lY I I I (SU.eq (v':=vb true) (eQ I I) (zd7 vb (zf4 I))) (yP I (lM I (yC I (lY I I I (eQ I I) (yP I (lM I (yC I (yC I (lY I I I (SU.eq (v':=vb true) (eQ I I) (zd7 vb (zf4 I))) (yP I (lM I (yC I (lY I I I (SU.eq (v':=vb true) (eQ I I) (zd7 vb (zf4 hz))) (yC I (yA I (yA I (yA I (lY I I I (wT I I) (yP I (aT I (rE ?_)))))))))))))))))))))))))));refine dR (s':=s) uR ?_;exact za6 (.inl I) results5 I ⟨I,I,hlast.trans hle15⟩
  ·have hpe:=hbad hz;refine lM I (yX I (yX I (lA I (aT I (sW I (lM I (SL.gq (gT I I I dC) (qV 1 bh az I I I) dC (yC I (SL.go (gT I I I dC) (cL call23 I (dY E hE g14 _ _ _ f9 _ hu5 jm ku hT hTl hTs)) dC ?_)))))))));rintro _ g15 _ ⟨rfl,hle15,rfl⟩;rw[kY hn9];refine yC I (lY I I I (SU.eq (v':=vb true) (eQ I I) (zd7 vb (zf4 I))) (yP I (lM I (yC I (yC I (lY I I I (SU.eq (v':=vb true) (eQ I I) (zd7 vb (zf4 I))) (yP I (lM I (yC I (lY I I I (eQ I I) (yP I (lM I (yC I (yC I (lY I I I (SU.eq (v':=vb true) (eQ I I) (zd7 vb (zf4 I))) (yP I (lM I (yC I (lY I I I (SU.eq (v':=vb false) (eQ I I) (zd7 vb (zf3 hz))) (yC I (yC I (yC I (lY I I I (SU.eq (v':=vb true) (eQ I I) (zd7 vb (zf4 hpe))) (lY I I I (wF I I) (yP I (aT I (rE ?_)))))))))))))))))))))))))));refine dR (s':=s) uR ?_;exact za6 (.inl I) results5 I ⟨I,I,hlast.trans hle15⟩
end Go.Proofs.YtcfkpajlakidbaaGreat
namespace Go.Proofs.YtcfkpajlakidbaaGreat.tilesErrorsDone
open _root_.Go.Proofs.Tryz _root_.Go.Proofs.YtcfkpajlakidbaaGreat.Tryz
open Go Go.Sy Go.Pl Go.Proofs Go.Proofs.YtcfkpajlakidbaaGreat
open Go.ChangeShapes Go.WideShapes Go.ChangeAt Go.RowKit
set_option linter.unusedVariables false
theorem own:ownKnob Tryz.prog.godebug=none:=by kernel_rfl
theorem laidOut:laidOutB Tryz.prog=true:=by kernel_rfl
set_option maxRecDepth 100000 in
theorem lifted (os:Os)(started:os.Started)(H:Type)(enc:TypeId×Value→H) :
  ReturnsInHanded {} Tryz.checked os 5 .any (Rows.tilesErrorsSpec.pre6 enc Tryz.prog f5 Rows.tilesErrorsRow.domain false) (Rows.tilesErrorsSpec.post enc Tryz.prog f5 false true false false):=by
 refine returnsInHanded_of_change (C:=Tryz.checked) own started kR func5
  (ChangeSpec.witness6 (enc:=enc) (C:=Tryz.checked) false ⟨#[],#[.agg #[.int .i64 0,.slice none 0 0,.int .i64 0],.int .u8 0,.agg #[.int .i64 0,.int .i64 0,.int .i64 0]],[]⟩ 8 kR kR kR kR) ?_
 intro W base args ds gs before hval0 hW hcnd _;have hval:∀ (j:Nat) t v,f5.params[j]?=some t→args[j]?=some v→Value.okWide Tryz.prog W .any base t v:=hval0;have hW':=hW;obtain ⟨p,q,hA0,hV,rfl,hfz,hnd⟩:=hW;have hA:DataW.TrodAll enc Tryz.prog W 0 (fun _=>true) true f5.params.toList args.toList ds p:=hA0;rw[params5] at hA hval;obtain ⟨v0,vs0,d0,ds0,p0,q0,hargs,rfl,rfl,h0,r0⟩:=trodAll_cons hA;obtain ⟨v1,vs1,d1,ds1,p1,q1,rfl,rfl,rfl,h1,r1⟩:=trodAll_cons r0;obtain ⟨v2,vs2,d2,ds2,p2,q2,rfl,rfl,rfl,h2,r2⟩:=trodAll_cons r1;obtain ⟨rfl,rfl,rfl⟩:=trodAll_nil r2;obtain rfl:args = #[v0,v1,v2]:=by cases args; simp_all
 obtain ⟨rfl,rfl⟩:=trodVars_none hV;have lt0:∀ x∈p0,x.block<W.heap.size:=by obtain ⟨m,hm⟩:=h0; exact DataW.trod_lt m _ _ _ hm
 have lt1:∀ x∈p1,x.block<W.heap.size:=by obtain ⟨m,hm⟩:=h1; exact DataW.trod_lt m _ _ _ hm
 have lt2:∀ x∈p2,x.block<W.heap.size:=by obtain ⟨m,hm⟩:=h2; exact DataW.trod_lt m _ _ _ hm
 obtain ⟨kd,y,u,ls,e0,hls⟩:=xb (hval 0 24 v0 rfl rfl) h0;obtain ⟨k1,e1,hk1⟩:=zZ (hval 1 5 v1 rfl rfl) h1;obtain ⟨x2_0,x2_1,x2_2,e2,w2_0,w2_1,w2_2⟩:=zK (hval 2 35 v2 rfl rfl) h2;clear hA0 hval0;have walk:Calls Tryz.prog 5 #[v0,v1,v2] W fun e w'=>e = .returned (.bool true)∧Below W.heap.size W w':=by
  rw[e0,e1,e2];refine (kA (E0 W) I (sH W) [] u kd y ls k1 x2_0 x2_1 x2_2 hls hk1 w2_1 W (xU W)).mono ?_;rintro e w' ⟨v,g',s',rfl,hat,rfl,rfl,hle⟩;exact⟨I,xW hat hle⟩
 refine walk.mono fun e W' ⟨he,bel⟩=>?_;subst he;exact⟨_,I,_,_,_,[],_,[],hW',trodAll_mk1 (shut_bool underlying4 _),(trodAll_cons_mk (Below.trod laidOut kR (zf8 kR) h0 bel lt0) (trodAll_cons_mk (Below.trod laidOut kR (zf8 kR) h1 bel lt1) (trodAll_cons_mk (Below.trod laidOut kR (zf8 kR) h2 bel lt2) trodAll_mk0))),I,bel.frame _,fun h=>by cases h⟩
theorem over:Rows.tilesErrorsRow.holds Tryz.pinned (OpenSpec.ofChange Rows.tilesErrorsSpec) :=
 OpenClaim.holds_of_wide 5 f5 rfl rfl rfl rfl rfl rfl rfl ⟨rfl,rfl,rfl,rfl,rfl⟩ rfl rfl rfl rfl rfl kR func5 kR
  (zf8 kR) (by unfold Func.isWrapper; first | (rw[zf6 (by decide +kernel)]; kernel_rfl) | (rw[zf5 (by decide +kernel)]; exact⟨I,I⟩))
  (fun os started H enc _=>lifted os started H enc)
theorem proved:Rows.TilesErrorsSaid:=over
#print axioms proved
end Go.Proofs.YtcfkpajlakidbaaGreat.tilesErrorsDone
