/- 12 -/
import Derived.Test.YtcfkpajlakidbaaGreatTp11
import Derived.Test.YtcfkpajlakidbaaGreatTp09
import Derived.Test.YtcfkpajlakidbaaGreatTp08
import Derived.Test.YtcfkpajlakidbaaGreatTp05
import Derived.Test.YtcfkpajlakidbaaGreatTp07
import Derived.Test.YtcfkpajlakidbaaGreatTp10
set_option linter.unusedSimpArgs false
set_option linter.unusedVariables false
namespace Go.Proofs.YtcfkpajlakidbaaGreat
open _root_.Go.Proofs.Tryz _root_.Go.Proofs.YtcfkpajlakidbaaGreat.Tryz
open Go Go.Sy Go.Pl Go.Proofs
set_option maxRecDepth 100000
set_option maxHeartbeats 4000000
def Pgs (g:PH)(v:Value)(P:List (List (List Int))):Prop:=∃ rs,SlA ak g v rs∧az (fun (Q:List (List Int)) (r:Sv)=>ax g (.slice r.p r.n r.c) Q) P rs
theorem Pgs.mono {g g':PH}{v:Value}{P:List (List (List Int))}(h:Pgs g v P)(hl:Le g g'):Pgs g' v P:=by
 obtain ⟨rs,h1,h2⟩:=h;exact⟨rs,za3 h1 hl,h2.mono fun _ _ h=>h.mono hl⟩
theorem Pgs.nil (g:PH):Pgs g (.slice none 0 0) []:=⟨[],zb8 g _,trivial⟩
theorem qh {α:Type}[DecidableEq α]{P:List α}{n:Nat}(h1:1<n)(hn:n≤P.length):fW (P.take n)=if P[n - 1]'oM=P[n - 2]'oM then fW (P.take (n - 1)) else P.take n:=by
 have e1:P.take n=P.take (n - 2)++[P[n - 2]'oM]++[P[n - 1]'oM]:=by
  have a1:=tS (l:=P) (i:=n - 1) oM;have a2:=tS (l:=P) (i:=n - 2) oM;rw[show n - 2+1=n - 1 by omega] at a2;rw[show n - 1+1=n by omega] at a1;rw[a1,a2]
 have e2:P.take (n - 1)=P.take (n - 2)++[P[n - 2]'oM]:=by
  have a2:=tS (l:=P) (i:=n - 2) oM;rwa [show n - 2+1=n - 1 by omega] at a2
 rw[e1,e2];generalize P.take (n - 2)=q;generalize P[n - 2]'oM=a;generalize P[n - 1]'oM=b;unfold fW;rw[List.reverse_append,List.reverse_append];show (kE (b::a::q.reverse)).reverse=if b=a then (kE (a::q.reverse)).reverse else q++[a]++[b]
 conv=>lhs; unfold kE
 split
 ·rfl
 ·simp
theorem uf {α:Type}[DecidableEq α]{P:List α}{n:Nat}(h:¬ 1<n):fW (P.take n)=P.take n:=by
 have hl:(P.take n).length≤1:=by rw[ze2]; omega
 generalize P.take n=q at hl
 match q,hl with
 | [],_=>rfl
 | [a],_=>rfl
theorem sz {L:List Cl}(hL:Rt L){T:List (List Int)}(hT:T.length≤6):∀ c∈dv L T,c.id<4611686018427387904:=fun z hz=>by
 obtain ⟨d,hd,rfl⟩:=ze9.1 hz;have hd:=(dy _ _).1 hd;rw[B9] at hd;obtain ⟨c,hc,s,hs,rfl⟩:=(ya hL).1 hd;have h1:=sub_le (qy.1 hs).2;have h2:=Cq L c.id hT;have h3:=(zf3.1 (hL.ix_get hc)).1;have h4:=hL.few;have h5:=Bb (i:=ixB L c.id) (s:=s) hT oM oM;show bId T.length (ixB L c.id) s<_;omega
theorem su {l:List Cl}(h:(aX l).2=0) : -1≤qe l∧qe l≤8:=by
 have hr:=jN h;have ht:ae l=aa l:=bg hr.asc;have key:∀ (q:List Cl) (m:Int),(∀ c∈q,c.dim≤8) → -1≤m→m≤8 → -1≤nZ q m∧nZ q m≤8:=by
  intro q;induction q with
  | nil=>exact fun m _ h1 h2=>⟨h1,h2⟩
  | cons c q ih =>
   intro m hq h1 h2;have hc:=hq c (by simp);exact ih (max m c.dim) (fun d hd=>hq d (by simp[hd])) oM oM
 unfold qe;rw[ht];exact key _ _ (fun c hc=>(hr.form c hc).dim.2) dC dC
theorem sj {B:List Cl}{c:Cl}(hc:c∈B)(h:200<(B.filter fun x=>decide (x.dim=c.dim)).length):nN B=true:=zj3.2 ⟨c,hc,zf6 h⟩
theorem w8 {B:List Cl}(h:∀ d:Int,(B.filter fun x=>decide (x.dim=d)).length≤200):nN B=false:=by
 rw[Bool.eq_false_iff];intro k;obtain ⟨c,hc,h2⟩:=zj3.1 k;have:=h c.dim;simp at h2;omega
theorem Tryz.build72 (b mb mk:Nat)(p:Int)(w:World):(Instr.build 72 #[(0,pp b 0),(1,vi p),(2,.map (some mb)),(3,.map (some mk))]).run Tryz.prog w = .ok (.agg #[pp b 0,vi p,.map (some mb),.map (some mk)]) w:=by
 have h1:∀ n,(vi n).cells = #[vi n]:=fun _=>rfl;have h2:(pp b 0).cells = #[pp b 0]:=rfl;have h3:∀ m:Nat,(Value.map (some m)).cells = #[.map (some m)]:=fun _=>rfl;simp[Instr.build,Instr.fill,h1,h2,h3];rfl
theorem qw {rf:List Cl→List Cl→Nat}{n:Nat}{B:List Cl}{D:Nat}{r:Int}:(wx rf n B D r).length=n:=by
 unfold wx;rw[ze4,zi2]
theorem dX {α:Type}(f:Nat→α)(k:Nat):(List.range (k+1)).map f=(List.range k).map f++[f k]:=by
 rw[List.range_succ,zg3];rfl
theorem Bx {ms:Mk}{j:Nat}{k:Int}{v:Value}{l:List Rc}(h:ms[j]?=some (k,v,l)){hd:Own}(s:Own){x:Ent}(hh:hd.length=6):((hd++(ff ms++s)).set (j+6) x)[j+6]?=some x:=by
 have hj:=(zf3.1 h).1;rw[List.getElem?_set_self];simp only[ze3,ff,ze4];omega
theorem jm {rf:List Cl→List Cl→Nat}{n:Nat}{B:List Cl}{D:Nat}:(gw rf n B D).length=n:=by
 unfold gw;rw[ze4,zi2]
theorem lz {rf:List Cl→List Cl→Nat}{n:Nat}{B:List Cl}{D:Nat}:∀ Q∈gw rf n B D,Q.length=n∧∀ x∈Q,x.length=D:=fun Q h=>by
 obtain ⟨r,-,rfl⟩:=ze9.1 h;refine⟨qw,fun x hx=>?_⟩;obtain ⟨a,-,rfl⟩:=ze9.1 hx;rw[ze4,zi2]
theorem Tryz.sty37:STy Tryz.prog 37 22 1 24 (.slice none 0 0):=⟨underlying37,⟨t22,by kernel_rfl,by kernel_rfl,by kernel_rfl,by kernel_rfl⟩,rfl,by decide⟩
theorem kX (E:World)(hE:E.drawn=0)(g:PH)(s:Own)(v tv:Value)(l:List Cl)(T:List (List Int))(p:Int)(hv:am g v l)(hf:cR l)(hw:∀ c∈l,iS c.id)(ht:ax g tv T)(hT:T.length<1099511627776)(hTl:∀ t∈T,t.length<1099511627776)(hp2:2≤p)(hp9:p<9) :
  Ctr Tryz.prog E 12 #[.agg #[v],tv,vi p] g s (fun x g' s'=>s=s'∧Le g g'∧∃ u,x = .tuple #[u,vi (bB l T p)]∧Pgs g' u (a8 l T p)):=by
 obtain ⟨vp,vc,rfl⟩:=hv.form;have hnone:bB l T p≠0→a8 l T p=[]:=fun h=>by unfold a8; rw[zf8 h]
 refine za9 (args:=[.agg #[.slice vp l.length vc],tv,vi p]) func12 I ntmps12 (bE I) ?_;refine rZ (bW (bO I) fun b3=>?_);refine lA I (aT I (sQ (sW I (lW (cL call29 I (ot E g _ p hp2 hp9)) ?_))));rintro _ _ _ ⟨rfl,rfl,rfl⟩;refine lU (SU.not I) (tZ ?_);refine iQ I (fun hpr=>?_) (fun hpr=>?_)
 ·have hpr:e6 p=false:=by simpa using hpr
  refine rZ (lA I (aT I (rE (tR ?_))));have he:bB l T p=46:=by unfold bB; rw[zf8 hpr]
  refine dR (s':=s) uR ?_;exact ST.ret2 (.inl I) results12 I I ⟨I,zb7 g,_,by rw[he],by rw[hnone (by rw[he]; decide)]; exact Pgs.nil g⟩
 ·have hpr:e6 p=true:=by simpa using hpr
  have hp:=eF.1 hpr;refine kP (tN (rZ (lK (qV 0 bh aw I I I) (lM I (lW (cL call30 I (mF E hE g _ _ tv l T hv hf hw ht hT hTl)) ?_)))));rintro _ g1 _ ⟨rfl,hle1,pv,rfl,hcov⟩;refine lM I (yX I (yX I (lA I (aT I (sQ (sW I (lU (nQ I I) (tZ ?_))))))));refine iP I (fun hop=>?_) (fun hop=>?_)
  ·refine sW I (lA I (aT I (rE (tR ?_))));have he:bB l T p=cD l T:=by unfold bB; rw[zf7 (by rw[hpr]; simp),zf8 hop]
   refine dR (s':=s) uR ?_;exact ST.ret2 (.inl I) results12 I I ⟨I,hle1,_,by rw[he]; rfl,by rw[hnone (by rw[he]; exact hop)]; exact Pgs.nil _⟩
  ·have hop0:cD l T=0:=zg7 hop;have hcov:=hcov hop0;obtain ⟨hok,hT6⟩:=gX hop0;have hRt:=jN hok;have hLt:ae l=aa l:=bg hRt.asc;have hRt:Rt (ae l):=by rw[hLt]; exact hRt
   have hBf:=ci (iL hRt hT6);have hBlt:=sz hRt hT6;have hdim:=su hok;refine kP (tN (sW I (lW (cL call31 I (nu E g1 _ pv (ae l) T hcov hRt hT6)) ?_)));rintro _ g2 _ ⟨rfl,hle2,u,rfl,hu⟩;obtain ⟨up,uc,rfl⟩:=hu.form;refine bW (aL zk9) fun b10=>?_;refine oZ (sK 0 aw I I I I I ⟨I,trivial⟩) (tZ (sQ (rZ (lK (qV 0 bh aw I I I) (lW (cL call24 I (k8 E g2 _ _ (dv (ae l) T) hu hBf)) ?_)))));rintro _ _ _ ⟨rfl,rfl,rfl⟩;refine lM I (yX I (yX I (lA I (aT I (sW I (lU (nQ I I) (tZ ?_)))))));refine iP I (fun hbl=>?_) (fun hbl=>?_)
   ·refine rZ (lA I (aT I (rE (tR ?_))));have he:bB l T p=2:=by unfold bB; rw[zf7 (by rw[hpr]; simp),zf7 hop,zf8 (.inl hbl)]
    refine dR (s':=s) uR ?_;exact ST.ret2 (.inl I) results12 I I ⟨I,hle1.trans hle2,_,by rw[he],by rw[hnone (by rw[he]; decide)]; exact Pgs.nil _⟩
   ·have hBR:Rt (dv (ae l) T):=by
     have:=jN (zg7 hbl);unfold dv at this ⊢;rwa [eI] at this
    generalize hBd:dv (ae l) T=B at *;obtain ⟨us,hus,hallu⟩:=hu;have hul:=hallu.length;obtain ⟨bc,mc,cv,iv,rfl,hbc,-⟩:=id hcov;refine kP (tN (sW I (lM I (lW (SO.mkMap) ?_))));rintro _ _ _ ⟨b46,rfl,rfl,rfl⟩;refine lW (SO.mkKn (F:=fun a low dim=>dw (rkP p) T.length B a low dim)) ?_;rintro _ _ _ ⟨b47,rfl,rfl,rfl⟩;refine lU (za1 I (build72 _ _ _ _)) (bW (bO I) fun b49=>?_);refine aT I (sQ (rZ (lU (fA ed I c8 I) (lK (qL (v:=.slice up B.length uc) eY I (cO 3 I I)) (lU (eN aA I) (lM I (tZ (bK ?_))))))));refine oP (ι:=Nat×Mk) (fun z=>[(3,pp b3 0),(8,pp bc 0),(10,pp b10 0),(13,pp b49 0),(51,.slice up B.length uc),(52,vi B.length),(53,vi z.1)]) (fun _=>g2) (fun z=>pt b49 (.cells #[pp bc 0,vi p,.map (some b46),.map (some b47)] 72 (0,0))::knE b47 (fun a low dim=>dw (rkP p) T.length B a low dim)::mp b46 (nD z.2)::pt b10 (.cells #[.slice up B.length uc] 30 (0,0))::pt b3 (.cells #[.slice vp l.length vc] 30 (0,0))::(ff z.2++s)) (fun z=>z.1≤us.length∧(∀ d,md (nV z.2) d=(us.take z.1).filter fun r=>decide (r.dim=d))∧∀ d:Int,((us.take z.1).filter fun r=>decide (r.dim=d)).length≤200) (fun z=>us.length - z.1) (0,[]) sB I I ⟨zf4 _,fun _=>I,fun _=>by simp⟩ ?_;rintro ⟨k,ms⟩ ⟨hk,hcon,hcnt⟩;dsimp only at hk hcon hcnt ⊢;refine rZ (yL I (tZ (sQ ?_)));refine iP I (fun hlt=>?_) (fun hlt=>?_)
    ·have hkr:k<us.length:=oM;have hkB:k<B.length:=oM;have hb1:=za4 hus oM;have hgr:us[((k:Nat):Int).toNat]?=some us[k]:=gE hkr;have hsn:=yu hkr;have hR:=hallu.get (gE hkB) (gE hkr);have hmB:B[k]∈B:=gM hkB;have hfB:=(l8 hallu B[k].dim).length;have hsub:∀ d:Int,((us.take (k+1)).filter fun r=>decide (r.dim=d)).length≤(us.filter fun r=>decide (r.dim=d)).length:=fun d=>((List.take_sublist _ _).filter _).length_le;have hlB:=hBR.few;generalize us[k]=x at *;generalize B[k]=y at *;obtain ⟨xi,xd,xp,xn,xc⟩:=x;obtain ⟨-,hyd,-⟩:=hR;dsimp only at hyd hsn;obtain ⟨ms1,j0,v0,l0,hp0,hp1,hp2,hp3,hp4,-,hp5⟩:=CX ms xd;have hl0:l0.length≤200:=by rw[← hp0,hcon]; exact hcnt _
     have hl1:((us.take (k+1)).filter fun r=>decide (r.dim=xd))=l0++[⟨xi,xd,⟨xp,xn,xc⟩⟩]:=by rw[hsn,zf8 rfl,← hp0,hcon]
     refine kP (tN (sQ (bK (rZ (lU (iA aA au I I hb1 oM sL) (lK (eA eX au I (za5 hus) hgr) (bW (aL zk8) fun b15=>?_)))))));refine oZ (sK 0 au I I I I I sB) (tZ (sQ ?_));refine SC.to (fun w hw=>hp5 E g2 [pt b15 (.cells #[vi xi,vi xd,.slice xp xn xc] 63 (0,0)),pt b49 (.cells #[pp bc 0,vi p,.map (some b46),.map (some b47)] 72 (0,0)),knE b47 (fun a low dim=>dw (rkP p) T.length B a low dim),mp b46 (nD ms),pt b10 (.cells #[.slice up B.length uc] 30 (0,0)),pt b3 (.cells #[.slice vp l.length vc] 30 (0,0))] s w hw) ?_;refine SC.drawT 6 [16] [(0,2),(1,2),(2,2),(3,1),(4,2),(5,1),(6,2),(7,2),(8,2),(9,1),(10,2),(11,1),(12,1),(13,1),(14,0),(15,0),(16,0)] ze1 kR ?_;refine yM rfl (pU rfl (nC rfl) (pU rfl (fA tV rfl sizeOf69 rfl) (pK rfl (qL (v:=.map (some b46)) isAgg69 rfl (cO 1 rfl rfl)) (pU rfl (fA ao rfl zT3 rfl) (pK rfl (qL (v:=vi xd) iT3 rfl (cO 0 rfl rfl)) (yM rfl (pU rfl (nC rfl) (pU rfl (fA tV rfl sizeOf69 rfl) (pK rfl (qL (v:=.map (some b46)) isAgg69 rfl (cO 1 rfl rfl)) (pU rfl (fA ao rfl zT3 rfl) (pK rfl (qL (v:=vi xd) iT3 rfl (cO 0 rfl rfl)) (pK rfl (SQ.eq (v':=v0) (SQ.lookup mty69 rfl rfl (di.own 3 rfl)) hp2) (pK rfl (qV 0 eX au rfl rfl rfl) (SP.o rfl (bS sty28 rfl rfl rfl (ab ⟨rfl,trivial⟩) dC) dC (.inr (by rintro _ _ _ ⟨b71,rfl,rfl,rfl⟩; exact⟨by exact zb7 _,(by exact .cons _ (List.take_sublist _ _))⟩)) ?_))))))))))))));rintro _ _ _ ⟨b71,rfl,rfl,rfl⟩;refine SP.o rfl (aP (e:=encCell) (l:=l0) (j0+6) ⟨xi,xd,⟨xp,xn,xc⟩⟩ sty28 rfl rfl rfl (xW hp1 s) rfl oM oM) dC (.inr (by rintro v72 _ _ ⟨rfl,rfl⟩; exact⟨by exact zb7 _,(by exact cg _ _ _ _)⟩)) ?_;rintro v72 _ _ ⟨rfl,rfl⟩;refine zc8 fun ⟨w0,hw0⟩=>?_;obtain ⟨q72,d72,rfl⟩:=ag (e:=encCell) (l:=l0++[⟨xi,xd,⟨xp,xn,xc⟩⟩]) (i:=j0+6) hw0 (Bx hp1 s rfl);clear hw0 w0;refine SP.on I (SO.mapUpdate 3 mty69 I I I I) (.inl dC) ?_;rintro _ _ _ ⟨rfl,rfl⟩;refine pN (tN (sQ (SC.drop (s':=pt b15 (.cells #[vi xi,vi xd,.slice xp xn xc] 63 (0,0))::pt b49 (.cells #[pp bc 0,vi p,.map (some b46),.map (some b47)] 72 (0,0))::knE b47 (fun a low dim=>dw (rkP p) T.length B a low dim)::mp b46 (nD (ms1.set j0 (xd,Value.slice q72 (l0++[(⟨xi,xd,⟨xp,xn,xc⟩⟩:Rc)]).length d72,l0++[(⟨xi,xd,⟨xp,xn,xc⟩⟩:Rc)])))::pt b10 (.cells #[.slice up B.length uc] 30 (0,0))::pt b3 (.cells #[.slice vp l.length vc] 30 (0,0))::(ff (ms1.set j0 (xd,Value.slice q72 (l0++[(⟨xi,xd,⟨xp,xn,xc⟩⟩:Rc)]).length d72,l0++[(⟨xi,xd,⟨xp,xn,xc⟩⟩:Rc)]))++s)) (by rw[← hp3,← xV hp1 s]; exact .refl _) ?_)));refine dW [] [(0,2),(1,2),(2,2),(3,1),(4,2),(5,1),(6,1),(7,2),(8,2)] ze1 kR ?_;refine yM I (pU I (nC I) (pU I (fA tV I sizeOf69 I) (pK I (qL (v:=.map (some b46)) isAgg69 I (cO 1 I I)) (pU I (fA ao I zT3 I) (pK I (qL (v:=vi xd) iT3 I (cO 0 I I)) (pK I (SQ.eq (v':=Value.slice q72 (l0++[(⟨xi,xd,⟨xp,xn,xc⟩⟩:Rc)]).length d72) (SQ.lookup mty69 I I (di.own 3 I)) (by rw[← hp3,x6,zf8 I]; rfl)) ?_))))));refine pU I (eN aA I) (pU I (gR I I) (pN (tN ?_)));refine iP I (fun hbig=>?_) (fun hbig=>?_)
     ·have hmany:nN B=true:=sj hmB (by
       rw[hfB,← hyd];have:=hsub xd;rw[hl1] at this;omega)
      have he:bB l T p=2:=by unfold bB; rw[zf7 (by rw[hpr]; simp),zf7 hop,hBd,zf8 (.inr hmany)]
      refine rZ (lA I (aT I (rE (bR (tR (tR (bR (tR (dR (s':=s) (.cons _ (.cons _ (.cons _ (.cons _ (.cons _ (.cons _ (List.sublist_append_right _ _))))))) ?_)))))))));exact ST.ret2 (.inl I) results12 I I ⟨I,hle1.trans hle2,_,by rw[he],by rw[hnone (by rw[he]; decide)]; exact Pgs.nil _⟩
     ·refine kP (bN (tN (rG (yD I (lM I (nL (dR (.cons _ (.refl _)) ?_)))))));exact gA (k+1,(ms1.set j0 (xd,Value.slice q72 (l0++[(⟨xi,xd,⟨xp,xn,xc⟩⟩:Rc)]).length d72,l0++[(⟨xi,xd,⟨xp,xn,xc⟩⟩:Rc)]))) sB I I ⟨by dsimp only; omega,fun d=>by
       dsimp only;rw[hp4,uJ,hcon,hcon,hsn];by_cases e:d=xd
       ·subst e; rfl
       ·rw[zf7 e,zf7 e],fun d=>by
       dsimp only;by_cases e:d=xd
       ·rw[e,hl1]; omega
       ·rw[hsn,zf7 e]; exact hcnt d⟩ (by dsimp only; omega)
    ·have hke:k=us.length:=oM;subst hke;rw[List.take_length] at hcon hcnt;refine xI (tX (tX (bX (tN (sQ (SC.freeze fun g3 hl3 hb49=>?_))))));refine cP (s':=mp b46 (nD ms)::pt b10 (.cells #[.slice up B.length uc] 30 (0,0))::pt b3 (.cells #[.slice vp l.length vc] 30 (0,0))::(ff ms++knE b47 (fun a low dim=>dw (rkP p) T.length B a low dim)::s)) (List.perm_middle (a:=knE b47 (fun a low dim=>dw (rkP p) T.length B a low dim)) (l₁:=mp b46 (nD ms)::pt b10 (.cells #[.slice up B.length uc] 30 (0,0))::pt b3 (.cells #[.slice vp l.length vc] 30 (0,0))::ff ms) (l₂:=s)).symm ?_;refine SC.freezeMap fun g4 hl4 hmp=>?_;refine SC.freeze fun g5 hl5 hb10=>?_;refine SC.freeze fun g6 hl6 hb3=>?_;refine SC.freezeKs fun g7 hl7 hks=>?_;refine rG (aT I (sQ (sW I (lU (nC I) (lU (fA nz I zT3 I) (lK (qL (v:=vi T.length) iT3 I (cK ((hle2.trans (hl3.trans (hl4.trans (hl5.trans (hl6.trans hl7))))) _ _ hbc) I)) (lM I (tZ (bK ?_)))))))));have hcnt':∀ d:Int,(B.filter fun c=>decide (c.dim=d)).length≤200:=fun d=>by
      rw[(l8 hallu d).length];exact hcnt d
     have hno:nN B=false:=w8 hcnt';have hl57:=hl5.trans (hl6.trans hl7);have hl37:=hl4.trans hl57;have hl27:=hl3.trans hl37;have hspec:tU g7 (pp b49 0) (ae l) T p B b47:=⟨b49,b46,pp bc 0,rfl,hl37 _ _ hb49,hcov.mono (hle2.trans hl27),CM (hmp.mono hl57) hks (hallu.mono fun _ _=>aC.mono hl27) hcon⟩;have hbc7:=(hle2.trans hl27) _ _ hbc;have hb37:=hl7 _ _ hb3;have hv7:=hv.mono (hle1.trans (hle2.trans hl27));have hBok:Bok T.length B:=⟨hBR,hBlt,hcnt'⟩;have hD:qe l+1=((dimN l:Nat):Int):=by unfold dimN qe at *; omega
     have hD9:dimN l≤9:=oM;have he:bB l T p=0:=by unfold bB; rw[zf7 (by rw[hpr]; simp),zf7 hop,hBd,zf7]; rw[hno]; rintro (h | h); exact hbl h; cases h
     have hC:a8 l T p=fW (gw (rkP p) T.length B (dimN l)):=by unfold a8; rw[zf7 (by rw[he]; simp),hBd]
     generalize dimN l=D at *;refine zb4 22 1 ?_;refine oP (ι:=PH×Nat×Value×List Sv) (fun z=>[(3,pp b3 0),(8,pp bc 0),(13,pp b49 0),(16,z.2.2.1),(86,vi T.length),(87,vi z.2.1)]) (fun z=>z.1) (fun z=>rowA ak 22 z.2.2.1 z.2.2.2::knE b47 (fun a low dim=>dw (rkP p) T.length B a low dim)::s) (fun z=>Le g7 z.1∧z.2.1≤T.length∧az (fun (Q:List (List Int)) (r:Sv)=>ax z.1 (.slice r.p r.n r.c) Q) ((List.range z.2.1).map fun r:Nat=>wx (rkP p) T.length B D ((r:Int)+1)) z.2.2.2) (fun z=>T.length - z.2.1) (g7,0,.slice none 0 0,[]) sB I I ⟨zb7 _,zf4 _,trivial⟩ ?_;rintro ⟨g8,k2,ov,os⟩ ⟨hle8,hk2,hacc⟩;dsimp only at hle8 hk2 hacc ⊢;have hol:=hacc.length;rw[ze4,zi2] at hol;refine rZ (yL I (tZ (sQ ?_)));refine iP I (fun hlt=>?_) (fun hlt=>?_)
     ·refine kP (tN (sQ (bK (sW I (aT I (rZ (aT I (sQ (sW I (lU (nC I) (lU (fA nz I zT3 I) (lK (qL (v:=vi T.length) iT3 I (cK (hle8 _ _ hbc7) I)) (lM I (tZ (bK (zb4 25 1 ?_))))))))))))))));refine oP (ι:=PH×Nat×Value×List Sv) (fun z=>[(3,pp b3 0),(8,pp bc 0),(13,pp b49 0),(16,ov),(17,vi k2),(18,z.2.2.1),(86,vi T.length),(87,vi k2),(93,vi T.length),(94,vi z.2.1)]) (fun z=>z.1) (fun z=>rowA ak 25 z.2.2.1 z.2.2.2::rowA ak 22 ov os::knE b47 (fun a low dim=>dw (rkP p) T.length B a low dim)::s) (fun z=>Le g8 z.1∧z.2.1≤T.length∧az (a7 z.1) ((List.range z.2.1).map fun a:Nat=>(List.range D).map fun b:Nat=>ma (rkP p) T.length B ((k2:Int)+1) a b) z.2.2.2) (fun z=>T.length - z.2.1) (g8,0,.slice none 0 0,[]) sB I I ⟨zb7 _,zf4 _,trivial⟩ ?_;rintro ⟨g9,k3,pv,ps⟩ ⟨hle9,hk3,hac2⟩;dsimp only at hle9 hk3 hac2 ⊢;have hpl:=hac2.length;rw[ze4,zi2] at hpl;have hle79:=hle8.trans hle9;refine rZ (yL I (tZ (sQ ?_)));refine iP I (fun hlt3=>?_) (fun hlt3=>?_)
      ·refine kP (tN (sQ (bK (sW I (aT I (rZ (aT I (sQ (rZ (lK (SQ.loadOne bh aw I (cK (hle79 _ _ hb37) I)) (lW (cL call32 I (uT E g9 _ (.slice vp l.length vc) l (hv7.mono hle79) hf)) ?_)))))))))));rintro _ g10 _ ⟨rfl,rfl,hle10⟩;refine lU (SU.eq (v':=vi D) (aD I I oM) (zd9 vi hD)) (lM I (tZ (bK (zb4 3 1 ?_))));refine oP (ι:=PH×Nat×Value) (fun z=>[(3,pp b3 0),(8,pp bc 0),(13,pp b49 0),(16,ov),(17,vi k2),(18,pv),(19,vi k3),(20,z.2.2),(86,vi T.length),(87,vi k2),(93,vi T.length),(94,vi k3),(99,vi D),(100,vi z.2.1)]) (fun z=>z.1) (fun z=>rowA encInt 3 z.2.2 ((List.range z.2.1).map fun b:Nat=>ma (rkP p) T.length B ((k2:Int)+1) k3 b)::rowA ak 25 pv ps::rowA ak 22 ov os::knE b47 (fun a low dim=>dw (rkP p) T.length B a low dim)::s) (fun z=>Le g10 z.1∧z.2.1≤D) (fun z=>D - z.2.1) (g10,0,.slice none 0 0) sB I I ⟨zb7 _,zf4 _⟩ ?_;rintro ⟨g11,k4,iv⟩ ⟨hle11,hk4⟩;dsimp only at hle11 hk4 ⊢;have hle711:=hle79.trans (hle10.trans hle11);have hil:((List.range k4).map fun b:Nat=>ma (rkP p) T.length B ((k2:Int)+1) k3 b).length=k4:=by rw[ze4,zi2]
       refine rZ (yL I (tZ (sQ ?_)));refine iP I (fun hlt4=>?_) (fun hlt4=>?_)
       ·refine kP (tN (sQ (bK (sW I (aT I (rG (lM I (lM I (lM I (yD I (lM I (lM I (lW (cL call33 I (tq E g11 _ (pp b49 0) (ae l) T p hp B b47 3 ((k2:Int)+1) k3 k4 (hspec.mono hle711) hBok hT6 I oM oM oM)) ?_)))))))))))));rintro _ g12 _ ⟨rfl,rfl,hle12⟩;refine lW (bS sty25 I I I (ab ⟨I,trivial⟩) dC) ?_;rintro _ _ _ ⟨b110,rfl,rfl,rfl⟩;refine lW (aP (e:=encInt) (l:=(List.range k4).map fun b:Nat=>ma (rkP p) T.length B ((k2:Int)+1) k3 b) 0 (ma (rkP p) T.length B ((k2:Int)+1) k3 k4) sty25 I I I I I oM oM) ?_;rintro v111 _ _ ⟨rfl,rfl⟩;refine lA I (nL (bN (tN (rG (yD I (lM I (nL ?_)))))));exact gA (g12,k4+1,v111) sB I (by dsimp only; rw[dX]; rfl) ⟨hle11.trans hle12,by dsimp only; omega⟩ (by dsimp only; omega)
       ·have hke4:k4=D:=oM;subst hke4;refine fS fun g12 hle12 hs12=>?_;obtain ⟨q12,c12,rfl⟩:=Sl.form hs12;rw[hil] at hs12 ⊢;refine xI (tX (tX (bX (tN (rG (lM I (lM I (lW (bS sty22 I I I (ab ⟨I,trivial⟩) dC) ?_))))))));rintro _ _ _ ⟨b115,rfl,rfl,rfl⟩;refine lW (aP (e:=ak) (l:=ps) 0 ⟨q12,k4,c12⟩ sty22 I I I I I oM oM) ?_;rintro v116 _ _ ⟨rfl,rfl⟩;refine lA I (nL (bN (tN (rG (yD I (lM I (nL ?_)))))));exact gA (g12,k3+1,v116,ps++[⟨q12,k4,c12⟩]) sB I I ⟨hle9.trans (hle10.trans (hle11.trans hle12)),by dsimp only; omega,by
         dsimp only;rw[dX];refine (hac2.mono fun _ _=>a7.mono (hle10.trans (hle11.trans hle12))).append ⟨?_,trivial⟩;show Sl _ _ _ _ _;rw[hil];exact hs12⟩ (by dsimp only; omega)
      ·have hke3:k3=T.length:=oM;subst hke3;refine fS fun g10 hle10 hs10=>?_;obtain ⟨q10,c10,rfl⟩:=Sl.form hs10;refine xI (tX (tX (bX (tN (rG (lM I (lM I (lW (bS sty37 I I I (ab ⟨I,trivial⟩) dC) ?_))))))));rintro _ _ _ ⟨b120,rfl,rfl,rfl⟩;refine lW (aP (e:=ak) (l:=os) 0 ⟨q10,ps.length,c10⟩ sty37 I I I I I oM oM) ?_;rintro v121 _ _ ⟨rfl,rfl⟩;refine lA I (nL (bN (tN (rG (yD I (lM I (nL ?_)))))));exact gA (g10,k2+1,v121,os++[⟨q10,ps.length,c10⟩]) sB I I ⟨hle8.trans (hle9.trans hle10),by dsimp only; omega,by
        dsimp only;rw[dX];exact (hacc.mono fun _ _ h=>h.mono (hle9.trans hle10)).append ⟨⟨ps,hs10,hac2.mono fun _ _=>a7.mono hle10⟩,trivial⟩⟩ (by dsimp only; omega)
     ·have hke2:k2=T.length:=oM;subst hke2;have hacc:az (fun (Q:List (List Int)) (r:Sv)=>ax g8 (.slice r.p r.n r.c) Q) (gw (rkP p) T.length B D) os:=hacc;have hPAl:=jm (rf:=rkP p) (n:=T.length) (B:=B) (D:=D);have hPAs:=lz (rf:=rkP p) (n:=T.length) (B:=B) (D:=D);rw[hC];generalize gw (rkP p) T.length B D=PA at *;refine fS fun g9 hle9 hs9=>?_;obtain ⟨q9,c9,rfl⟩:=Sl.form hs9;have hacc:=hacc.mono fun _ _ h=>ax.mono h hle9;refine xI (tX (tX (bX (tN (rZ (aT I (sQ (bK ?_))))))));refine oP (ι:=Nat×Option Addr×Nat) (fun z=>[(16,.slice z.2.1 z.1 z.2.2),(22,.func (.func 34) #[] #[])]) (fun _=>g9) (fun _=>knE b47 (fun a low dim=>dw (rkP p) T.length B a low dim)::s) (fun z=>z.1≤os.length∧SlA ak g9 (.slice z.2.1 z.1 z.2.2) (os.take z.1)∧fW (PA.take z.1)=fW PA) (fun z=>z.1) (os.length,q9,c9) sB I I ⟨lR _,by dsimp only; rw[List.take_length]; exact hs9,by dsimp only; rw[← hol,← hPAl,List.take_length]⟩ ?_;rintro ⟨m,q,c⟩ ⟨hm,hsm,htr⟩;dsimp only at hm hsm htr ⊢;by_cases h1:1<m
      ·have hst:=qh (P:=PA) h1 oM;have hP1:PA[m - 1]'oM∈PA:=gM _;have hP2:PA[m - 2]'oM∈PA:=gM _;have hL1:=hacc.get (gE (i:=m - 1) oM) (gE (i:=m - 1) oM);have hL2:=hacc.get (gE (i:=m - 2) oM) (gE (i:=m - 2) oM);have hg1:(os.take m)[((m:Int) - 1).toNat]?=some (os[m - 1]'oM):=by
        rw[show ((m:Int) - 1).toNat=m - 1 by omega,zh8,zf8 oM];exact gE _
       have hg2:(os.take m)[((m:Int) - 2).toNat]?=some (os[m - 2]'oM):=by
        rw[show ((m:Int) - 2).toNat=m - 2 by omega,zh8,zf8 oM];exact gE _
       generalize PA[m - 1]'oM=Q1 at *;generalize PA[m - 2]'oM=Q2 at *;generalize os[m - 1]'oM=r1 at *;generalize os[m - 2]'oM=r2 at *;obtain ⟨p1,n1,c1⟩:=r1;obtain ⟨p2,n2,c2⟩:=r2;have hbm:=za4 hsm (by rw[ze2]; omega);have hmc:=(SlA.cap hsm).2;rw[ze2,Nat.min_eq_left hm] at hmc;have hcut:=SlA.cut (l:=0) (m:=m - 1) (k:=1) (e:=ak) (xs:=os.take m) (p:=q) (c:=c) (g:=g9) (by rw[ze2,Nat.min_eq_left hm]; exact hsm) (zf4 _) (by rw[ze2]; omega);rw[List.drop_zero,Nat.sub_zero,List.take_take,Nat.min_eq_left oM] at hcut;obtain ⟨q',c',hq'⟩:=za2 hcut;rw[ze2,Nat.min_eq_left oM] at hq';rw[hq'] at hcut;refine sQ (sQ ?_);refine dW [] [(0,2),(1,2),(2,2),(3,2),(4,2),(5,2),(6,2),(7,2),(8,2),(9,2),(10,1),(11,2),(12,2),(13,2),(14,2),(15,2),(16,1),(17,0),(18,2)] ze1 kR ?_;refine yM I (pU I (eN iY I) (pU I (SU.eq (v':=vb true) (gR I I) (zd9 vb (zf6 oM))) (yM I (yJ I (yJ I (yJ I (zb1 I (gT I I I dC) (eN iY I) dC (zb1 I (gT I I I dC) (sU I I oM) dC (zb1 I (gT I I I dC) (iA iY kO I I hbm oM sL) dC (SP.gq I (gT I I I dC) (eB (u:=.slice p1 n1 c1) lD I (za5 hsm) hg1 I) dC (yJ I (yJ I (zb1 I (gT I I I dC) (eN iY I) dC (zb1 I (gT I I I dC) (sU I I oM) dC (zb1 I (gT I I I dC) (iA iY kO I I hbm oM sL) dC (SP.gq I (gT I I I dC) (eB (u:=.slice p2 n2 c2) lD I (za5 hsm) hg2 I) dC (SP.go I (gT I I I dC) (SO.callV I I (cX.mk (cap:=[]) call34 (rM E g9 _ (.slice p1 n1 c1) (.slice p2 n2 c2) Q1 Q2 hL1 hL2 (by rw[(hPAs _ hP1).1]; omega) (fun x hx=>by rw[(hPAs _ hP1).2 x hx]; omega) (by rw[(hPAs _ hP2).1]; omega)))) dC (.inr iR) ?_)))))))))))))))));rintro _ _ _ ⟨rfl,rfl,rfl⟩;refine pU I (wT I I) (pN (tN ?_));refine iQ I (fun heq=>?_) (fun heq=>?_)
       ·rw[zf8 (by simpa using heq)] at hst;refine kP (tN (bK (rG (lM I (lM I (lU (eN iY I) (lU (sU I I oM) (lU (SU.eq (v':=.slice q' (m - 1) c') (SU.sliceH iY kO I I oM oM) (by rw[show ((m:Int) - 1).toNat=m - 1 by omega]; exact hq')) ?_))))))));refine lA I (nL (bN ?_));exact gA (m - 1,q',c') sB I I ⟨by dsimp only; omega,hcut,by dsimp only; rw[← hst]; exact htr⟩ (by dsimp only; omega)
       ·rw[zf7 (by simpa using heq)] at hst;refine xI (tX (tX (bX (tN (sW I (lA I (aT I (rE (dR (s':=s) uR ?_)))))))));exact ST.ret2 (.inl I) results12 I I ⟨I,hle1.trans (hle2.trans (hl27.trans (hle8.trans hle9))),_,by rw[he],by rw[← htr,hst]; exact⟨os.take m,hsm,az.take m hacc⟩⟩
      ·have hst:=uf (P:=PA) h1;refine sQ (sQ ?_);refine dW [] [(0,2),(1,2),(2,2),(3,2),(4,2),(5,2),(6,2),(7,2),(8,2),(9,2),(10,1),(11,2),(12,2),(13,2),(14,2),(15,2),(16,1),(17,0),(18,2)] ze1 kR ?_;refine yM I (pU I (eN iY I) (pU I (SU.eq (v':=vb false) (gR I I) (zd9 vb (zf5 oM))) (yM I (yG I (yG I (yG I (yG I (yG I (yG I (yI I (yG I (yG I (yG I (yG I (yG I (yI I (fO I (gZ I I I dC) dC ⟨by exact zb7 _,(by exact .refl _)⟩ ?_)))))))))))))))));refine pU I (wF I I) (pN (tN (cF I (xI (tX (tX (bX (tN (sW I (lA I (aT I (rE (dR (s':=s) uR ?_)))))))))))));exact ST.ret2 (.inl I) results12 I I ⟨I,hle1.trans (hle2.trans (hl27.trans (hle8.trans hle9))),_,by rw[he],by rw[← htr,hst]; exact⟨os.take m,hsm,az.take m hacc⟩⟩
structure PgOk (l:List Cl)(T:List (List Int))(p:Int):Prop where
 fp:Fp p
 opn:cD l T=0
 few:T.length≤6
 bok:Bok T.length (dv (ae l) T)
 dim:qe l+1=((dimN l:Nat):Int)
 dims:dimN l≤9
 eq:a8 l T p=fW (gw (rkP p) T.length (dv (ae l) T) (dimN l))
theorem tG {B:List Cl}(h:nN B=false)(d:Int):(B.filter fun c=>decide (c.dim=d)).length≤200:=by
 cases hd:B.filter (fun c=>decide (c.dim=d)) with
 | nil=>simp
 | cons c q =>
  have hc:c∈B.filter fun c=>decide (c.dim=d):=by rw[hd]; simp
  obtain ⟨h1,h2⟩:=zh2.1 hc;have h2:c.dim=d:=zg1 h2;subst h2;rw[← hd];refine Nat.le_of_not_lt fun h3=>?_;rw[sj h1 h3] at h;cases h
theorem j5 {l:List Cl}{T:List (List Int)}{p:Int}(h:bB l T p=0):PgOk l T p:=by
 have hC:a8 l T p=fW (gw (rkP p) T.length (dv (ae l) T) (dimN l)):=by unfold a8; rw[zf7 (by rw[h]; simp)]
 unfold bB at h;split at h
 ·cases h
 ·rename_i hpr;split at h
  ·rename_i hop; exact absurd h hop
  ·rename_i hop;have hop:=zg7 hop;split at h
   ·cases h
   ·rename_i hbl;have hbl1:(aX (dv (ae l) T)).2=0:=zg7 fun k=>hbl (.inl k);have hmany:nN (dv (ae l) T)=false:=Bool.eq_false_iff.2 fun k=>hbl (.inr k);obtain ⟨hok,hT6⟩:=gX hop;have hRt:=jN hok;have hLt:ae l=aa l:=bg hRt.asc;have hRt:Rt (ae l):=by rw[hLt]; exact hRt
    have hBR:Rt (dv (ae l) T):=by
     have:=jN hbl1;unfold dv at this ⊢;rwa [eI] at this
    have hdim:=su hok;have hD:qe l+1=((dimN l:Nat):Int):=by unfold dimN qe at *; omega
    exact⟨eF.1 (by simpa using hpr),hop,hT6,⟨hBR,sz hRt hT6,tG hmany⟩,hD,oM,hC⟩
theorem qi {α:Type}[DecidableEq α]:∀ {l:List α} {x:α},x∈kE l→x∈l
 | [],_,h=>h
 | [_],_,h=>h
 | a::b::l,x,h=>by
  unfold kE at h;split at h
  ·exact List.mem_cons_of_mem _ (qi h)
  ·exact h
theorem xG {α:Type}[DecidableEq α]{l:List α}{x:α}(h:x∈fW l):x∈l:=by
 unfold fW at h;rw[List.mem_reverse] at h;have:=qi h;rwa [List.mem_reverse] at this
theorem qj {α:Type}[DecidableEq α]:∀ {l:List α},(kE l).length≤l.length
 | []=>lR _
 | [_]=>lR _
 | a::b::l=>by
  unfold kE;split
  ·exact zk2 qj (Nat.le_succ _)
  ·exact lR _
theorem xH {α:Type}[DecidableEq α]{l:List α}:(fW l).length≤l.length:=by
 unfold fW;rw[List.length_reverse];have:=qj (l:=l.reverse);rwa [List.length_reverse] at this
theorem BR {p:Int}(hp:Fp p){n:Nat}{B:List Cl}(hB:Bok n B)(r a b:Int):(ma (rkP p) n B r a b).natAbs≤800:=by
 have hbd:=pe hp hB;have b1:=hbd a (a - r) (a+b);have b2:=hbd (a - 1) (a - r) (a+b);have b3:=hbd (a+r - 1) a (a+b+1);have b4:=hbd (a+r - 1) (a - 1) (a+b+1);unfold ma;omega
theorem pm {l:List Cl}{T:List (List Int)}{p:Int}(h:bB l T p=0):∀ Q∈a8 l T p,Q.length=T.length∧∀ x∈Q,x.length=dimN l∧∀ y∈x,y.natAbs≤800:=fun Q hQ=>by
 have ho:=j5 h;rw[ho.eq] at hQ;obtain ⟨r,-,rfl⟩:=ze9.1 (xG hQ);refine⟨qw,fun x hx=>?_⟩;obtain ⟨a,-,rfl⟩:=ze9.1 hx;refine⟨by rw[ze4,zi2],fun y hy=>?_⟩;obtain ⟨b,-,rfl⟩:=ze9.1 hy;exact BR ho.fp ho.bok _ _ _
theorem mE {l:List Cl}{T:List (List Int)}{p:Int}:(a8 l T p).length≤T.length:=by
 unfold a8;split
 ·exact zf4 _
 ·refine zk2 xH ?_;rw[jm];exact lR _
def iC (P:List (List Int))(d:Nat):Int:=((P.zipIdx.map fun q=>if q.2≤d then q.1.getD (d - q.2) 0 else 0)).sum
theorem em (D:Nat)(P:List (List Int)):e7 D P=(List.range D).map (iC P):=rfl
theorem gg (P:List (List Int))(x:List Int)(d:Nat):iC (P++[x]) d=iC P d+if P.length≤d then x.getD (d - P.length) 0 else 0:=by
 unfold iC;rw[List.zipIdx_append,zg3,List.sum_append];simp
theorem Ay (P:List (List Int))(d:Nat):iC (P++[[]]) d=iC P d:=by rw[gg]; simp
theorem oc {m:Nat}:∀ {q:List Int},(∀ y∈q,y.natAbs≤m)→q.sum.natAbs≤q.length * m
 | [],_=>by simp
 | y::q,h=>by
  have h1:=h y (by simp);have h2:=oc (q:=q) fun z hz=>h z (by simp[hz]);rw[List.sum_cons,ze6,Nat.succ_mul];omega
theorem xx {m:Nat}{P:List (List Int)}(h:∀ x∈P,∀ y∈x,y.natAbs≤m)(d:Nat):(iC P d).natAbs≤P.length * m:=by
 have:=oc (m:=m) (q:=P.zipIdx.map fun q=>if q.2≤d then q.1.getD (d - q.2) 0 else 0) fun y hy=>by
  obtain ⟨q,hq,rfl⟩:=ze9.1 hy;split
  ·rw[zg8];cases hx:q.1[d - q.2]? with
   | none=>simp
   | some y=>exact h q.1 (List.fst_mem_of_mem_zipIdx hq) y (zf9 hx)
  ·simp
 rwa [ze4,List.length_zipIdx] at this
theorem uX (D:Nat)(P:List (List Int))(x:List Int)(j:Nat)(hj:j<x.length):e7 D (P++[x.take (j+1)])=(e7 D (P++[x.take j])).set (P.length+j) (iC (P++[x.take j]) (P.length+j)+x[j]):=by
 rw[em,em];refine List.ext_getElem? fun d=>?_;rw[List.getElem?_set,zh7,zh7,ze4,zi2];by_cases hd:d<D
 ·rw[List.getElem?_range hd];show some _=if P.length+j=d then (if P.length+j<D then some (iC (P++[x.take j]) (P.length+j)+x[j]) else none) else some (iC (P++[x.take j]) d)
  rw[gg,gg,gg];have e1:x.take (j+1)=x.take j++[x[j]]:=tS hj;by_cases e:P.length+j=d
  ·subst e;rw[zf8 rfl,zf8 hd,zf8 oM,zf8 oM,Nat.add_sub_cancel_left,e1];simp[zg8,Nat.le_of_lt hj,zh1,gE hj]
  ·rw[zf7 e];congr 2;by_cases e2:P.length≤d
   ·rw[zf8 e2,zf8 e2,zg8,zg8];congr 1;rw[zh8,zh8];split <;> split <;> first | rfl | omega | skip
   ·rw[zf7 e2,zf7 e2]
 ·rw[List.getElem?_eq_none (by rw[zi2]; omega)];split
  ·rw[zf7 oM]; rfl
  ·rfl
theorem Cc {D:Nat}{P:List (List Int)}{x:List Int}{j:Nat}(hj:j<x.length)(h:¬ P.length+j<D):e7 D (P++[x.take (j+1)])=e7 D (P++[x.take j]):=by
 rw[uX D P x j hj,List.set_eq_of_length_le];rw[em,ze4,zi2];omega
theorem oT (E:World)(hE:E.drawn=0)(g:PH)(s:Own)(v tv:Value)(l:List Cl)(T:List (List Int))(p:Int)(hv:am g v l)(hf:cR l)(hw:∀ c∈l,iS c.id)(ht:ax g tv T)(hT:T.length<1099511627776)(hTl:∀ t∈T,t.length<1099511627776)(hp2:2≤p)(hp9:p<9) :
  Ctr Tryz.prog E 14 #[.agg #[v],tv,vi p] g s (fun x g' s'=>s=s'∧Le g g'∧∃ u,x = .tuple #[u,vi (bB l T p)]∧bC g' u (ek l T p)):=by
 obtain ⟨vp,vc,rfl⟩:=hv.form;refine za9 (args:=[.agg #[.slice vp l.length vc],tv,vi p]) func14 I ntmps14 (bE I) ?_;refine rZ (bW (bO I) fun b3=>?_);refine lA I (aT I (rZ (lK (qV 0 bh aw I I I) (lM I (lM I (lW (cL call12 I (kX E hE g _ _ tv l T p hv hf hw ht hT hTl hp2 hp9)) ?_))))));rintro _ g1 _ ⟨rfl,hle1,u,rfl,us,hus,hall⟩;obtain ⟨up,uc,rfl⟩:=za2 hus;have hlen:=hall.length;by_cases he:bB l T p=0
 ·refine lM I (yX I (yX I (lA I (aT I (sQ (sW I (lU (SU.eq (v':=vb false) (nQ I I) (zd9 vb (by rw[he]; rfl))) ?_)))))));refine lM I (yC I (lY I I I (eN iY I) (lY I I I (eQ I I) (yF I (tZ ?_)))));refine iP I (fun h0=>?_) (fun h0=>?_)
  ·refine sW I (lA I (aT I (rE (tR ?_))));have hb:ek l T p=[]:=by unfold ek; rw[zf8 oM]
   refine dR (s':=s) uR ?_;exact ST.ret2 (.inl I) results14 I I ⟨I,hle1,_,I,by rw[hb]; exact zb8 _ _⟩
  ·have ho:=j5 he;have hbd:=pm he;obtain ⟨hfp,-,hT6,hbok,hD,hD9,-⟩:=ho;have hb:ek l T p=e7 (dimN l) ((a8 l T p).getLastD []):=by unfold ek; rw[zf7 oM]
   have hpf:=mE (l:=l) (T:=T) (p:=p);have hPl:us.length - 1<(a8 l T p).length:=oM;have hQ:(a8 l T p)[us.length - 1]?=some ((a8 l T p)[us.length - 1]):=gE hPl;have hlast:(a8 l T p).getLastD []=(a8 l T p)[us.length - 1]:=by
    rw[List.getLastD_eq_getLast?,List.getLast?_eq_getElem?,hlen,hQ];rfl
   have hQm:=gM hPl;have hQR:=hall.get hQ (gE (i:=us.length - 1) oM);have hgu:us[((us.length:Int) - 1).toNat]?=some (us[us.length - 1]'oM):=by
    rw[show ((us.length:Int) - 1).toNat=us.length - 1 by omega];exact gE _
   rw[hlast] at hb;have hb1:=za4 hus oM;generalize (a8 l T p)[us.length - 1]=Q at *;generalize us[us.length - 1]'oM=r1 at *;obtain ⟨p1,n1,c1⟩:=r1;obtain ⟨hQl,hQx⟩:=hbd Q hQm;obtain ⟨rs,hrs,hallr⟩:=hQR;dsimp only at hrs;obtain ⟨rfl,-⟩:=SlA.cap hrs;have hrl:=hallr.length;refine kP (tN (rZ (lK (qV 0 bh aw I I I) (lW (cL call32 I (uT E g1 _ (.slice vp l.length vc) l (hv.mono hle1) hf)) ?_))));rintro _ g2 _ ⟨rfl,rfl,hle2⟩;refine lU (SU.eq (v':=vi (dimN l)) (aD I I oM) (zd9 vi hD)) (lW (mK encInt 0 sty25 I I I oM oM) ?_);rintro _ _ _ ⟨bl,rfl,rfl,rfl⟩;refine aT I (sQ (sW I (lM I (lU (eN iY I) (lU (sU I I oM) (lU (iA iY kO I I hb1 oM (show ((us.length:Int) - 1)<((us.length:Nat):Int) by omega)) ?_))))));refine lK (eB (u:=.slice p1 rs.length c1) lD I (za5 (za3 hus hle2)) hgu I) (lU (eN aY I) (lM I (tZ (bK ?_))));generalize dimN l=D at *;have h00:e7 D []=List.replicate D 0:=by
    rw[em,List.eq_replicate_iff];exact⟨by simp,fun b hb=>by obtain ⟨d,_,rfl⟩:=ze9.1 hb; rfl⟩
   rw[← h00];have hrs2:=za3 hrs hle2;refine oP (ι:=Nat) (fun a=>[(10,.slice (some ⟨bl,0,none⟩) D D),(39,.slice p1 rs.length c1),(40,vi rs.length),(41,vi a)]) (fun _=>g2) (fun a=>rowA encInt 3 (.slice (some ⟨bl,0,none⟩) D D) (e7 D (Q.take a))::pt b3 (.cells #[.slice vp l.length vc] 30 (0,0))::s) (fun a=>a≤rs.length) (fun a=>rs.length - a) 0 sB I I (zf4 _) ?_;rintro a ha;refine rZ (yL I (tZ (sQ ?_)));refine iP I (fun hlt=>?_) (fun hlt=>?_)
   ·have har:a<rs.length:=oM;have haQ:a<Q.length:=oM;have hgr:rs[((a:Nat):Int).toNat]?=some rs[a]:=gE har;have hR:=hallr.get (gE haQ) (gE har);have hb2:=za4 hrs oM;have hxm:=gM haQ;have htk:Q.take (a+1)=Q.take a++[Q[a]]:=tS haQ;have hQtl:(Q.take a).length=a:=by rw[ze2]; omega
    have hQtm:∀ y∈Q.take a,∀ z∈y,z.natAbs≤800:=fun y hy=>(hQx y (List.mem_of_mem_take hy)).2;generalize Q.take a=Qa at *;generalize Q[a]=x at *;generalize rs[a]=r at *;obtain ⟨p2,n2,c2⟩:=r;have hR:bC g1 (.slice p2 n2 c2) x:=hR;obtain ⟨rfl,-⟩:=SlA.cap hR;obtain ⟨hxl,hxb⟩:=hQx x hxm;have hR2:=za3 hR hle2;refine kP (tN (sQ (bK (sW I (lU (iA aY aR I I hb2 oM sL) (lK (eB (u:=.slice p2 x.length c2) bM I (za5 hrs2) hgr I) (lA I (aT I (sW I (lU (eN ah I) (lM I (tZ (bK ?_)))))))))))));refine oP (ι:=Nat) (fun j=>[(10,.slice (some ⟨bl,0,none⟩) D D),(11,vi a),(39,.slice p1 rs.length c1),(40,vi rs.length),(41,vi a),(46,.slice p2 x.length c2),(47,vi x.length),(48,vi j)]) (fun _=>g2) (fun j=>rowA encInt 3 (.slice (some ⟨bl,0,none⟩) D D) (e7 D (Qa++[x.take j]))::pt b3 (.cells #[.slice vp l.length vc] 30 (0,0))::s) (fun j=>j≤x.length) (fun j=>x.length - j) 0 sB I (by rw[show e7 D (Qa++[x.take 0])=e7 D Qa from zc5 fun d _=>Ay Qa d]) (zf4 _) ?_;rintro j hj;refine rZ (yL I (tZ (sQ ?_)));refine iP I (fun hlt2=>?_) (fun hlt2=>?_)
    ·have hjx:j<x.length:=oM;have hb3:=za4 hR oM;have hgx:x[((j:Nat):Int).toNat]?=some x[j]:=gE hjx;have hst:=uX D Qa x j hjx;have hou:=Cc (D:=D) (P:=Qa) hjx;have hyb:=hxb _ (gM hjx);rw[hQtl] at hst hou;refine kP (tN (sQ (bK (sW I (lU (iA ah zT3 I I hb3 oM sL) (lK (eB iT3 I (za5 hR2) hgx I) (lA I (aT I (sW I (lM I (yD I (lM I (lU (eN ah I) (yL I (tZ ?_)))))))))))))));refine iP I (fun hin=>?_) (fun hin=>?_)
     ·have hin':a+j<D:=oM;have hBb:=xx (P:=Qa++[x.take j]) (m:=800) (fun y hy=>by
       rcases zf1.1 hy with h | h
       ·exact hQtm y h
       ·rw[zh5] at h;subst h;exact fun z hz=>hxb z (List.mem_of_mem_take hz)) (a+j)
      rw[ze3,ze5,hQtl] at hBb;have hBk:(e7 D (Qa++[x.take j]))[((a:Int)+j).toNat]?=some (iC (Qa++[x.take j]) (a+j)):=by
       rw[show ((a:Int)+j).toNat=a+j by omega,em,zh7,List.getElem?_range hin'];rfl
      have hBl:(e7 D (Qa++[x.take j])).length=D:=by rw[em,ze4,zi2]
      generalize iC (Qa++[x.take j]) (a+j)=y0 at *;refine rG (lM I (lM I (lM I (yD I (lU (iA ah zT3 I I I oM sL) (lK (eB iT3 I (zb5 (e:=encInt) 0 I) hBk I) (lM I (yD I (lU (SU.eq (v':=.pointer (some ⟨bl,0+(a+j) * 1,none⟩)) (iA ah zT3 I I I oM sL) (by rw[show ((a:Int)+j).toNat=a+j by omega]; rfl)) ?_)))))))));refine oZ (sT (e:=encInt) (a:=y0+x[j]) (j:=a+j) 0 zT3 I I I (by rw[hBl]; exact hin') I) ?_;rw[← hst];refine nL (bN (tN (rG (yD I (lM I (nL ?_))))));exact gA (j+1) sB I I oM oM
     ·rw[← hou oM];refine kP (bN (tN (rG (yD I (lM I (nL ?_))))));exact gA (j+1) sB I I oM oM
    ·have hje:j=x.length:=oM;subst hje;rw[List.take_length,← htk];refine xI (tX (tX (bX (bN (tN (rG (yD I (lM I (nL ?_)))))))));exact gA (a+1) sB I I oM oM
   ·have hae:a=rs.length:=oM;subst hae;rw[← hrl,List.take_length,← hb];refine xI (tX (tX (bX (tN (sW I (lA I (aT I (rE ?_))))))));have hlb:(ek l T p).length=D:=by rw[hb,em,ze4,zi2]
    refine fT fun g3 hle3 hs3=>?_;refine dR (s':=s) uR ?_;exact ST.ret2 (.inl I) results14 I I ⟨I,hle1.trans (hle2.trans hle3),_,by rw[he],by unfold bC SlA; rw[← hlb] at hs3 ⊢; exact hs3⟩
 ·refine lM I (yX I (yX I (lA I (aT I (sQ (sW I (lU (SU.eq (v':=vb true) (nQ I I) (zd9 vb (zf6 he))) (lM I (yA I (yA I (yA I (yP I (tZ (cT I (sW I (lA I (aT I (rE (tR ?_)))))))))))))))))));have hb:ek l T p=[]:=by
   unfold ek;rw[zf8];unfold a8;rw[zf8 he];rfl
  refine dR (s':=s) uR ?_;exact ST.ret2 (.inl I) results14 I I ⟨I,hle1,_,I,by rw[hb]; exact zb8 _ _⟩
set_option maxHeartbeats 1000000
theorem A8 (g:PH):am g (.slice none 0 0) []:=⟨[],zb8 g _,trivial⟩
theorem nW (E:World)(hE:E.drawn=0)(g:PH)(s:Own)(v tv:Value)(l:List Cl)(T:List (List Int))(hv:am g v l)(hf:cR l)(hw:∀ c∈l,iS c.id)(ht:ax g tv T)(hT:T.length<1099511627776)(hTl:∀ t∈T,t.length<1099511627776) :
  Ctr Tryz.prog E 23 #[.agg #[v],tv] g s (fun x g' s'=>s=s'∧Le g g'∧x=vi (cD l T)):=by
 obtain ⟨vp,vc,rfl⟩:=hv.form;refine za9 (args:=[.agg #[.slice vp l.length vc],tv]) func23 I ntmps23 (bE I) ?_;refine rZ (bW (bO I) fun b2=>?_);refine aT I (rZ (lK (qV 0 bh aw I I I) (lM I (lW (cL call30 I (mF E hE g _ _ tv l T hv hf hw ht hT hTl)) ?_))));rintro _ g1 _ ⟨rfl,hle1,pv,rfl,-⟩;refine lM I (yX I (yX I (lA I (aT I (sW I (aT I (rE (dR (s':=s) uR ?_))))))));exact za6 (.inl I) results23 I ⟨I,hle1,I⟩
theorem Tryz.buildN30 (w:World):(Instr.build 30 #[]).run Tryz.prog w = .ok (.agg #[.slice none 0 0]) w:=by
 simp[Instr.build,Instr.fill];rfl
theorem tM (E:World)(hE:E.drawn=0)(g:PH)(s:Own)(v tv:Value)(l:List Cl)(T:List (List Int))(hv:am g v l)(hf:cR l)(hw:∀ c∈l,iS c.id)(ht:ax g tv T)(hT:T.length<1099511627776)(hTl:∀ t∈T,t.length<1099511627776) :
  Ctr Tryz.prog E 20 #[.agg #[v],tv] g s (fun x g' s'=>s=s'∧Le g g'∧∃ u,x = .agg #[u]∧am g' u (gz l T)):=by
 obtain ⟨vp,vc,rfl⟩:=hv.form;refine za9 (args:=[.agg #[.slice vp l.length vc],tv]) func20 I ntmps20 (bE I) ?_;refine rZ (bW (bO I) fun b2=>?_);refine bW (aL zk9) fun b4=>?_;refine tZ (rZ (lK (qV 1 bh aw I I I) (lM I (lW (cL call30 I (mF E hE g _ _ tv l T hv hf hw ht hT hTl)) ?_))));rintro _ g1 _ ⟨rfl,hle1,pv,rfl,hcov⟩;refine lM I (yX I (yX I (lA I (aT I (sQ (sW I (lU (nQ I I) (tZ ?_))))))));refine iP I (fun hop=>?_) (fun hop=>?_)
 ·have hb:gz l T=[]:=by unfold gz; rw[zf8 (.inl hop)]
  refine rZ (lU (za1 I buildN30) (oZ (sK 0 aw I I I I I ⟨I,trivial⟩) (tZ (rE (tR ?_)))));exact ST.retCD 0 s (.inl I) results20 I bh aw I I uR ⟨I,hle1,_,I,by rw[hb]; exact A8 _⟩
 ·have hop0:cD l T=0:=zg7 hop;have hcov:=hcov hop0;obtain ⟨hok,hT6⟩:=gX hop0;have hRt:=jN hok;have hLt:ae l=aa l:=bg hRt.asc;have hRt:Rt (ae l):=by rw[hLt]; exact hRt
  have hBf:=ci (iL hRt hT6);refine kP (tN (sW I (lW (cL call31 I (nu E g1 _ pv (ae l) T hcov hRt hT6)) ?_)));rintro _ g2 _ ⟨rfl,hle2,u,rfl,hu⟩;obtain ⟨up,uc,rfl⟩:=hu.form;refine bW (aL zk9) fun b7=>?_;refine oZ (sK 0 aw I I I I I ⟨I,trivial⟩) (tZ (sQ (rZ (lK (qV 0 bh aw I I I) (lW (cL call24 I (k8 E g2 _ _ (dv (ae l) T) hu hBf)) ?_)))));rintro _ _ _ ⟨rfl,rfl,rfl⟩;refine lM I (yX I (yX I (lA I (aT I (sW I (lU (nQ I I) (tZ ?_)))))));refine iP I (fun hbl=>?_) (fun hbl=>?_)
  ·have hb:gz l T=[]:=by unfold gz; rw[zf8 (.inr hbl)]
   refine rZ (lU (za1 I buildN30) (oZ (sK 1 aw I I I I I ⟨I,trivial⟩) (tZ (rE (tR ?_)))));exact ST.retCD 1 s (.inl I) results20 I bh aw I I uR ⟨I,hle1.trans hle2,_,I,by rw[hb]; exact A8 _⟩
  ·have hb:gz l T=dv (ae l) T:=by unfold gz; rw[zf7]; rintro (h | h); exact hop h; exact hbl h
   refine kP (tN (rZ (lK (qV 0 bh aw I I I) (oZ (sK 1 aw I I I I I ⟨I,trivial⟩) (tZ (rE ?_))))));exact ST.retCD 1 s (.inl I) results20 I bh aw I I uR ⟨I,hle1.trans hle2,_,I,by rw[hb]; exact hu⟩
set_option maxHeartbeats 2000000
theorem kw (E:World)(g:PH)(s:Own)(v u:Value)(P Q:List (List Int))(hv:ax g v P)(hu:ax g u Q)(hP:P.length<1099511627776)(hPl:∀ x∈P,x.length<1099511627776)(hQ:Q.length<1099511627776) :
  Ctr Tryz.prog E 44 #[v,u] g s (fun r g' s'=>r=vb (decide (P=Q))∧g=g'∧s=s'):=by
 obtain ⟨rs,hrs,hallr⟩:=hv;obtain ⟨qs,hqs,hallq⟩:=hu;have hlr:=hallr.length;have hlq:=hallq.length;obtain ⟨rp,rc,rfl⟩:=za2 hrs;obtain ⟨qp,qc,rfl⟩:=za2 hqs;refine za9 (args:=[.slice rp rs.length rc,.slice qp qs.length qc]) func44 I ntmps44 (bE I) ?_;refine rZ (aT I (sQ (sW I (lU (eN aY I) (lM I (lU (eN aY I) (lU (nQ I I) (tZ ?_))))))));refine iP I (fun hne=>?_) (fun hne=>?_)
 ·refine rZ (aT I (rE (tR ?_)));have h0:decide (P=Q)=false:=zf5 fun e=>hne (by rw[← hlr,← hlq,e]);exact za6 (.inl I) results44 I ⟨by rw[h0],I,I⟩
 ·have hlen:rs.length=qs.length:=oM;refine kP (tN (sQ (rZ (aT I (bK ?_)))));refine oP (ι:=Nat) (fun k=>[(0,.slice rp rs.length rc),(1,.slice qp qs.length qc),(5,vi k)]) (fun _=>g) (fun _=>s) (fun k=>k≤rs.length∧P.take k=Q.take k) (fun k=>rs.length - k) 0 sB I I ⟨zf4 _,I⟩ ?_;rintro k ⟨hk,heq⟩;refine sQ (sW I (lM I (lU (eN aY I) (yL I (tZ ?_)))));refine iP I (fun hlt=>?_) (fun hlt=>?_)
  ·have hkr:k<rs.length:=oM;have hkq:k<qs.length:=oM;have hkP:k<P.length:=oM;have hkQ:k<Q.length:=oM;have hb1:=za4 hrs oM;have hb2:=za4 hqs oM;have hgr:rs[((k:Nat):Int).toNat]?=some rs[k]:=gE hkr;have hgq:qs[((k:Nat):Int).toNat]?=some qs[k]:=gE hkq;have hR:=hallr.get (gE hkP) (gE hkr);have hQ':=hallq.get (gE hkQ) (gE hkq);have h1:P.take (k+1)=P.take k++[P[k]]:=tS hkP;have h2:Q.take (k+1)=Q.take k++[Q[k]]:=tS hkQ;have hpl:=hPl _ (gM hkP);have hdiff:P[k]≠Q[k]→decide (P=Q)=false:=fun h=>zf5 fun e=>h (by subst e; rfl);generalize P[k]=x at *;generalize Q[k]=y at *;generalize rs[k]=r at *;generalize qs[k]=q at *;obtain ⟨ap,an,ac⟩:=r;obtain ⟨bp,bn,bc⟩:=q;refine kP (tN (sQ (bK (sQ ?_))));refine dW [] [(0,2),(1,2),(2,2),(3,1),(4,2),(5,2),(6,2),(7,1),(8,0),(9,2)] ze1 kR ?_;refine yM I (yM I (pU I (iA aY aR I I hb1 oM sL) (pK I (eB (u:=.slice ap an ac) bM I (za5 hrs) hgr I) (yM I (yM I (pU I (iA aY aR I I hb2 oM sL) (pK I (eB (u:=.slice bp bn bc) bM I (za5 hqs) hgq I) (SP.o I (cL call17 I (mJ E g s (.slice ap an ac) (.slice bp bn bc) x y hR hQ' oM)) dC (.inr iR) ?_))))))));rintro _ _ _ ⟨rfl,rfl,rfl⟩;refine pU I (aS I) (pN (tN (sW I (lU (SU.notP I) (tZ ?_)))));refine iQ I (fun hxy=>?_) (fun hxy=>?_)
   ·have hxy':x≠y:=by simpa using hxy
    refine rZ (aT I (rE (bR (tR (tR (bR (tR ?_)))))));exact za6 (.inl I) results44 I ⟨by rw[hdiff hxy'],I,I⟩
   ·have hxy':x=y:=by simpa using hxy
    refine kP (bN (tN (rG (lM I (yD I (lA I (nL ?_)))))));exact gA (k+1) sB I I ⟨oM,by rw[h1,h2,heq,hxy']⟩ oM
  ·have hkk:k=rs.length:=oM;subst hkk;rw[tL oM,tL oM] at heq;refine xI (tX (tX (bX (tN (rZ (aT I (rE ?_)))))));have h0:decide (P=Q)=true:=zf6 heq;exact za6 (.inl I) results44 I ⟨by rw[h0],I,I⟩
theorem jA (E:World)(g:PH)(s:Own)(v u:Value)(P Q:List (List (List Int)))(hv:Pgs g v P)(hu:Pgs g u Q)(hP:P.length<1099511627776)(hPl:∀ A∈P,A.length<1099511627776∧∀ x∈A,x.length<1099511627776)(hQ:Q.length<1099511627776)(hQl:∀ A∈Q,A.length<1099511627776) :
  Ctr Tryz.prog E 16 #[v,u] g s (fun r g' s'=>r=vb (decide (P=Q))∧g=g'∧s=s'):=by
 obtain ⟨rs,hrs,hallr⟩:=hv;obtain ⟨qs,hqs,hallq⟩:=hu;have hlr:=hallr.length;have hlq:=hallq.length;obtain ⟨rp,rc,rfl⟩:=za2 hrs;obtain ⟨qp,qc,rfl⟩:=za2 hqs;refine za9 (args:=[.slice rp rs.length rc,.slice qp qs.length qc]) func16 I ntmps16 (bE I) ?_;refine rZ (aT I (sQ (sW I (lU (eN iY I) (lM I (lU (eN iY I) (lU (nQ I I) (tZ ?_))))))));refine iP I (fun hne=>?_) (fun hne=>?_)
 ·refine rZ (aT I (rE (tR ?_)));have h0:decide (P=Q)=false:=zf5 fun e=>hne (by rw[← hlr,← hlq,e]);exact za6 (.inl I) results16 I ⟨by rw[h0],I,I⟩
 ·have hlen:rs.length=qs.length:=oM;refine kP (tN (sQ (rZ (aT I (bK ?_)))));refine oP (ι:=Nat) (fun k=>[(0,.slice rp rs.length rc),(1,.slice qp qs.length qc),(5,vi k)]) (fun _=>g) (fun _=>s) (fun k=>k≤rs.length∧P.take k=Q.take k) (fun k=>rs.length - k) 0 sB I I ⟨zf4 _,I⟩ ?_;rintro k ⟨hk,heq⟩;refine sQ (sW I (lM I (lU (eN iY I) (yL I (tZ ?_)))));refine iP I (fun hlt=>?_) (fun hlt=>?_)
  ·have hkr:k<rs.length:=oM;have hkq:k<qs.length:=oM;have hkP:k<P.length:=oM;have hkQ:k<Q.length:=oM;have hb1:=za4 hrs oM;have hb2:=za4 hqs oM;have hgr:rs[((k:Nat):Int).toNat]?=some rs[k]:=gE hkr;have hgq:qs[((k:Nat):Int).toNat]?=some qs[k]:=gE hkq;have hR:=hallr.get (gE hkP) (gE hkr);have hQ':=hallq.get (gE hkQ) (gE hkq);have h1:P.take (k+1)=P.take k++[P[k]]:=tS hkP;have h2:Q.take (k+1)=Q.take k++[Q[k]]:=tS hkQ;have hpl:=hPl _ (gM hkP);have hql:=hQl _ (gM hkQ);have hdiff:P[k]≠Q[k]→decide (P=Q)=false:=fun h=>zf5 fun e=>h (by subst e; rfl);generalize P[k]=x at *;generalize Q[k]=y at *;generalize rs[k]=r at *;generalize qs[k]=q at *;obtain ⟨ap,an,ac⟩:=r;obtain ⟨bp,bn,bc⟩:=q;refine kP (tN (sQ (bK (sQ ?_))));refine dW [] [(0,2),(1,2),(2,2),(3,1),(4,2),(5,2),(6,2),(7,1),(8,0),(9,2)] ze1 kR ?_;refine yM I (yM I (pU I (iA iY kO I I hb1 oM sL) (pK I (eB (u:=.slice ap an ac) lD I (za5 hrs) hgr I) (yM I (yM I (pU I (iA iY kO I I hb2 oM sL) (pK I (eB (u:=.slice bp bn bc) lD I (za5 hqs) hgq I) (SP.o I (cL call44 I (kw E g s (.slice ap an ac) (.slice bp bn bc) x y hR hQ' hpl.1 hpl.2 hql)) dC (.inr iR) ?_))))))));rintro _ _ _ ⟨rfl,rfl,rfl⟩;refine pU I (aS I) (pN (tN (sW I (lU (SU.notP I) (tZ ?_)))));refine iQ I (fun hxy=>?_) (fun hxy=>?_)
   ·have hxy':x≠y:=by simpa using hxy
    refine rZ (aT I (rE (bR (tR (tR (bR (tR ?_)))))));exact za6 (.inl I) results16 I ⟨by rw[hdiff hxy'],I,I⟩
   ·have hxy':x=y:=by simpa using hxy
    refine kP (bN (tN (rG (lM I (yD I (lA I (nL ?_)))))));exact gA (k+1) sB I I ⟨oM,by rw[h1,h2,heq,hxy']⟩ oM
  ·have hkk:k=rs.length:=oM;subst hkk;rw[tL oM,tL oM] at heq;refine xI (tX (tX (bX (tN (rZ (aT I (rE ?_)))))));have h0:decide (P=Q)=true:=zf6 heq;exact za6 (.inl I) results16 I ⟨by rw[h0],I,I⟩
def n5:List Cl:=[⟨1,0,[]⟩,⟨2,0,[]⟩,⟨3,0,[]⟩,⟨4,1,[⟨1,-1⟩,⟨2,1⟩]⟩,⟨5,1,[⟨1,-1⟩,⟨3,1⟩]⟩,⟨6,1,[⟨2,-1⟩,⟨3,1⟩]⟩]
theorem BD:bV [1,2]=[1,2]:=by
 unfold bV;rw[iV dC];rfl
theorem BE:bV [0,2]=[0,2]:=by
 unfold bV;rw[iV dC];rfl
theorem zz:bQ [[0,1],[1,2],[0,2]]=n5:=by
 simp only[bQ,aG,BF,BD,BE];rfl
theorem l7:cR n5:=Ak dC dC
theorem o5:∀ c∈n5,iS c.id:=by unfold iS; decide
theorem Au:cD n5 [[4,6],[5]]=0:=by kernel_rfl
theorem B8:cD n5 [[4],[5]]=45:=by kernel_rfl
theorem yO:(aX (dv (ae n5) [[4,6],[5]])).2=0:=by kernel_rfl
theorem yQ:(gz n5 [[4,6],[5]]).length=10:=by
 unfold gz;rw[zf7 (by rintro (h | h); exact h Au; exact h yO)]
 kernel_rfl
theorem k7:bB n5 [[4,6],[5]] 2=0:=by kernel_rfl
theorem BH:rkP 2=fun C R=>rkF C R i4:=funext fun C=>funext fun R=>Cx C R i4
theorem qN:a8 n5 [[4,6],[5]] 2=[[[2,0],[2,0]],[[1,0],[1,0]]]:=by
 unfold a8;rw[zf7 (by rw[k7]; simp),BH]
 kernel_rfl
theorem yR:ek n5 [[4,6],[5]] 2=[1,1]:=by
 unfold ek;rw[qN]
 kernel_rfl
theorem tJ (E:World)(g:PH)(s:Own):Ctr Tryz.prog E 26 #[] g s (fun r g' s'=>s=s'∧Le g g'∧∃ u,r = .agg #[u]∧am g' u n5):=by
 refine za9 (args:=[]) func26 I ntmps26 (bE I) ?_;refine rZ (bW (aL zk9) fun b0=>?_);refine tZ (rZ (lW (bS sty25 I I I (ab sB) dC) ?_));rintro _ _ _ ⟨b1,rfl,rfl,rfl⟩;refine zb3 fun g1 hle1 hb1=>?_;refine lW (bS sty25 I I I (ab sB) dC) ?_;rintro _ _ _ ⟨b2,rfl,rfl,rfl⟩;refine zb3 fun g2 hle2 hb2=>?_;refine lW (bS sty25 I I I (ab sB) dC) ?_;rintro _ _ _ ⟨b3,rfl,rfl,rfl⟩;refine zb3 fun g3 hle3 hb3=>?_;refine lW (bS sty22 I I I (ab sB) dC) ?_;rintro _ _ _ ⟨b4,rfl,rfl,rfl⟩;refine zb3 fun g4 hle4 hb4=>?_;have hlit:ax g4 (.slice (some ⟨b4,0,none⟩) 3 3) [[0,1],[1,2],[0,2]]:=⟨[eC (.slice (some ⟨b1,0,none⟩) 2 2),eC (.slice (some ⟨b2,0,none⟩) 2 2),eC (.slice (some ⟨b3,0,none⟩) 2 2)],SlA.lit hb4 rfl rfl,⟨SlA.lit ((hle2.trans (hle3.trans hle4)) _ _ hb1) rfl rfl,SlA.lit ((hle3.trans hle4) _ _ hb2) rfl rfl,SlA.lit (hle4 _ _ hb3) rfl rfl,trivial⟩⟩;refine lW (cL call54 I (nJ E g4 _ _ _ hlit dC dC)) ?_;rintro _ g5 _ ⟨rfl,hle5,u,rfl,hu⟩;rw[zz] at hu;obtain ⟨q,d,rfl⟩:=hu.form;refine oZ (sK 0 aw I I I I I sB) ?_;refine tZ (rE ?_);exact ST.retCD 0 s (.inl I) results26 I bh aw I I uR ⟨I,hle1.trans (hle2.trans (hle3.trans (hle4.trans hle5))),_,I,hu⟩
theorem pT (E:World)(hE:E.drawn=0)(g:PH)(s:Own):Ctr Tryz.prog E 7 #[] g s (fun r g' s'=>r=vb true∧s=s'∧Le g g'):=by
 refine za9 (args:=[]) func7 I ntmps7 (bE I) ?_;refine rZ (aT I (rZ (lW (cL call26 I (tJ E g s)) ?_)));rintro _ g1 _ ⟨rfl,hle1,u,rfl,hu⟩;obtain ⟨q,d,rfl⟩:=hu.form;refine bW (aL zk9) fun b1=>?_;refine oZ (sK 0 aw I I I I I ⟨I,trivial⟩) (tZ (rZ (lW (bS sty25 I I I (ab sB) dC) ?_)));rintro _ _ _ ⟨b10,rfl,rfl,rfl⟩;refine zb3 fun g2 hle2 hb10=>?_;refine lW (bS sty25 I I I (ab ⟨I,trivial⟩) dC) ?_;rintro _ _ _ ⟨b11,rfl,rfl,rfl⟩;refine zb3 fun g3 hle3 hb11=>?_;refine lW (bS sty22 I I I (ab sB) dC) ?_;rintro _ _ _ ⟨b12,rfl,rfl,rfl⟩;refine zb3 fun g4 hle4 hb12=>?_;have hT:ax g4 (.slice (some ⟨b12,0,none⟩) 2 2) [[4,6],[5]]:=⟨[eC (.slice (some ⟨b10,0,none⟩) 2 2),eC (.slice (some ⟨b11,0,none⟩) 1 1)],SlA.lit hb12 rfl rfl,⟨SlA.lit ((hle3.trans hle4) _ _ hb10) rfl rfl,SlA.lit (hle4 _ _ hb11) rfl rfl,trivial⟩⟩;have hu4:=hu.mono (hle2.trans (hle3.trans hle4));refine aT I (rZ (lK (qV 0 bh aw I I I) (lM I (lW (cL call20 I (tM E hE g4 _ _ _ n5 [[4,6],[5]] hu4 l7 o5 hT dC dC)) ?_))));rintro _ g5 _ ⟨rfl,hle5,u5,rfl,hu5⟩;obtain ⟨q5,d5,rfl⟩:=hu5.form;rw[yQ];have hu5':=hu4.mono hle5;have hT5:=hT.mono hle5;refine bW (aL zk9) fun b3=>?_;refine oZ (sK 0 aw I I I I I ⟨I,trivial⟩) (tZ (rZ (lK (qV 1 bh aw I I I) (lM I (lW (cL call12 I (kX E hE g5 _ _ _ n5 [[4,6],[5]] 2 hu5' l7 o5 hT5 dC dC dC dC)) ?_)))));rintro _ g6 _ ⟨rfl,hle6,u6,rfl,hP⟩;rw[k7];rw[qN] at hP;have hu6:=hu5'.mono hle6;have hT6:=hT5.mono hle6;refine lM I (yX I (yX I (lA I (aT I (rZ (lK (qV 1 bh aw I I I) (lM I (lW (cL call14 I (oT E hE g6 _ _ _ n5 [[4,6],[5]] 2 hu6 l7 o5 hT6 dC dC dC dC)) ?_))))))));rintro _ g7 _ ⟨rfl,hle7,u7,rfl,hB⟩;rw[k7];rw[yR] at hB;have hu7:=hu6.mono hle7;have hP7:=hP.mono hle7;refine lM I (yX I (yX I (lA I (aT I (rZ (lW (bS sty25 I I I (ab sB) dC) ?_))))));rintro _ _ _ ⟨b28,rfl,rfl,rfl⟩;refine zb3 fun g8 hle8 hb28=>?_;refine lW (bS sty25 I I I (ab sB) dC) ?_;rintro _ _ _ ⟨b29,rfl,rfl,rfl⟩;refine zb3 fun g9 hle9 hb29=>?_;refine lW (bS sty22 I I I (ab sB) dC) ?_;rintro _ _ _ ⟨b30,rfl,rfl,rfl⟩;refine zb3 fun g10 hle10 hb30=>?_;have h30:ax g10 (.slice (some ⟨b30,0,none⟩) 2 2) [[2,0],[2,0]]:=⟨[eC (.slice (some ⟨b28,0,none⟩) 2 2),eC (.slice (some ⟨b29,0,none⟩) 2 2)],SlA.lit hb30 rfl rfl,⟨SlA.lit ((hle9.trans hle10) _ _ hb28) rfl rfl,SlA.lit (hle10 _ _ hb29) rfl rfl,trivial⟩⟩;refine lW (bS sty25 I I I (ab sB) dC) ?_;rintro _ _ _ ⟨b31,rfl,rfl,rfl⟩;refine zb3 fun g11 hle11 hb31=>?_;refine lW (bS sty25 I I I (ab sB) dC) ?_;rintro _ _ _ ⟨b32,rfl,rfl,rfl⟩;refine zb3 fun g12 hle12 hb32=>?_;refine lW (bS sty22 I I I (ab sB) dC) ?_;rintro _ _ _ ⟨b33,rfl,rfl,rfl⟩;refine zb3 fun g13 hle13 hb33=>?_;have h33:ax g13 (.slice (some ⟨b33,0,none⟩) 2 2) [[1,0],[1,0]]:=⟨[eC (.slice (some ⟨b31,0,none⟩) 2 2),eC (.slice (some ⟨b32,0,none⟩) 2 2)],SlA.lit hb33 rfl rfl,⟨SlA.lit ((hle12.trans hle13) _ _ hb31) rfl rfl,SlA.lit (hle13 _ _ hb32) rfl rfl,trivial⟩⟩;refine lW (bS sty37 I I I (ab sB) dC) ?_;rintro _ _ _ ⟨b34,rfl,rfl,rfl⟩;refine zb3 fun g14 hle14 hb34=>?_;have hW:Pgs g14 (.slice (some ⟨b34,0,none⟩) 2 2) [[[2,0],[2,0]],[[1,0],[1,0]]]:=⟨[eC (.slice (some ⟨b30,0,none⟩) 2 2),eC (.slice (some ⟨b33,0,none⟩) 2 2)],SlA.lit hb34 rfl rfl,⟨h30.mono (hle11.trans (hle12.trans (hle13.trans hle14))),h33.mono hle14,trivial⟩⟩;have hl14:=hle8.trans (hle9.trans (hle10.trans (hle11.trans (hle12.trans (hle13.trans hle14)))));have hP14:=hP7.mono hl14;have hB14:=za3 hB hl14;have hu14:=hu7.mono hl14;refine aT I (rZ (lU (fA ed I c8 I) (lK (qL (v:=.slice q5 10 d5) eY I (cO 0 I I)) (lU (eN aA I) (yE I (lM I (yC I (lY I I I (eQ I I) (yP I (lM I (yC I (yC I (zd8 (gT I I I dC) (cL call16 I (jA E g14 _ _ _ _ _ hP14 hW dC dC dC dC)) dC ?_)))))))))))));rintro _ _ _ ⟨rfl,rfl,rfl⟩;rw[show decide (([[[2,0],[2,0]],[[1,0],[1,0]]]:List (List (List Int)))=[[[2,0],[2,0]],[[1,0],[1,0]]])=true from zf6 rfl];refine yP I (lM I (yC I (lY I I I (eQ I I) (yP I (lM I (yC I (zd8 (gT I I I dC) (bS sty25 I I I (ab sB) dC) dC ?_)))))));rintro _ _ _ ⟨b54,rfl,rfl,rfl⟩;refine zb3 fun g15 hle15 hb54=>?_;have hW54:bC g15 (.slice (some ⟨b54,0,none⟩) 2 2) [1,1]:=SlA.lit hb54 rfl rfl;have hB15:=za3 hB14 hle15;refine zd8 (gT I I I dC) (cL call17 I (mJ E g15 _ _ _ _ _ hB15 hW54 dC)) dC ?_;rintro _ _ _ ⟨rfl,rfl,rfl⟩;rw[show decide (([1,1]:List Int)=[1,1])=true from zf6 rfl];refine yP I (lM I (SL.gq (gT I I I dC) (qV 1 bh aw I I I) dC (zd8 (gT I I I dC) (bS sty25 I I I (ab ⟨I,trivial⟩) dC) dC ?_)));rintro _ _ _ ⟨b59,rfl,rfl,rfl⟩;refine zb3 fun g16 hle16 hb59=>?_;refine zd8 (gT I I I dC) (bS sty25 I I I (ab ⟨I,trivial⟩) dC) dC ?_;rintro _ _ _ ⟨b60,rfl,rfl,rfl⟩;refine zb3 fun g17 hle17 hb60=>?_;refine zd8 (gT I I I dC) (bS sty22 I I I (ab sB) dC) dC ?_;rintro _ _ _ ⟨b61,rfl,rfl,rfl⟩;refine zb3 fun g18 hle18 hb61=>?_;have hT2:ax g18 (.slice (some ⟨b61,0,none⟩) 2 2) [[4],[5]]:=⟨[eC (.slice (some ⟨b59,0,none⟩) 1 1),eC (.slice (some ⟨b60,0,none⟩) 1 1)],SlA.lit hb61 rfl rfl,⟨SlA.lit ((hle17.trans hle18) _ _ hb59) rfl rfl,SlA.lit (hle18 _ _ hb60) rfl rfl,trivial⟩⟩;have hu18:=hu14.mono (hle15.trans (hle16.trans (hle17.trans hle18)));refine zd8 (gT I I I dC) (cL call23 I (nW E hE g18 _ _ _ n5 [[4],[5]] hu18 l7 o5 hT2 dC dC)) dC ?_;rintro _ g19 _ ⟨rfl,hle19,rfl⟩;rw[B8];refine lY I I I (eQ I I) (yP I (aT I (rE (dR (s':=s) uR ?_))));exact za6 (.inl I) results7 I ⟨I,I,hle1.trans (hle2.trans (hle3.trans (hle4.trans (hle5.trans (hle6.trans (hle7.trans (hl14.trans (hle15.trans (hle16.trans (hle17.trans (hle18.trans hle19)))))))))))⟩
def zf (y:Int):Int:=if bG y 2=0 then 4 else 5
theorem ue (y:Int):([4,5]:List Int)[(bG y 2).toNat]?=some (zf y):=by
 have:=aO y 2 dC dC;unfold zf
 rcases (by omega:bG y 2=0∨bG y 2=1) with e | e
 ·rw[e]; rfl
 ·rw[e]; rfl
def eZ (kd:Int)(ls:List (List Int))(y:Int):List Cl:=if (ju kd ls y).length>20 then ju (zf y) [] (bG y 8) else ju kd ls y
def im (kd:Int)(ls:List (List Int))(y:Int):List Cl:=if (eZ kd ls y).length>20 then bQ [[0,1,2],[1,2,3],[0,3]] else eZ kd ls y
theorem Tryz.buildK24 (a b:Int)(w:World):(Instr.build 24 #[(0,vi a),(2,vi b)]).run Tryz.prog w = .ok (.agg #[vi a,.slice none 0 0,vi b]) w:=by
 have h1:∀ n,(vi n).cells = #[vi n]:=fun _=>rfl;simp[Instr.build,Instr.fill,h1];rfl
theorem vy (E:World)(g:PH)(s:Own)(v:Value)(kd y:Int)(ls:List (List Int))(hv:ax g v ls) :
  Ctr Tryz.prog E 8 #[.agg #[vi kd,v,vi y]] g s (fun r g' s'=>s=s'∧Le g g'∧∃ u,r = .agg #[u]∧am g' u (im kd ls y)):=by
 obtain ⟨p,n,c,rfl⟩:∃ p n c,v = .slice p n c:=by
  obtain ⟨rs0,hrs0,_⟩:=hv;obtain ⟨p,c,rfl⟩:=za2 hrs0;exact⟨_,_,_,I⟩
 have hy:=aO y 2 dC dC;have hf1:=(kZ kd ls y).1;have hf2:=(kZ (zf y) [] (bG y 8)).1;refine za9 (args:=[.agg #[vi kd,.slice p n c,vi y]]) func8 I ntmps8 (bE I) ?_;refine rZ (bW (bO I) fun b1=>?_);refine bW (aL zk9) fun b2=>?_;refine tZ (rZ (lK (qV 1 isAgg24 sizeOf24 I I I) (lW (cL call27 I (qA E g _ _ kd y ls hv)) ?_)));rintro _ g1 _ ⟨rfl,hle1,u1,rfl,hu1⟩;obtain ⟨q1,d1,rfl⟩:=hu1.form;refine bW (aL zk9) fun b3=>?_;refine oZ (sK 0 aw I I I I I ⟨I,trivial⟩) (tZ ?_);refine SC.cut (ι:=PH×Option Addr×Nat) (fun i=>[(2,pp b2 0),(3,pp b3 0)]) (fun i=>i.1) (fun i=>pt b3 (.cells #[.slice i.2.1 (eZ kd ls y).length i.2.2] 30 (0,0))::pt b2 (.cells #[.slice none 0 0] 30 (0,0))::pt b1 (.cells #[vi kd,.slice p n c,vi y] 24 (0,0))::s) (fun i=>Le g1 i.1∧am i.1 (.slice i.2.1 (eZ kd ls y).length i.2.2) (eZ kd ls y)) ?_ ?_
 ·refine rZ (lU (fA ed I c8 I) (lK (qL (v:=.slice q1 (ju kd ls y).length d1) eY I (cO 0 I I)) (lU (eN aA I) (lU (gR I I) (tZ ?_)))));refine iP I (fun h20=>?_) (fun h20=>?_)
  ·have hs2:eZ kd ls y=ju (zf y) [] (bG y 8):=by unfold eZ; rw[zf8 oM]
   rw[hs2];refine SC.drawX [11] ze1 kR ?_;refine SX.u (i:=1) I kR (fA jY I zT3 I) dC (SX.q (i:=2) I kR (qL (v:=vi y) iT3 I (cO 2 I I)) dC (SX.u (i:=6) I kR (fA jY I zT3 I) dC (SX.q (i:=7) I kR (qL (v:=vi y) iT3 I (cO 2 I I)) dC ?_)))
   repeat' (first
    | (refine SB.o (i:=0) I (bS sty25 I I I (ab sB) dC) dC (.inr iR) ?_; rintro _ _ _ ⟨b10,rfl,rfl,rfl⟩; refine SX.freeze fun g2 hle2 hb10=>?_; have h10:SlA encInt g2 (.slice (some ⟨b10,0,none⟩) 2 2) [4,5]:=SlA.lit hb10 rfl rfl; refine SX.u (i:=4) I kD (iA ah zT3 I I I oM (show bG y 2<((2:Nat):Int) by omega)) dC ?_)
    | (refine SB.o (i:=0) I (bS sty25 I I I (ab sB) dC) dC (.inr iR) ?_; rintro _ _ _ ⟨b10,rfl,rfl,rfl⟩; refine SX.freeze fun g2 hle2 hb10=>?_; have h10:SlA encInt g2 (.slice (some ⟨b10,0,none⟩) 2 2) [4,5]:=SlA.lit hb10 rfl rfl)
    | (refine SB.o (i:=3) I (cL gD I (aK E _ _ y 2 dC)) dC (.inr iR) ?_; rintro _ _ _ ⟨rfl,rfl,rfl⟩; refine SX.u (i:=4) I kD (iA ah zT3 I I I oM (show bG y 2<((2:Nat):Int) by omega)) dC ?_)
    | (refine SB.o (i:=3) I (cL gD I (aK E _ _ y 2 dC)) dC (.inr iR) ?_; rintro _ _ _ ⟨rfl,rfl,rfl⟩)
    | (refine SB.o (i:=5) I (SQ.sof (eB iT3 I (za5 h10) (ue y) I)) dC (.inr iR) ?_; rintro _ _ _ ⟨rfl,rfl,rfl⟩; refine SX.u (i:=9) I kD (za1 I (buildK24 _ _)) dC ?_)
    | (refine SB.o (i:=5) I (SQ.sof (eB iT3 I (za5 h10) (ue y) I)) dC (.inr iR) ?_; rintro _ _ _ ⟨rfl,rfl,rfl⟩)
    | (refine SB.o (i:=8) I (cL gD I (aK E _ _ y 8 dC)) dC (.inr iR) ?_; rintro _ _ _ ⟨rfl,rfl,rfl⟩; refine SX.u (i:=9) I kD (za1 I (buildK24 _ _)) dC ?_)
    | (refine SB.o (i:=8) I (cL gD I (aK E _ _ y 8 dC)) dC (.inr iR) ?_; rintro _ _ _ ⟨rfl,rfl,rfl⟩)
    | (refine SB.o (i:=8) I (cL gD I (aK E _ _ y 8 dC)) dC (.inr iR) ?_; rintro _ _ _ ⟨rfl,rfl,rfl⟩)
    | (refine SB.o (i:=10) rfl (cL call27 rfl (qA E g2 _ _ (zf y) (bG y 8) [] ⟨[],zb8 _ _,trivial⟩)) dC (.inr (by rintro _ g3 _ ⟨rfl,hle3,u3,rfl,hu3⟩; exact⟨by exact Le.trans (by assumption) (by assumption),(by exact .refl _)⟩)) ?_; rintro _ g3 _ ⟨rfl,hle3,u3,rfl,hu3⟩; obtain ⟨q3,d3,rfl⟩:=hu3.form)
    | (refine SB.on (i:=11) I (sK 0 aw I I I I I ⟨I,trivial⟩) (.inl dC) ?_; rintro _ _ _ ⟨rfl,rfl⟩)
    | refine zd4 0 3 kD ?_ ?_
    | refine zd3 3 kD ?_
    | refine zd4 5 8 kD ?_ ?_
    | refine zd3 8 kD ?_
    | refine zd3 10 kD ?_
    | refine zd3 11 kD ?_
    | refine zd3 5 kD ?_
    | refine zd4 0 8 kD ?_ ?_
    | refine zd3 0 kD ?_
    | (refine SX.nil kD ?_; exact za7 (g3,q3,d3) sB I I ⟨hle2.trans hle3,hu3⟩))
  ·have hs2:eZ kd ls y=ju kd ls y:=by unfold eZ; rw[zf7 oM]
   rw[hs2];refine kP ?_;exact za7 (g1,q1,d1) sB I I ⟨zb7 _,hu1⟩
 rintro ⟨g3,q3,d3⟩ ⟨hle3,hu3⟩;dsimp only at hle3 hu3 ⊢;have hf2:(eZ kd ls y).length<1099511627776:=by
  have h2:=(kZ (zf y) [] (bG y 8)).1;unfold eZ;split <;> omega
 refine sQ (rZ (lU (fA ed I c8 I) (lK (qL (v:=.slice q3 (eZ kd ls y).length d3) eY I (cO 0 I I)) (lU (eN aA I) (lU (gR I I) (tZ ?_))))));refine iP I (fun h21=>?_) (fun h21=>?_)
 ·have hs:im kd ls y=bQ [[0,1,2],[1,2,3],[0,3]]:=by unfold im; rw[zf8 oM]
  refine rG (lW (bS sty25 I I I (ab sB) dC) ?_);rintro _ _ _ ⟨b25,rfl,rfl,rfl⟩;refine zb3 fun g4 hle4 hb25=>?_;refine lW (bS sty25 I I I (ab sB) dC) ?_;rintro _ _ _ ⟨b26,rfl,rfl,rfl⟩;refine zb3 fun g5 hle5 hb26=>?_;refine lW (bS sty25 I I I (ab sB) dC) ?_;rintro _ _ _ ⟨b27,rfl,rfl,rfl⟩;refine zb3 fun g6 hle6 hb27=>?_;refine lW (bS sty22 I I I (ab sB) dC) ?_;rintro _ _ _ ⟨b28,rfl,rfl,rfl⟩;refine zb3 fun g7 hle7 hb28=>?_;have hlit:ax g7 (.slice (some ⟨b28,0,none⟩) 3 3) [[0,1,2],[1,2,3],[0,3]]:=⟨[eC (.slice (some ⟨b25,0,none⟩) 3 3),eC (.slice (some ⟨b26,0,none⟩) 3 3),eC (.slice (some ⟨b27,0,none⟩) 2 2)],SlA.lit hb28 rfl rfl,⟨SlA.lit ((hle5.trans (hle6.trans hle7)) _ _ hb25) rfl rfl,SlA.lit ((hle6.trans hle7) _ _ hb26) rfl rfl,SlA.lit (hle7 _ _ hb27) rfl rfl,trivial⟩⟩;refine lW (cL call21 I (aI E g7 _ _ _ hlit dC dC)) ?_;rintro _ g8 _ ⟨rfl,hle8,u8,rfl,hu8⟩;obtain ⟨q8,d8,rfl⟩:=hu8.form;refine oZ (sK 0 aw I I I I I ⟨I,trivial⟩) (tZ (rZ (lK (qV 0 bh aw I I I) (oZ (sK 1 aw I I I I I ⟨I,trivial⟩) (tZ (rE ?_))))));exact ST.retCD 1 s (.inl I) results8 I bh aw I I uR ⟨I,hle1.trans (hle3.trans (hle4.trans (hle5.trans (hle6.trans (hle7.trans hle8))))),_,I,by rw[hs]; exact hu8⟩
 ·have hs:im kd ls y=eZ kd ls y:=by unfold im; rw[zf7 oM]
  refine kP (tN (rZ (lK (qV 0 bh aw I I I) (oZ (sK 1 aw I I I I I ⟨I,trivial⟩) (tZ (rE ?_))))));exact ST.retCD 1 s (.inl I) results8 I bh aw I I uR ⟨I,hle1.trans hle3,_,I,by rw[hs]; exact hu3⟩
structure Sml (l:List Cl):Prop where
 rt:Rt l
 few:l.length≤20
 ids:∀ c∈l,iS c.id
theorem Cm:bQ [[0,1,2],[1,2,3],[0,3]]=[⟨1,0,[]⟩,⟨2,0,[]⟩,⟨3,0,[]⟩,⟨4,0,[]⟩,⟨5,1,[⟨1,-1⟩,⟨2,1⟩]⟩,⟨6,1,[⟨1,-1⟩,⟨3,1⟩]⟩,⟨7,1,[⟨1,-1⟩,⟨4,1⟩]⟩,⟨8,1,[⟨2,-1⟩,⟨3,1⟩]⟩,⟨9,1,[⟨2,-1⟩,⟨4,1⟩]⟩,⟨10,1,[⟨3,-1⟩,⟨4,1⟩]⟩,⟨11,2,[⟨5,1⟩,⟨6,-1⟩,⟨8,1⟩]⟩,⟨12,2,[⟨8,1⟩,⟨9,-1⟩,⟨10,1⟩]⟩]:=by
 have h123:bV [1,2,3]=[1,2,3]:=by
  unfold bV;rw[iV dC];rfl
 have h03:bV [0,3]=[0,3]:=by
  unfold bV;rw[iV dC];rfl
 simp only[bQ,aG,zD,h123,h03];rfl
theorem xP (kd:Int)(ls:List (List Int))(y:Int):Sml (im kd ls y):=by
 have key:∀ k m z,(ju k m z).length≤20→Sml (ju k m z):=fun k m z h=>⟨oB k m z,h,z6 k m z⟩;unfold im;split
 ·have hr:=m9 [[0,1,2],[1,2,3],[0,3]];rw[Cm] at hr ⊢;have h0:=jN (zd9 Prod.snd hr);rw[show aa _=_ from by kernel_rfl] at h0;exact⟨h0,by decide,by unfold iS; decide⟩
 ·rename_i h;unfold eZ at h ⊢;split
  ·rename_i h1;rw[zf8 h1] at h;exact key _ _ _ oM
  ·rename_i h1;exact key _ _ _ oM
open Go.ChangeShapes Go.WideShapes Go.ChangeAt Go.RowKit
set_option maxRecDepth 100000
section
variable {H:Type}{enc:TypeId×Value→H}{W:World}{base:Nat}{spare:Nat→Bool}{hd:Bool}
theorem Ab {v:Value}{d:DataW H}{p:List MemPlace}(h:DataW.Trod enc Tryz.prog W base spare hd 25 v d p)(hv:v.cells = #[v]):∃ l:List Int,bC (tY W) v l:=by
 obtain ⟨fuel,hf⟩:=h;rw[hv] at hf;obtain ⟨l,r,-,hl⟩:=xe hf;exact⟨l,hl⟩
end
abbrev Rws:=List (Sv×List Int)
def bu (ts:Rws):Own:=ts.map fun t=>rowA encInt 3 (.slice t.1.p t.1.n t.1.c) t.2
theorem jk {ts:Rws}{j:Nat}{v:Sv}{l:List Int}(h:ts[j]?=some (v,l))(s:Own):(bu ts++s)[j]?=some (rowA encInt 3 (.slice v.p v.n v.c) l):=by
 have hj:=(zf3.1 h).1;rw[zg9 (by simpa [bu] using hj)];simp[bu,h]
theorem jj {ts:Rws}{j:Nat}{v v':Sv}{l l':List Int}(h:ts[j]?=some (v,l))(s:Own):(bu ts++s).set j (rowA encInt 3 (.slice v'.p v'.n v'.c) l')=bu (ts.set j (v',l'))++s:=by
 have hj:=(zf3.1 h).1;rw[List.set_append_left _ _ (by simpa [bu] using hj)];simp[bu,List.map_set]
theorem oe {E:World}{g:PH}{w:World}(hd:Own):∀ (n:Nat) (s:Own),At E g (hd++s) w→At E g (hd++(bu (List.replicate n (⟨none,0,0⟩,[]))++s)) w
 | 0,s,h=>h
 | n+1,s,h=>by
  have h1:=(oe hd n s h).nilRow 3 1;rw[List.replicate_succ];exact h1.perm List.perm_middle.symm
theorem freezeTs {E:World}{w:World}:∀ (ts:Rws) (g:PH) (s:Own),At E g (bu ts++s) w→∃ g',Le g g'∧At E g' s w∧az (a7 g') (ts.map Prod.snd) (ts.map Prod.fst)
 | [],g,s,h=>⟨g,zb7 g,h,trivial⟩
 | (v,l)::r,g,s,h=>by
  have h':At E g (row 3 1 (.slice v.p v.n v.c) l.length (l.flatMap encInt.enc)::(bu r++s)) w:=h;obtain ⟨g1,hl1,h1,h2⟩:=h'.freezeRow;obtain ⟨g2,hl2,h3,h4⟩:=freezeTs r g1 s h1;exact⟨g2,hl1.trans hl2,h3,Sl.mono h2 hl2,h4⟩
theorem SC.freezeTs {P:Program}{N:Nat}{E:World}{c:Code}{Q:Exit→Act→World→Prop}{f:Fr}{g:PH}{s:Own}{ts:Rws}(h:∀ g',Le g g'→az (a7 g') (ts.map Prod.snd) (ts.map Prod.fst)→SC P N E c Q f g' s):SC P N E c Q f g (bu ts++s):=fun a w ha hw=>by
 obtain ⟨g',h1,h2,h3⟩:=Go.Proofs.YtcfkpajlakidbaaGreat.freezeTs ts g s hw;exact h g' h1 h3 a w ha h2
theorem Bn {ts:Rws}{j:Nat}{v:Sv}{l:List Int}(h:ts[j]?=some (v,l)){hd:Own}(s:Own){x:Ent}(hh:hd.length=2):((hd++(bu ts++s)).set (j+2) x)[j+2]?=some x:=by
 have hj:=(zf3.1 h).1;rw[List.getElem?_set_self];simp only[ze3,bu,ze4];omega
def TIn (ts:Rws)(x:Int):Prop:=∃ t∈ts,x∈t.2
theorem TIn.set {ts:Rws}{j:Nat}{v v':Sv}{l:List Int}(h:ts[j]?=some (v,l))(x:Int){y:Int}(hy:TIn ts y):TIn (ts.set j (v',l++[x])) y:=by
 obtain ⟨t,ht,h2⟩:=hy;have hj:=(zf3.1 h).1;obtain ⟨i,hi,e⟩:=List.mem_iff_getElem.1 ht;by_cases e2:j=i
 ·subst e2;refine⟨(v',l++[x]),List.mem_set hj _,?_⟩;obtain ⟨_,e3⟩:=zf3.1 h;rw[← e,e3] at h2;simp only[zf1];exact .inl h2
 ·refine⟨t,?_,h2⟩;have:(ts.set j (v',l++[x]))[i]?=some t:=by rw[List.getElem?_set_ne e2,gE hi,e]
  exact zf9 this
theorem TIn.new {ts:Rws}{j:Nat}{v v':Sv}{l:List Int}(h:ts[j]?=some (v,l))(x:Int):TIn (ts.set j (v',l++[x])) x :=
 ⟨(v',l++[x]),List.mem_set (zf3.1 h).1 _,by simp⟩
structure TOk (l:List Cl)(T:List (List Int)):Prop where
 pos:1≤T.length
 few:T.length≤4
 few3:l.length>12→T.length≤3
 mem:∀ t∈T,∀ x∈t,x∈il l
 len:∀ t∈T,t.length≤4 * (il l).length
 cov:∀ x∈il l,∃ t∈T,x∈t
theorem Ca {k n:Nat}(hk:k<n)(hn:n≤4):IntKind.i64.wrap (1 * 2 ^ min ((k:Nat):Int).toNat IntKind.i64.bits)=((2 ^ k:Nat):Int):=by
 have key:∀ k,k<5→IntKind.i64.wrap (1 * 2 ^ min ((k:Nat):Int).toNat IntKind.i64.bits)=((2 ^ k:Nat):Int):=by decide +kernel
 exact key k oM
theorem Ax {n:Nat}(hn:n≤4):IntKind.i64.wrap (1 * 2 ^ min ((n:Nat):Int).toNat IntKind.i64.bits)=((2 ^ n:Nat):Int):=by
 have key:∀ k,k<5→IntKind.i64.wrap (1 * 2 ^ min ((k:Nat):Int).toNat IntKind.i64.bits)=((2 ^ k:Nat):Int):=by decide +kernel
 exact key n oM
theorem Cb {M k:Nat}(hM:M<16)(hk:k<4):IntKind.i64.wrap (BitVec.ofInt IntKind.i64.bits (((M:Nat):Int).fdiv (2 ^ min ((k:Nat):Int).toNat IntKind.i64.bits)) &&& BitVec.ofInt IntKind.i64.bits 1).toNat=if M.testBit k then 1 else 0:=by
 have key:∀ M,M<16→∀ k,k<4→IntKind.i64.wrap (BitVec.ofInt IntKind.i64.bits (((M:Nat):Int).fdiv (2 ^ min ((k:Nat):Int).toNat IntKind.i64.bits)) &&& BitVec.ofInt IntKind.i64.bits 1).toNat=if M.testBit k then 1 else 0:=by decide +kernel
 exact key M hM k hk
theorem Aw {M n:Nat}(h0:1≤M)(h1:M<2 ^ n)(hn:n≤4):∃ k,k<n∧M.testBit k=true:=by
 have key:∀ n,n<5→∀ M,M<2 ^ n→1≤M→∃ k,k<n∧M.testBit k=true:=by decide +kernel
 exact key n oM M h1 h0
theorem zQ {n:Nat}(hn:n≤4)(h0:1≤n):2≤2 ^ n∧2 ^ n≤16:=by
 have key:∀ n,n<5→1≤n→2≤2 ^ n∧2 ^ n≤16:=by decide
 exact key n oM h0
theorem vm (E:World)(g:PH)(s:Own)(v nv:Value)(l:List Cl)(sd:Int)(ns:List Int)(hv:am g v l)(hf:cR l)(hl:(ae l).length≤1000)(hn:bC g nv ns) :
  Ctr Tryz.prog E 9 #[.agg #[v],vi sd,nv] g s (fun r g' s'=>s=s'∧Le g g'∧∃ T,ax g' r T∧TOk l T):=by
 obtain ⟨vp,vc,rfl⟩:=hv.form;obtain ⟨np,nc,rfl⟩:=za2 hn;have hll:=hf.1;have hm4:=aO sd 4 dC dC;have hm3:=aO sd 3 dC dC;have htl:(il l).length≤1000:=by
  unfold il;rw[ze4];exact zk2 (zc2 _ _) hl
 refine za9 (args:=[.agg #[.slice vp l.length vc],vi sd,.slice np ns.length nc]) func9 I ntmps9 (bE I) ?_;refine rZ (bW (bO I) fun b3=>?_);refine aT I (sW I (lW (cL gD I (aK E g _ sd 4 dC)) ?_));rintro _ _ _ ⟨rfl,rfl,rfl⟩;refine yD I (aT I ?_);refine SC.cut (ι:=Nat) (fun n=>[(2,.slice np ns.length nc),(3,pp b3 0),(7,vi n)]) (fun _=>g) (fun _=>pt b3 (.cells #[.slice vp l.length vc] 30 (0,0))::s) (fun n=>1≤n∧n≤4∧(l.length>12→n≤3)) ?_ ?_
 ·refine rZ (lU (fA ed I c8 I) (lK (qL (v:=.slice vp l.length vc) eY I (cO 0 I I)) (lU (eN aA I) (lU (gR I I) (tZ ?_)))));refine iP I (fun h12=>?_) (fun h12=>?_)
  ·refine rG (lM I (lW (cL gD I (aK E g _ sd 3 dC)) ?_));rintro _ _ _ ⟨rfl,rfl,rfl⟩;refine lU (SU.eq (v':=vi (1+(bG sd 3).toNat:Nat)) (aD I I oM) (zd9 vi oM)) (lA I (nL ?_));exact za7 (1+(bG sd 3).toNat) sB I I ⟨oM,oM,fun _=>by omega⟩
  ·refine kP ?_;refine za7 (1+(bG sd 4).toNat) ⟨I,I,?_,trivial⟩ I I ⟨oM,oM,fun h=>by omega⟩;show some (vi (1+bG sd 4))=_;exact zd9 (fun x=>some (vi x)) oM
 rintro n ⟨hn1,hn4,hn3⟩;have hpw:=zQ hn4 hn1;refine sW I (lW (mK ak ⟨none,0,0⟩ sty22 I I I oM oM) ?_);rintro _ _ _ ⟨bt,rfl,rfl,rfl⟩;refine aT I (rZ (lK (qV 1 bh aw I I I) (lW (cL call28 I (rF E g _ _ l hv hf)) ?_)));rintro _ g1 _ ⟨rfl,hle1,hA⟩;obtain ⟨ap,ac,rfl⟩:=za2 hA;refine aT I (sQ (rZ (aT I (bK ?_))));have hTok:∀ ts:Rws,ts.length=n→(∀ t∈ts,t.2.length≤4 * (il l).length∧∀ x∈t.2,x∈il l)→(∀ j<(il l).length,∀ x,(il l)[j]?=some x→TIn ts x)→TOk l (ts.map Prod.snd):=fun ts h1 h2 h3=>⟨by rw[ze4]; omega,by rw[ze4]; omega,fun h=>by rw[ze4]; have:=hn3 h; omega,fun t ht=>by
  obtain ⟨u,hu,rfl⟩:=ze9.1 ht;exact (h2 u hu).2,fun t ht=>by
  obtain ⟨u,hu,rfl⟩:=ze9.1 ht;exact (h2 u hu).1,fun x hx=>by
  obtain ⟨j,hj,e⟩:=List.mem_iff_getElem.1 hx;obtain ⟨t,ht,hxt⟩:=h3 j hj x (by rw[gE hj,e]);exact⟨t.2,ze9.2 ⟨t,ht,I⟩,hxt⟩⟩
 generalize il l=A at *;refine SC.to (fun w hw=>oe [rowA ak 25 (.slice (some ⟨bt,0,none⟩) n n) (List.replicate n ⟨none,0,0⟩),pt b3 (.cells #[.slice vp l.length vc] 30 (0,0))] n s hw) ?_;refine oP (ι:=Nat×Rws) (fun z=>[(2,.slice np ns.length nc),(7,vi n),(8,.slice (some ⟨bt,0,none⟩) n n),(9,.slice ap A.length ac),(10,vi z.1)]) (fun _=>g1) (fun z=>rowA ak 25 (.slice (some ⟨bt,0,none⟩) n n) (z.2.map Prod.fst)::pt b3 (.cells #[.slice vp l.length vc] 30 (0,0))::(bu z.2++s)) (fun z=>z.1≤A.length∧z.2.length=n∧(∀ t∈z.2,t.2.length≤4 * z.1∧∀ x∈t.2,x∈A)∧∀ j<z.1,∀ x,A[j]?=some x→TIn z.2 x) (fun z=>A.length - z.1) (0,List.replicate n (⟨none,0,0⟩,[])) sB I (by dsimp only; rw[List.map_replicate]; rfl) ⟨zf4 _,by dsimp only; rw[List.length_replicate],fun t ht=>by rw[(List.mem_replicate.1 ht).2]; exact⟨zf4 _,by simp⟩,fun j hj=>absurd hj (Nat.not_lt_zero j)⟩ ?_;rintro ⟨i,ts⟩ ⟨hi,htn,htm,htc⟩;dsimp only at hi htn htm htc ⊢;refine sQ (sW I (lM I (lU (eN ah I) (yL I (tZ ?_)))));refine iP I (fun hlt=>?_) (fun hlt=>?_)
 ·have hiA:i<A.length:=oM;have hgi:A[((i:Nat):Int).toNat]?=some A[i]:=gE hiA;have hgi0:A[i]?=some A[i]:=gE hiA;have hAm:A[i]∈A:=gM hiA;have hbA:=za4 hA oM;generalize A[i]=x at *;have hk:i % n<n:=Nat.mod_lt _ oM;have hrem:((i:Nat):Int).tmod ((n:Nat):Int)=((i % n:Nat):Int):=(Int.ofNat_tmod i n).symm;refine kP (tN (sQ (bK (sW I (lM I (lU (SU.eq (v':=vi (i % n:Nat)) (zd5 I I oM) (zd9 vi hrem)) (lU (SU.eq (v':=vi (2 ^ (i % n):Nat)) (SU.shl I I oM) (zd9 vi (Ca hk hn4))) (aT I ?_))))))));refine SC.cut (ι:=Int) (fun m=>[(2,.slice np ns.length nc),(7,vi n),(8,.slice (some ⟨bt,0,none⟩) n n),(9,.slice ap A.length ac),(10,vi i),(11,vi m)]) (fun _=>g1) (fun _=>rowA ak 25 (.slice (some ⟨bt,0,none⟩) n n) (ts.map Prod.fst)::pt b3 (.cells #[.slice vp l.length vc] 30 (0,0))::(bu ts++s)) (fun _=>True) ?_ ?_
  ·refine sW I (lU (eN ah I) (lU (gR I I) (tZ ?_)));refine iP I (fun hns=>?_) (fun hns=>?_)
   ·have hnl:0<ns.length:=oM;have hr2:((i:Nat):Int).tmod ((ns.length:Nat):Int)=((i % ns.length:Nat):Int):=(Int.ofNat_tmod i _).symm;have hkl:i % ns.length<ns.length:=Nat.mod_lt _ hnl;have hgn:ns[((i % ns.length:Nat):Int).toNat]?=some ns[i % ns.length]:=gE hkl;have hbn:=za4 hn hnl;refine dW [] [(0,2),(1,2),(2,2),(3,2),(4,2),(5,2),(6,1),(7,2),(8,2),(9,2),(10,2),(11,2),(12,2)] ze1 kR ?_;refine yM I (yM I (yM I (pU I (eN ah I) (pU I (SU.eq (v':=vi (i % ns.length:Nat)) (zd5 I I oM) (zd9 vi hr2)) (pU I (iA ah zT3 I I hbn oM (show ((i % ns.length:Nat):Int)<((ns.length:Nat):Int) by omega)) ?_)))));refine pK I (eB iT3 I (za5 (za3 hn hle1)) hgn I) (yM I (yM I (pU I (eN ah I) (pU I (SU.quo I I oM) (pU I (zd7 I I) (pU I (aS I) (pN ?_)))))));exact za7 _ sB I I trivial
   ·refine kP ?_;exact za7 _ sB I I trivial
  rintro m -;have hmr:=aO m (2 ^ n:Nat) oM oM;refine sW I (lM I (lU (SU.eq (v':=vi (2 ^ n:Nat)) (SU.shl I I oM) (zd9 vi (Ax hn4))) (lW (cL gD I (aK E g1 _ m (2 ^ n:Nat) oM)) ?_)));rintro _ _ _ ⟨rfl,rfl,rfl⟩;refine aT I ?_;refine SC.cut (ι:=Nat) (fun M=>[(2,.slice np ns.length nc),(7,vi n),(8,.slice (some ⟨bt,0,none⟩) n n),(9,.slice ap A.length ac),(10,vi i),(11,vi M)]) (fun _=>g1) (fun _=>rowA ak 25 (.slice (some ⟨bt,0,none⟩) n n) (ts.map Prod.fst)::pt b3 (.cells #[.slice vp l.length vc] 30 (0,0))::(bu ts++s)) (fun M=>1≤M∧M<2 ^ n) ?_ ?_
  ·refine sW I (yE I (tZ ?_));refine iP I (fun hz=>?_) (fun hz=>?_)
   ·refine rG (lA I (nL ?_));exact za7 1 sB I I ⟨oM,oM⟩
   ·refine kP ?_;refine za7 (bG m (2 ^ n:Nat)).toNat ⟨I,I,I,I,I,?_,trivial⟩ I I ⟨oM,oM⟩;show some (vi (bG m (2 ^ n:Nat)))=_;exact zd9 (fun x=>some (vi x)) oM
  rintro M ⟨hM1,hM2⟩;refine rZ (aT I (bK ?_));refine oP (ι:=Nat×Rws) (fun z=>[(2,.slice np ns.length nc),(7,vi n),(8,.slice (some ⟨bt,0,none⟩) n n),(9,.slice ap A.length ac),(10,vi i),(11,vi M),(12,vi z.1)]) (fun _=>g1) (fun z=>rowA ak 25 (.slice (some ⟨bt,0,none⟩) n n) (z.2.map Prod.fst)::pt b3 (.cells #[.slice vp l.length vc] 30 (0,0))::(bu z.2++s)) (fun z=>z.1≤n∧z.2.length=n∧(∀ t∈z.2,t.2.length≤4 * i+z.1∧∀ x∈t.2,x∈A)∧(∀ j<i,∀ x,A[j]?=some x→TIn z.2 x)∧∀ b<z.1,M.testBit b=true→TIn z.2 x) (fun z=>n - z.1) (0,ts) sB I I ⟨zf4 _,htn,fun t ht=>⟨(htm t ht).1,(htm t ht).2⟩,htc,fun b hb=>absurd hb (Nat.not_lt_zero b)⟩ ?_;clear htn htm htc;rintro ⟨k,us⟩ ⟨hk2,hun,hum,huc,hub⟩;dsimp only at hk2 hun hum huc hub ⊢;refine sQ (sW I (lM I (yL I (tZ ?_))));refine iP I (fun hlt2=>?_) (fun hlt2=>?_)
  ·have hkn:k<n:=oM;have hand:=Cb (M:=M) (k:=k) oM oM;refine kP (tN (sQ (bK (sW I (lM I (lU (SU.shr I I oM) (lU (SU.eq (v':=vi (if M.testBit k then 1 else 0)) (SU.and I I) (zd9 vi hand)) (yE I (tZ ?_)))))))));refine iP I (fun hbit=>?_) (fun hbit=>?_)
   ·have htb:M.testBit k=true:=by
     cases h:M.testBit k with
     | true=>rfl
     | false=>rw[h] at hbit; simp at hbit
    have hku:k<us.length:=oM;have hgk:us[k]?=some us[k]:=gE hku;have hgs:(us.map Prod.fst)[((k:Nat):Int).toNat]?=some us[k].1:=by
     rw[show ((k:Nat):Int).toNat=k from rfl,zh7,hgk];rfl
    have hum1:=hum _ (gM hku);generalize us[k]=u0 at *;obtain ⟨sv,lu⟩:=u0;dsimp only at hgs hum1;refine SC.drawT 2 [13] [(0,2),(1,2),(2,2),(3,2),(4,2),(5,1),(6,2),(7,2),(8,2),(9,1),(10,0),(11,0),(12,2),(13,0)] ze1 kR ?_;refine yM rfl (yM rfl (yM rfl (yM rfl (pU rfl (iA aY aR rfl rfl rfl oM sL) (pK rfl (eB (u:=.slice sv.p sv.n sv.c) bM rfl (zb5 (e:=ak) 0 rfl) hgs rfl) (yM rfl (yM rfl (pU rfl (iA ah zT3 rfl rfl hbA oM sL) (pK rfl (eB iT3 rfl (za5 hA) hgi rfl) (SP.o rfl (bS sty25 rfl rfl rfl (ab ⟨rfl,trivial⟩) dC) dC (.inr (by rintro _ _ _ ⟨b78,rfl,rfl,rfl⟩; exact⟨by exact zb7 _,(by exact .cons _ (List.take_sublist _ _))⟩)) ?_))))))))));rintro _ _ _ ⟨b78,rfl,rfl,rfl⟩;refine SP.o rfl (aP (e:=encInt) (l:=lu) (k+2) x sty25 rfl rfl rfl (jk hgk s) rfl oM oM) dC (.inr (by rintro v79 _ _ ⟨rfl,rfl⟩; exact⟨by exact zb7 _,(by exact cg _ _ _ _)⟩)) ?_;rintro v79 _ _ ⟨rfl,rfl⟩;refine zc8 fun ⟨w0,hw0⟩=>?_;obtain ⟨q79,d79,rfl⟩:=ag (e:=encInt) (l:=lu++[x]) (i:=k+2) hw0 (Bn (hd:=[rowA ak 25 (.slice (some ⟨bt,0,none⟩) n n) (us.map Prod.fst),pt b3 (.cells #[.slice vp l.length vc] 30 (0,0))]) hgk s rfl);clear hw0 w0;refine pU I (SU.eq (v':=.pointer (some ⟨bt,0+k * 1,none⟩)) (iA aY aR I I I oM sL) I) (SP.on I (sT (e:=ak) (a:=⟨q79,(lu++[x]).length,d79⟩) (j:=k) 0 aR I I I (by rw[ze4]; omega) I) (.inl dC) ?_);rintro _ _ _ ⟨rfl,rfl⟩;refine pN (bN (tN (rG (lM I (yD I (lA I (nL (dR (s':=rowA ak 25 (.slice (some ⟨bt,0,none⟩) n n) ((us.set k (⟨q79,(lu++[x]).length,d79⟩,lu++[x])).map Prod.fst)::pt b3 (.cells #[.slice vp l.length vc] 30 (0,0))::(bu (us.set k (⟨q79,(lu++[x]).length,d79⟩,lu++[x]))++s)) (by rw[List.map_set,← jj hgk s]; exact .refl _) ?_))))))));exact gA (k+1,(us.set k (⟨q79,(lu++[x]).length,d79⟩,lu++[x]))) sB I I ⟨by dsimp only; omega,by dsimp only; rw[zi1]; exact hun,fun t ht=>by
     dsimp only at ht ⊢
     rcases List.mem_or_eq_of_mem_set ht with h | h
     ·exact⟨by have:=(hum t h).1; omega,(hum t h).2⟩
     ·subst h;refine⟨by dsimp only; rw[ze3,ze5]; omega,fun y hy=>?_⟩
      rcases zf1.1 hy with h | h
      ·exact hum1.2 y h
      ·rw[zh5.1 h]; exact hAm,fun j hj y hy=>TIn.set hgk x (huc j hj y hy),fun b hb hb2=>TIn.new hgk x⟩ (by dsimp only; omega)
   ·have htb:M.testBit k=false:=by
     cases h:M.testBit k with
     | false=>rfl
     | true=>rw[h] at hbit; simp at hbit
    refine kP (bN (tN (rG (lM I (yD I (lA I (nL ?_)))))));exact gA (k+1,us) sB I I ⟨by dsimp only; omega,hun,fun t ht=>⟨by have:=(hum t ht).1; dsimp only; omega,(hum t ht).2⟩,huc,fun b hb hb2=>by
     dsimp only at hb;by_cases e:b=k
     ·rw[e,htb] at hb2; cases hb2
     ·exact hub b oM hb2⟩ (by dsimp only; omega)
  ·have hke:k=n:=oM;subst hke;obtain ⟨b,hb1,hb2⟩:=Aw hM1 hM2 hn4;have hx:=hub b hb1 hb2;refine xI (tX (tX (bX (bN (tN (rG (lM I (yD I (lA I (nL ?_))))))))));exact gA (i+1,us) sB I I ⟨by dsimp only; omega,hun,fun t ht=>⟨by have:=(hum t ht).1; dsimp only; omega,(hum t ht).2⟩,fun j hj y hy=>by
    dsimp only at hj;by_cases e:j=i
    ·subst e;rw[hgi0] at hy;injection hy with hy
     rw[← hy];exact hx
    ·exact huc j oM y hy⟩ (by dsimp only; omega)
 ·have hie:i=A.length:=oM;subst hie;have hok:=hTok ts htn htm htc;have hsl:(ts.map Prod.fst).length=n:=by rw[ze4]; exact htn
  refine fS fun g2 hle2 hs2=>?_;refine SC.drop (.cons _ (.refl _)) (SC.freezeTs fun g3 hle3 hall=>?_);refine xI (tX (tX (bX (tN (sW I (aT I (rE ?_)))))));exact za6 (.inl I) results9 I ⟨I,hle1.trans (hle2.trans hle3),ts.map Prod.snd,⟨ts.map Prod.fst,Sl.mono hs2 hle3,hall⟩,hok⟩
theorem gr {l:List Cl}{d:Int}(h:∀ c∈l,c.dim≤d):∀ c∈aa l,c.dim≤d:=fun c hc=>by
 obtain ⟨x,hx,rfl⟩:=ze9.1 hc;exact h x ((dy _ _).1 hx)
theorem zC (x:List Int):(bV x).length≤x.length:=by
 unfold bV;exact zk2 (gU _ _) (by rw[eU]; exact lR _)
theorem jL {n:Nat}:∀ {ls all out:List (List Int)},(∀ x∈all,x.length≤n)→(∀ x∈ls,x.length≤n)→aG all ls=some out→∀ x∈out,x.length≤n
 | [],all,out,h1,_,h=>by
  simp only[aG,zg5] at h;subst h;exact h1
 | s::r,all,out,h1,h2,h=>by
  have hr:∀ x∈r,x.length≤n:=fun x hx=>h2 x (by simp[hx]);unfold aG at h;split at h
  ·exact jL h1 hr h
  ·split at h
   ·cases h
   ·refine jL (fun x hx=>?_) hr h
    rcases (fw _ _ _).1 hx with k | k
    ·exact h1 x k
    ·have k1:=((fF _ _).1 k).1.length_le;have k2:=zC s;have k3:=h2 s (by simp);omega
theorem fu {ls:List (List Int)}{n:Nat}(h:∀ x∈ls,x.length≤n):∀ c∈bQ ls,c.dim≤(n:Int) - 1:=by
 unfold bQ;cases hs:aG [] ls with
 | none=>intro c hc; cases hc
 | some all =>
  refine gr fun c hc=>?_;obtain ⟨p,hp,rfl⟩:=ze9.1 hc;have:=jL (n:=n) (by simp) h hs p.1 (List.fst_mem_of_mem_zipIdx hp);show (p.1.length:Int) - 1≤_;omega
theorem fH {a b:List Cl}{m n:Int}(ha:∀ c∈a,c.dim≤m)(hb:∀ c∈b,c.dim≤n):∀ c∈bL a b,c.dim≤m+n:=by
 unfold bL;split
 ·intro c hc; cases hc
 ·split
  ·refine gr fun c hc=>?_;obtain ⟨x,hx,hc⟩:=List.mem_flatMap.1 hc;obtain ⟨z,hz,rfl⟩:=ze9.1 hc;have h1:=gr ha x hx;have h2:=gr hb z hz;show x.dim+z.dim≤_;omega
  ·intro c hc; cases hc
theorem xZ (n:Nat):∀ c∈ru n,c.dim≤2:=by
 refine gr fun c hc=>?_;unfold dI at hc
 rcases zf1.1 hc with hc | hc
 ·rcases zf1.1 hc with hc | hc
  ·rcases zf1.1 hc with hc | hc
   ·obtain ⟨i,-,rfl⟩:=ze9.1 hc;exact (by decide:(0:Int)≤2)
   ·obtain ⟨i,-,rfl⟩:=ze9.1 hc;exact (by decide:(1:Int)≤2)
  ·rw[zh5.1 hc];exact Int.le_refl _
 ·split at hc
  ·rw[zh5.1 hc];exact Int.le_refl _
  ·cases hc
theorem un (ls:List (List Int)):∀ x∈li ls,x.length≤4:=fun x hx=>by
 obtain ⟨l,-,rfl⟩:=ze9.1 hx;rw[ze4,ze2];omega
theorem yU (m:Int)(ls:List (List Int))(y:Int):∀ c∈mB m ls y,c.dim≤3:=by
 have up:∀ {l:List Cl} {d:Int},(∀ c∈l,c.dim≤d)→d≤3→∀ c∈l,c.dim≤3:=fun h1 h2 c hc=>by
  have:=h1 c hc;omega
 have hsf:=(oa y).2.2;have e1:∀ c∈bQ [[0,1]],c.dim≤((2:Nat):Int) - 1:=fu dC;unfold mB;split
 ·exact up (fu hsf) dC
 ·split
  ·exact up (fH (fu (eG _).2) (fu (eG _).2)) dC
  ·split
   ·exact up (xZ _) dC
   ·split
    ·exact up (fH (fH e1 e1) e1) dC
    ·split
     ·refine up (fu (n:=4) fun x hx=>?_) dC
      rcases zf1.1 hx with h | h
      ·exact un ls x h
      ·have:=hsf x (List.mem_of_mem_take h);omega
     ·exact up (fu (un ls)) dC
theorem qB (kd:Int)(ls:List (List Int))(y:Int):∀ c∈ju kd ls y,c.dim≤3:=fun c hc=>by
 obtain ⟨a,ha,rfl⟩:=mr (Be y) hc;show a.dim≤3;unfold n8 at ha;split at ha
 ·have e1:∀ c∈bQ [[0,1],[1,2],[0,2]],c.dim≤((2:Nat):Int) - 1:=fu dC;have:=fH e1 e1 a ha;omega
 ·exact yU _ _ _ a ha
theorem vz (kd:Int)(ls:List (List Int))(y:Int):∀ c∈im kd ls y,c.dim≤3:=by
 unfold im;split
 ·rw[Cm];decide
 ·unfold eZ;split
  ·exact qB _ _ _
  ·exact qB _ _ _
structure Sm3 (l:List Cl):Prop extends Sml l where
 dims:∀ c∈l,c.dim≤3
theorem xQ (kd:Int)(ls:List (List Int))(y:Int):Sm3 (im kd ls y):=⟨xP kd ls y,vz kd ls y⟩
theorem Ae (m:Nat)(h:m<1099511627776):IntKind.i64.wrap ((m:Int).tdiv 2)=((m / 2:Nat):Int):=by
 rw[Int.tdiv_eq_ediv_of_nonneg oM];have:((m:Int) / 2)=((m / 2:Nat):Int):=oM;rw[this];exact zk4 _ oM
theorem x5:∀ m,m<64→onesB m=m % 2+onesB (m / 2):=by decide +kernel
theorem uz:∀ m,m<64→onesB m≤6:=by decide +kernel
theorem fI (E:World)(g:PH)(s:Own)(n:Nat)(hn:n<64):Ctr Tryz.prog E 74 #[vi n] g s (fun r g' s'=>r=vi (onesB n)∧g=g'∧s=s'):=by
 have h6:=uz n hn;refine za9 (args:=[vi n]) func74 I ntmps74 (bE I) ?_;refine rZ (aT I (rZ (aT I (sQ (bK ?_)))));refine oP (ι:=Nat×Nat) (fun z=>[(0,vi z.1),(3,vi z.2)]) (fun _=>g) (fun _=>s) (fun z=>z.1<64∧z.2+onesB z.1=onesB n) (fun z=>z.1) (n,0) sB I I ⟨hn,Nat.zero_add _⟩ ?_;rintro ⟨m,acc⟩ ⟨hm,hac⟩;dsimp only at hm hac ⊢;refine sQ (sW I (lU (gR I I) (tZ ?_)));refine iP I (fun hgt=>?_) (fun hgt=>?_)
 ·have hst:=x5 m hm;refine kP (tN (bK (sW I (lM I (lU (SU.eq (v':=vi (m % 2:Nat)) (zd5 I I dC) (zd9 vi (Int.ofNat_tmod m 2).symm)) (lU (SU.eq (v':=vi (acc+m % 2:Nat)) (aD I I oM) (zd9 vi oM)) (aT I (rG (lM I (lU (SU.eq (v':=vi (m / 2:Nat)) (SU.quo I I dC) (zd9 vi (Ae m oM))) (lA I (nL (bN ?_)))))))))))));exact gA (m / 2,acc+m % 2) sB I I ⟨by dsimp only; omega,by dsimp only; omega⟩ (by dsimp only; omega)
 ·have hm0:m=0:=oM;subst hm0;have h0:onesB 0=0:=by decide
  rw[h0,Nat.add_zero] at hac;refine xI (tX (tX (bX (tN (sW I (aT I (rE ?_)))))));exact za6 (.inl I) results74 I ⟨by rw[hac],I,I⟩
def eD (L:List Cl)(T:List (List Int)):List Int:=L.map fun c=>((tlB L 0 T c.id:Nat):Int)
def rm (L:List Cl)(T:List (List Int))(i k:Nat):List Int:=(L.take k).map (fun c=>((tlB L 0 (T.take (i+1)) c.id:Nat):Int))++(L.drop k).map fun c=>((tlB L 0 (T.take i) c.id:Nat):Int)
theorem BU {α:Type}(A:List α)(x y:α)(B:List α){k:Nat}(hk:A.length=k):(A++x::B).set k y=A++y::B:=by
 rw[← hk,List.set_append_right _ _ (lR _),Nat.sub_self];rfl
theorem BV {α:Type}(A:List α)(x:α)(B:List α){k:Nat}(hk:A.length=k):(A++x::B)[k]?=some x:=by
 rw[← hk,zh1 (lR _),Nat.sub_self];rfl
theorem Cd {L:List Cl}(hn:(L.map Cl.id).Nodup)(q:Cl→Bool){k:Nat}{x:Cl}(hx:L[k]?=some x) :
  (q x=true→((L.filter q).map Cl.id)[((L.take k).filter q).length]?=some x.id)∧(q x=false→((L.filter q).map Cl.id)[((L.take k).filter q).length]?≠some x.id):=by
 have hk:=(zf3.1 hx).1;have e:L=L.take k++x::L.drop (k+1):=by
  conv=>lhs; rw[← zi7 k L]
  rw[zg4 hk,(zf3.1 hx).2]
 have e2:L.filter q=(L.take k).filter q++(x::L.drop (k+1)).filter q:=by
  conv=>lhs; rw[e]
  rw[zh4]
 rw[zh7,e2,zh1 (lR _),Nat.sub_self];constructor
 ·intro h;rw[List.filter_cons_of_pos h];rfl
 ·intro h;rw[List.filter_cons_of_neg (by rw[h]; simp)];cases hf:(L.drop (k+1)).filter q with
  | nil=>simp
  | cons z r =>
   have hz:z∈L.drop (k+1):=(zh2.1 (by rw[hf]; simp:z∈(L.drop (k+1)).filter q)).1;rw[e,zg3,List.nodup_append,zg2,zj5] at hn;intro k2;have k2:z.id=x.id:=by simpa using k2
   exact hn.2.1.1 (by rw[← k2]; exact ze9.2 ⟨z,hz,I⟩)
theorem lq (E:World)(g:PH)(s:Own)(v tv:Value)(l:List Cl)(T:List (List Int))(hv:am g v l)(hf:cR l)(ht:ax g tv T)(hT:T.length≤6)(hTl:∀ t∈T,t.length<1099511627776 - fh (ae l) []) :
  Ctr Tryz.prog E 73 #[.agg #[v],tv] g s (fun r g' s'=>s=s'∧Le g g'∧bC g' r (eD (ae l) T)):=by
 obtain ⟨vp,vc,rfl⟩:=hv.form;obtain ⟨ts,hts,hallt⟩:=ht;obtain ⟨tp,tc,rfl⟩:=za2 hts;have htl:=hallt.length;have hft:=dG hf;have hnd:=fo l;have hcl:=fun t=>ig l t;refine za9 (args:=[.agg #[.slice vp l.length vc],.slice tp ts.length tc]) func73 I ntmps73 (bE I) ?_;refine rZ (bW (bO I) fun b2=>?_);refine aT I (rZ (lK (qV 0 bh aw I I I) (lW (cL call61 I (bJ E g _ _ l hv hf)) ?_)));rintro v12 g1 _ ⟨rfl,hle1,rs,hrs,hallr⟩;obtain ⟨rp,rc,rfl⟩:=za2 hrs;have hrl:=hallr.length;have hlf:=hft.1;refine aT I (sW I (lU (eN aA I) (lW (mK encInt 0 sty25 I I I oM oM) ?_)));rintro _ _ _ ⟨b15,rfl,rfl,rfl⟩;refine aT I (sQ (rZ (aT I (bK ?_))));have h00:List.replicate rs.length (0:Int)=eD (ae l) (T.take 0):=by
  unfold eD;rw[← hrl,eq_comm,List.eq_replicate_iff];exact⟨by rw[ze4],fun b hb=>by obtain ⟨c,_,rfl⟩:=ze9.1 hb; rfl⟩
 rw[h00];generalize hLd:ae l=L at *;refine oP (ι:=Nat×PH) (fun z=>[(1,.slice tp ts.length tc),(2,pp b2 0),(5,.slice rp rs.length rc),(6,.slice (some ⟨b15,0,none⟩) rs.length rs.length),(7,vi z.1)]) (fun z=>z.2) (fun z=>rowA encInt 3 (.slice (some ⟨b15,0,none⟩) rs.length rs.length) (eD L (T.take z.1))::pt b2 (.cells #[.slice vp l.length vc] 30 (0,0))::s) (fun z=>z.1≤ts.length∧Le g1 z.2) (fun z=>ts.length - z.1) (0,g1) sB I I ⟨zf4 _,zb7 _⟩ ?_;rintro ⟨i,g2⟩ ⟨hi,hle2⟩;dsimp only at hi hle2 ⊢;refine sQ (sW I (lM I (lU (eN aY I) (yL I (tZ ?_)))));refine iP I (fun hlt=>?_) (fun hlt=>?_)
 ·have hit:i<ts.length:=oM;have hiT:i<T.length:=oM;have hbt:=za4 hts oM;have hgt:ts[((i:Nat):Int).toNat]?=some ts[i]:=gE hit;have hR:=hallt.get (gE hiT) (gE hit);have htm:=hTl _ (gM hiT);have htk:T.take (i+1)=T.take i++[T[i]]:=tS hiT;have htil:(T.take i).length=i:=by rw[ze2]; omega
  generalize T[i]=t at *;generalize ts[i]=r at *;obtain ⟨p1,n1,c1⟩:=r;have hR:bC g (.slice p1 n1 c1) t:=hR;have hll:=hle1.trans hle2;refine kP (tN (sQ (bK (sQ ?_))));refine dW [] [(0,1),(1,2),(2,2),(3,2),(4,1),(5,0),(6,2)] ze1 kR ?_;refine pK I (qV 1 bh aw I I I) (yM I (yM I (pU I (iA aY aR I I hbt oM sL) (pK I (eB (u:=.slice p1 n1 c1) bM I (za5 (za3 hts hll)) hgt I) (SP.o I (cL call108 I (nK E g2 _ _ _ l t (hv.mono hll) hf (za3 hR hll) (by rw[hLd]; omega))) dC (.inr iR) ?_)))));rintro v27 g3 _ ⟨rfl,hle3,hC⟩;rw[hcl t] at hC;obtain ⟨cp,cc,rfl⟩:=za2 hC;refine pU I (aS I) (pN (tN (rZ (aT I (rZ (aT I (bK ?_)))))));generalize hqd:(fun c:Cl=>(dq L t).contains c.id)=q at *;have hq1:∀ c:Cl,(dq L t).contains c.id=q c:=fun c=>by rw[← hqd]
  generalize hCl:(L.filter q).map Cl.id=C at *;have hstep:∀ c:Cl,((tlB L 0 (T.take (i+1)) c.id:Nat):Int)=((tlB L 0 (T.take i) c.id+if q c=true then 2 ^ i else 0:Nat):Int):=fun c=>by
   rw[htk,r9,hq1,htil,Nat.zero_add]
  refine oP (ι:=Nat) (fun k=>[(1,.slice tp ts.length tc),(2,pp b2 0),(5,.slice rp rs.length rc),(6,.slice (some ⟨b15,0,none⟩) rs.length rs.length),(7,vi i),(8,.slice cp C.length cc),(9,vi ((L.take k).filter q).length),(10,vi k)]) (fun _=>g3) (fun k=>rowA encInt 3 (.slice (some ⟨b15,0,none⟩) rs.length rs.length) (rm L T i k)::pt b2 (.cells #[.slice vp l.length vc] 30 (0,0))::s) (fun k=>k≤rs.length) (fun k=>rs.length - k) 0 sB I I (zf4 _) ?_;rintro k hk;refine sQ (sW I (lM I (lU (eN aA I) (yL I (tZ ?_)))));refine iP I (fun hlt2=>?_) (fun hlt2=>?_)
  ·have hkr:k<rs.length:=oM;have hkL:k<L.length:=oM;have hLk:L[k]?=some L[k]:=gE hkL;have hbr:=za4 hrs oM;have hgr:rs[((k:Nat):Int).toNat]?=some rs[k]:=gE hkr;have hRc:=hallr.get hLk (gE hkr);have hmk:=Cd hnd q hLk;rw[hCl] at hmk;have hA:(L.take k).length=k:=by rw[ze2]; omega
   have hfl:((L.take k).filter q).length≤L.length:=zk2 (zc2 _ _) (by rw[hA]; omega);have hcur:rm L T i k=(L.take k).map (fun c=>((tlB L 0 (T.take (i+1)) c.id:Nat):Int))++((tlB L 0 (T.take i) L[k].id:Nat):Int)::(L.drop (k+1)).map fun c=>((tlB L 0 (T.take i) c.id:Nat):Int):=by
    unfold rm;rw[zg4 hkL,zg2]
   have hnext:rm L T i (k+1)=(L.take k).map (fun c=>((tlB L 0 (T.take (i+1)) c.id:Nat):Int))++((tlB L 0 (T.take (i+1)) L[k].id:Nat):Int)::(L.drop (k+1)).map fun c=>((tlB L 0 (T.take i) c.id:Nat):Int):=by
    unfold rm;rw[tS hkL,zg3,zg6];rfl
   have hfn:(L.take (k+1)).filter q=(L.take k).filter q++if q L[k]=true then [L[k]] else []:=by
    rw[tS hkL,zh4,zi4];rfl
   have hsk:=hstep L[k];have hold:tlB L 0 (T.take i) L[k].id<2 ^ i:=by have:=mg L L[k].id (T.take i); rwa [htil] at this
   have hal:((L.take k).map fun c=>((tlB L 0 (T.take (i+1)) c.id:Nat):Int)).length=k:=by rw[ze4,hA]
   generalize L[k]=x at *;generalize tlB L 0 (T.take i) x.id=w0 at *;generalize rs[k]=r at *;obtain ⟨r1,r2,⟨r3,r4,r5⟩⟩:=r;obtain ⟨hx1,-,-⟩:=hRc;dsimp only at hx1;rw[hcur];generalize hj:((L.take k).filter q).length=j at *;by_cases hjC:j<C.length
   ·have hgC:C[((j:Nat):Int).toNat]?=some C[j]:=gE hjC;have hbC:=za4 hC oM;have hiff:C[j]=x.id↔q x=true:=by
     rw[show ((j:Nat):Int).toNat=j from rfl] at hgC;constructor
     ·intro e;cases hq:q x with
      | true=>rfl
      | false=>exact absurd (by rw[hgC,e]) (hmk.2 hq)
     ·intro hq;have:=hmk.1 hq;rw[hgC] at this;exact Option.some.inj this
    refine kP (tN (sQ (bK (sQ ?_))));refine dW [] [(0,2),(1,2),(2,2),(3,2),(4,2),(5,2),(6,2),(7,2),(8,1),(9,2),(10,2),(11,2),(12,2),(13,1),(14,2),(15,2)] ze1 kR ?_;refine yM I (yM I (pU I (eN ah I) (pU I (SU.eq (v':=vb true) (lS I I) (zd9 vb (zf6 oM))) (yM I (yJ I (yJ I (zb1 I (gT I I I dC) (iA ah zT3 I I hbC oM sL) dC (SP.gq I (gT I I I dC) (eB iT3 I (za5 hC) hgC I) dC (yJ I (yJ I (zb1 I (gT I I I dC) (iA aA au I I hbr oM sL) dC (zb1 I (gT I I I dC) (fC ao I zT3 I hbr) dC (SP.gq I (gT I I I dC) (aZ (e:=encCell) (o:=0) (u:=vi r1) iT3 I (za5 (za3 hrs (hle2.trans hle3))) hgr I) dC (zb1 I (gT I I I dC) (eQ I I) dC (pU I (wT I I) (pN (tN ?_)))))))))))))))));refine iQ I (fun heq=>?_) (fun heq=>?_)
    ·have hq:q x=true:=hiff.1 (by rw[← hx1]; exact zg1 heq);rw[hq,zf8 rfl] at hsk;rw[zf8 hq] at hfn;have hget:=BV ((L.take k).map fun c=>((tlB L 0 (T.take (i+1)) c.id:Nat):Int)) ((w0:Nat):Int) ((L.drop (k+1)).map fun c=>((tlB L 0 (T.take i) c.id:Nat):Int)) hal;have hset:=BU ((L.take k).map fun c=>((tlB L 0 (T.take (i+1)) c.id:Nat):Int)) ((w0:Nat):Int) ((w0+2 ^ i:Nat):Int) ((L.drop (k+1)).map fun c=>((tlB L 0 (T.take i) c.id:Nat):Int)) hal;rw[← hsk,← hnext,hsk] at hset;have h64:=pH (n:=i) oM;refine sQ ?_;refine dW [10] [(0,2),(1,2),(2,2),(3,2),(4,2),(5,1),(6,2),(7,2),(8,2),(9,2),(10,0)] ze1 kR ?_;refine yM I (yM I (yM I (yM I (pU I (iA ah zT3 I I I oM sL) (pK I (eB iT3 I (zb5 (e:=encInt) 0 I) hget I) (yM I (pU I (SU.eq (v':=vi (2 ^ i:Nat)) (SU.shl I I oM) (zd9 vi (kL i oM))) (pU I (SU.eq (v':=vi (w0+2 ^ i:Nat)) (SU.or I I) (zd9 vi (AS i oM w0 oM hold))) (pU I (SU.eq (v':=.pointer (some ⟨b15,0+k * 1,none⟩)) (iA ah zT3 I I I oM sL) I) (SP.on I (sT (e:=encInt) (a:=((w0+2 ^ i:Nat):Int)) (j:=k) 0 zT3 I I I (by rw[ze3,hal,ze6]; omega) I) (.inl dC) ?_))))))))));rintro _ _ _ ⟨rfl,rfl⟩;rw[hset];refine pN (tN (rG (lM I (yD I (lA I (nL (bN (tN (rG (lM I (yD I (lA I (nL ?_)))))))))))));exact gA (k+1) ⟨I,I,I,I,I,I,by rw[hfn,ze3,hj]; rfl,rfl,trivial⟩ rfl rfl oM oM
    ·have hq:q x=false:=by
      cases hq:q x with
      | false=>rfl
      | true=>exact absurd (by rw[hx1]; exact hiff.2 hq) (of_decide_eq_false heq)
     have hsk:((tlB L 0 (T.take (i+1)) x.id:Nat):Int)=((w0:Nat):Int):=by rw[hsk,hq]; simp
     rw[zf7 (by rw[hq]; simp),zc3] at hfn;rw[← hsk,← hnext];refine kP (bN (tN (rG (lM I (yD I (lA I (nL ?_)))))));exact gA (k+1) ⟨I,I,I,I,I,I,by rw[hfn,hj]; rfl,rfl,trivial⟩ rfl rfl oM oM
   ·have hq:q x=false:=by
     cases hq:q x with
     | false=>rfl
     | true =>
      have:=hmk.1 hq;rw[List.getElem?_eq_none oM] at this;cases this
    have hsk:((tlB L 0 (T.take (i+1)) x.id:Nat):Int)=((w0:Nat):Int):=by rw[hsk,hq]; simp
    rw[zf7 (by rw[hq]; simp),zc3] at hfn;rw[← hsk,← hnext];refine kP (tN (sQ (bK (sQ ?_))));refine dW [] [(0,2),(1,2),(2,2),(3,2),(4,2),(5,2),(6,2),(7,2),(8,1),(9,2),(10,2),(11,2),(12,2),(13,1),(14,2),(15,2)] ze1 kR ?_;refine yM I (yM I (pU I (eN ah I) (pU I (SU.eq (v':=vb false) (lS I I) (zd9 vb (zf5 oM))) (yM I (yG I (yG I (yG I (yI I (yG I (yG I (yG I (yG I (yI I (yG I (pU I (wF I I) (pN (tN (cF I (kP (bN (tN (rG (lM I (yD I (lA I (nL ?_))))))))))))))))))))))))));exact gA (k+1) ⟨I,I,I,I,I,I,by rw[hfn,hj]; rfl,rfl,trivial⟩ rfl rfl oM oM
  ·have hke:k=rs.length:=oM;subst hke;have hM:rm L T i rs.length=eD L (T.take (i+1)):=by
    unfold rm eD;rw[← hrl,List.take_length,List.drop_length,List.map_nil,zc3]
   rw[hM];refine xI (tX (tX (bX (bN (tN (rG (lM I (yD I (lA I (nL ?_))))))))));exact gA (i+1,g3) sB I I ⟨by dsimp only; omega,hle2.trans hle3⟩ (by dsimp only; omega)
 ·have hie:i=T.length:=oM;subst hie;rw[List.take_length];refine fS fun g3 hle3 hs3=>?_;refine xI (tX (tX (bX (tN (sW I (aT I (rE (dR (s':=s) uR ?_))))))));have hsl:(eD L T).length=rs.length:=by unfold eD; rw[ze4,hrl]
  exact za6 (.inl I) results73 I ⟨I,hle1.trans (hle2.trans hle3),by unfold bC SlA; rw[← hsl] at hs3 ⊢; exact hs3⟩
end Go.Proofs.YtcfkpajlakidbaaGreat
