/- 14 -/
import Derived.Test.YtkbagdedfdfjhaaGreatDoorBt13
import Derived.Test.YtkbagdedfdfjhaaGreatDoorBt10
import Derived.Test.YtkbagdedfdfjhaaGreatDoorBt09
import Derived.Test.YtkbagdedfdfjhaaGreatDoorBt11
import Derived.Test.YtkbagdedfdfjhaaGreatDoorBt06
import Derived.Test.YtkbagdedfdfjhaaGreatDoorBt08
import Derived.Test.YtkbagdedfdfjhaaGreatDoorBt07
import Derived.Test.YtkbagdedfdfjhaaGreatDoorBt12
set_option linter.unusedSimpArgs false
set_option linter.unusedVariables false
namespace Go.Proofs.YtkbagdedfdfjhaaGreatDoor
open _root_.Go.Proofs.Tryz _root_.Go.Proofs.YtkbagdedfdfjhaaGreatDoor.Tryz
open Go Go.Sy Go.Pl Go.Proofs
set_option maxRecDepth 100000
set_option maxHeartbeats 4000000
def Pgs (g:PH)(v:Value)(P:List (List (List Int))):Prop:=∃ rs,SlA encSv g v rs∧aG (fun (Q:List (List Int)) (r:Sv)=>aH g (.slice r.p r.n r.c) Q) P rs
theorem Pgs.mono {g g':PH}{v:Value}{P:List (List (List Int))}(h:Pgs g v P)(hl:Le g g'):Pgs g' v P:=by
 obtain ⟨rs,h1,h2⟩:=h;exact⟨rs,za3 h1 hl,h2.mono fun _ _ h=>h.mono hl⟩
theorem Pgs.nil (g:PH):Pgs g (.slice none 0 0) []:=⟨[],zb8 g _,trivial⟩
theorem AO {α:Type}[DecidableEq α]{P:List α}{n:Nat}(h1:1<n)(hn:n≤P.length):iG (P.take n)=if P[n - 1]'oM=P[n - 2]'oM then iG (P.take (n - 1)) else P.take n:=by
 have e1:P.take n=P.take (n - 2)++[P[n - 2]'oM]++[P[n - 1]'oM]:=by
  have a1:=tS (l:=P) (i:=n - 1) oM;have a2:=tS (l:=P) (i:=n - 2) oM;rw[show n - 2+1=n - 1 by omega] at a2;rw[show n - 1+1=n by omega] at a1;rw[a1,a2]
 have e2:P.take (n - 1)=P.take (n - 2)++[P[n - 2]'oM]:=by
  have a2:=tS (l:=P) (i:=n - 2) oM;rwa [show n - 2+1=n - 1 by omega] at a2
 rw[e1,e2];generalize P.take (n - 2)=q;generalize P[n - 2]'oM=a;generalize P[n - 1]'oM=b;unfold iG;rw[List.reverse_append,List.reverse_append];show (jN (b::a::q.reverse)).reverse=if b=a then (jN (a::q.reverse)).reverse else q++[a]++[b]
 conv=>lhs; unfold jN
 split
 ·rfl
 ·simp
theorem Cv {α:Type}[DecidableEq α]{P:List α}{n:Nat}(h:¬ 1<n):iG (P.take n)=P.take n:=by
 have hl:(P.take n).length≤1:=by rw[zd8]; omega
 generalize P.take n=q at hl
 match q,hl with
 | [],_=>rfl
 | [a],_=>rfl
theorem AH {L:List Cl}(hL:Rt L){T:List (List Int)}(hT:T.length≤6):∀ c∈cI L T,c.id<4611686018427387904:=fun z hz=>by
 obtain ⟨d,hd,rfl⟩:=ze6.1 hz;have hd:=(cW _ _).1 hd;rw[uK] at hd;obtain ⟨c,hc,s,hs,rfl⟩:=(nP hL).1 hd;have h1:=sub_le (cR.1 hs).2;have h2:=Gb L c.id hT;have h3:=(ze9.1 (hL.ix_get hc)).1;have h4:=hL.few;have h5:=Ew (i:=ixB L c.id) (s:=s) hT oM oM;show bId T.length (ixB L c.id) s<_;omega
theorem AA {l:List Cl}(h:(a6 l).2=0) : -1≤wv l∧wv l≤8:=by
 have hr:=mo h;have ht:ae l=aa l:=bh hr.asc;have key:∀ (q:List Cl) (m:Int),(∀ c∈q,c.dim≤8) → -1≤m→m≤8 → -1≤o9 q m∧o9 q m≤8:=by
  intro q;induction q with
  | nil=>exact fun m _ h1 h2=>⟨h1,h2⟩
  | cons c q ih =>
   intro m hq h1 h2;have hc:=hq c (by simp);exact ih (max m c.dim) (fun d hd=>hq d (by simp[hd])) oM oM
 unfold wv;rw[ht];exact key _ _ (fun c hc=>(hr.form c hc).dim.2) dC dC
theorem An {B:List Cl}{c:Cl}(hc:c∈B)(h:200<(B.filter fun x=>decide (x.dim=c.dim)).length):rL B=true:=zj2.2 ⟨c,hc,zf3 h⟩
theorem Ao {B:List Cl}(h:∀ d:Int,(B.filter fun x=>decide (x.dim=d)).length≤200):rL B=false:=by
 rw[Bool.eq_false_iff];intro k;obtain ⟨c,hc,h2⟩:=zj2.1 k;have:=h c.dim;simp at h2;omega
theorem Tryz.build75 (b mb mk:Nat)(p:Int)(w:World):(Instr.build 75 #[(0,pp b 0),(1,vi p),(2,.map (some mb)),(3,.map (some mk))]).run Tryz.prog w = .ok (.agg #[pp b 0,vi p,.map (some mb),.map (some mk)]) w:=by
 have h1:∀ n,(vi n).cells = #[vi n]:=fun _=>rfl;have h2:(pp b 0).cells = #[pp b 0]:=rfl;have h3:∀ m:Nat,(Value.map (some m)).cells = #[.map (some m)]:=fun _=>rfl;simp[Instr.build,Instr.fill,h1,h2,h3];rfl
theorem sV {rf:List Cl→List Cl→Nat}{n:Nat}{B:List Cl}{D:Nat}{r:Int}:(tP rf n B D r).length=n:=by
 unfold tP;rw[ze1,zh8]
theorem lF {α:Type}(f:Nat→α)(k:Nat):(List.range (k+1)).map f=(List.range k).map f++[f k]:=by
 rw[List.range_succ,zf9];rfl
theorem E4 {ms:Mk}{j:Nat}{k:Int}{v:Value}{l:List Rc}(h:ms[j]?=some (k,v,l)){hd:Own}(s:Own){x:Ent}(hh:hd.length=6):((hd++(fz ms++s)).set (j+6) x)[j+6]?=some x:=by
 have hj:=(ze9.1 h).1;rw[List.getElem?_set_self];simp only[zd9,fz,ze1];omega
theorem lH {rf:List Cl→List Cl→Nat}{n:Nat}{B:List Cl}{D:Nat}:(jD rf n B D).length=n:=by
 unfold jD;rw[ze1,zh8]
theorem uk {rf:List Cl→List Cl→Nat}{n:Nat}{B:List Cl}{D:Nat}:∀ Q∈jD rf n B D,Q.length=n∧∀ x∈Q,x.length=D:=fun Q h=>by
 obtain ⟨r,-,rfl⟩:=ze6.1 h;refine⟨sV,fun x hx=>?_⟩;obtain ⟨a,-,rfl⟩:=ze6.1 hx;rw[ze1,zh8]
theorem Tryz.sty40:STy Tryz.prog 40 22 1 24 (.slice none 0 0):=⟨underlying40,⟨t22,by kernel_rfl,by kernel_rfl,by kernel_rfl,by kernel_rfl⟩,rfl,by decide⟩
theorem qh (E:World)(hE:E.drawn=0)(g:PH)(s:Own)(v tv:Value)(l:List Cl)(T:List (List Int))(p:Int)(hv:aq g v l)(hf:dj l)(hw:∀ c∈l,gn c.id)(ht:aH g tv T)(hT:T.length<1099511627776)(hTl:∀ t∈T,t.length<1099511627776)(hp2:2≤p)(hp9:p<9) :
  Ctr Tryz.prog E 13 #[.agg #[v],tv,vi p] g s (fun x g' s'=>s=s'∧Le g g'∧∃ u,x = .tuple #[u,vi (cD l T p)]∧Pgs g' u (cq l T p)):=by
 obtain ⟨vp,vc,rfl⟩:=hv.form;have hnone:cD l T p≠0→cq l T p=[]:=fun h=>by unfold cq; rw[zf5 h]
 refine za9 (args:=[.agg #[.slice vp l.length vc],tv,vi p]) func13 I ntmps13 (bE I) ?_;refine rZ (bW (bO I) fun b3=>?_);refine lA I (aT I (sQ (sW I (lW (cL call26 I (lG E g _ p hp2 hp9)) ?_))));rintro _ _ _ ⟨rfl,rfl,rfl⟩;refine lU (SU.not I) (tZ ?_);refine iQ I (fun hpr=>?_) (fun hpr=>?_)
 ·have hpr:fV p=false:=by simpa using hpr
  refine rZ (lA I (aT I (rE (tR ?_))));have he:cD l T p=46:=by unfold cD; rw[zf5 hpr]
  refine dR (s':=s) uR ?_;exact ST.ret2 (.inl I) results13 I I ⟨I,zb7 g,_,by rw[he],by rw[hnone (by rw[he]; decide)]; exact Pgs.nil g⟩
 ·have hpr:fV p=true:=by simpa using hpr
  have hp:=fL.1 hpr;refine kP (tN (rZ (lK (qV 0 br az I I I) (lM I (lW (cL call35 I (nJ E hE g _ _ tv l T hv hf hw ht hT hTl)) ?_)))));rintro _ g1 _ ⟨rfl,hle1,pv,rfl,hcov⟩;refine lM I (yX I (yX I (lA I (aT I (sQ (sW I (lU (nQ I I) (tZ ?_))))))));refine iP I (fun hop=>?_) (fun hop=>?_)
  ·refine sW I (lA I (aT I (rE (tR ?_))));have he:cD l T p=ee l T:=by unfold cD; rw[zf4 (by rw[hpr]; simp),zf5 hop]
   refine dR (s':=s) uR ?_;exact ST.ret2 (.inl I) results13 I I ⟨I,hle1,_,by rw[he]; rfl,by rw[hnone (by rw[he]; exact hop)]; exact Pgs.nil _⟩
  ·have hop0:ee l T=0:=zg4 hop;have hcov:=hcov hop0;obtain ⟨hok,hT6⟩:=ka hop0;have hRt:=mo hok;have hLt:ae l=aa l:=bh hRt.asc;have hRt:Rt (ae l):=by rw[hLt]; exact hRt
   have hBf:=cw (ob hRt hT6);have hBlt:=AH hRt hT6;have hdim:=AA hok;refine kP (tN (sW I (lW (cL call36 I (o4 E g1 _ pv (ae l) T hcov hRt hT6)) ?_)));rintro _ g2 _ ⟨rfl,hle2,u,rfl,hu⟩;obtain ⟨up,uc,rfl⟩:=hu.form;refine bW (aL zl1) fun b10=>?_;refine oZ (sK 0 az I I I I I ⟨I,trivial⟩) (tZ (sQ (rZ (lK (qV 0 br az I I I) (lW (cL call37 I (jK E g2 _ _ (cI (ae l) T) hu hBf)) ?_)))));rintro _ _ _ ⟨rfl,rfl,rfl⟩;refine lM I (yX I (yX I (lA I (aT I (sW I (lU (nQ I I) (tZ ?_)))))));refine iP I (fun hbl=>?_) (fun hbl=>?_)
   ·refine rZ (lA I (aT I (rE (tR ?_))));have he:cD l T p=2:=by unfold cD; rw[zf4 (by rw[hpr]; simp),zf4 hop,zf5 (.inl hbl)]
    refine dR (s':=s) uR ?_;exact ST.ret2 (.inl I) results13 I I ⟨I,hle1.trans hle2,_,by rw[he],by rw[hnone (by rw[he]; decide)]; exact Pgs.nil _⟩
   ·have hBR:Rt (cI (ae l) T):=by
     have:=mo (zg4 hbl);unfold cI at this ⊢;rwa [fY] at this
    generalize hBd:cI (ae l) T=B at *;obtain ⟨us,hus,hallu⟩:=hu;have hul:=hallu.length;obtain ⟨bc,mc,cv,iv,rfl,hbc,-⟩:=id hcov;refine kP (tN (sW I (lM I (lW (SO.mkMap) ?_))));rintro _ _ _ ⟨b46,rfl,rfl,rfl⟩;refine lW (SO.mkKn (F:=fun a low dim=>cG (rkP p) T.length B a low dim)) ?_;rintro _ _ _ ⟨b47,rfl,rfl,rfl⟩;refine lU (za1 I (build75 _ _ _ _)) (bW (bO I) fun b49=>?_);refine aT I (sQ (rZ (lU (fA e8 I dX I) (lK (qL (v:=.slice up B.length uc) gV I (cO 3 I I)) (lU (eN aR I) (lM I (tZ (bK ?_))))))));refine oP (ι:=Nat×Mk) (fun z=>[(3,pp b3 0),(8,pp bc 0),(10,pp b10 0),(13,pp b49 0),(51,.slice up B.length uc),(52,vi B.length),(53,vi z.1)]) (fun _=>g2) (fun z=>pt b49 (.cells #[pp bc 0,vi p,.map (some b46),.map (some b47)] 75 (0,0))::knE b47 (fun a low dim=>cG (rkP p) T.length B a low dim)::mp b46 (o8 z.2)::pt b10 (.cells #[.slice up B.length uc] 30 (0,0))::pt b3 (.cells #[.slice vp l.length vc] 30 (0,0))::(fz z.2++s)) (fun z=>z.1≤us.length∧(∀ d,nf (pC z.2) d=(us.take z.1).filter fun r=>decide (r.dim=d))∧∀ d:Int,((us.take z.1).filter fun r=>decide (r.dim=d)).length≤200) (fun z=>us.length - z.1) (0,[]) sB I I ⟨zf1 _,fun _=>I,fun _=>by simp⟩ ?_;rintro ⟨k,ms⟩ ⟨hk,hcon,hcnt⟩;dsimp only at hk hcon hcnt ⊢;refine rZ (yL I (tZ (sQ ?_)));refine iP I (fun hlt=>?_) (fun hlt=>?_)
    ·have hkr:k<us.length:=oM;have hkB:k<B.length:=oM;have hb1:=za4 hus oM;have hgr:us[((k:Nat):Int).toNat]?=some us[k]:=gE hkr;have hsn:=BN hkr;have hR:=hallu.get (gE hkB) (gE hkr);have hmB:B[k]∈B:=gM hkB;have hfB:=(na hallu B[k].dim).length;have hsub:∀ d:Int,((us.take (k+1)).filter fun r=>decide (r.dim=d)).length≤(us.filter fun r=>decide (r.dim=d)).length:=fun d=>((List.take_sublist _ _).filter _).length_le;have hlB:=hBR.few;generalize us[k]=x at *;generalize B[k]=y at *;obtain ⟨xi,xd,xp,xn,xc⟩:=x;obtain ⟨-,hyd,-⟩:=hR;dsimp only at hyd hsn;obtain ⟨ms1,j0,v0,l0,hp0,hp1,hp2,hp3,hp4,-,hp5⟩:=GS ms xd;have hl0:l0.length≤200:=by rw[← hp0,hcon]; exact hcnt _
     have hl1:((us.take (k+1)).filter fun r=>decide (r.dim=xd))=l0++[⟨xi,xd,⟨xp,xn,xc⟩⟩]:=by rw[hsn,zf5 rfl,← hp0,hcon]
     refine kP (tN (sQ (bK (rZ (lU (iA aR aK I I hb1 oM sL) (lK (eA gU aK I (za5 hus) hgr) (bW (aL zk7) fun b15=>?_)))))));refine oZ (sK 0 aK I I I I I sB) (tZ (sQ ?_));refine SC.to (fun w hw=>hp5 E g2 [pt b15 (.cells #[vi xi,vi xd,.slice xp xn xc] 78 (0,0)),pt b49 (.cells #[pp bc 0,vi p,.map (some b46),.map (some b47)] 75 (0,0)),knE b47 (fun a low dim=>cG (rkP p) T.length B a low dim),mp b46 (o8 ms),pt b10 (.cells #[.slice up B.length uc] 30 (0,0)),pt b3 (.cells #[.slice vp l.length vc] 30 (0,0))] s w hw) ?_;refine SC.drawT 6 [16] [(0,2),(1,2),(2,2),(3,1),(4,2),(5,1),(6,2),(7,2),(8,2),(9,1),(10,2),(11,1),(12,1),(13,1),(14,0),(15,0),(16,0)] zd7 kR ?_;refine yM rfl (pU rfl (nC rfl) (pU rfl (fA wo rfl sizeOf72 rfl) (pK rfl (qL (v:=.map (some b46)) isAgg72 rfl (cO 1 rfl rfl)) (pU rfl (fA ar rfl zT3 rfl) (pK rfl (qL (v:=vi xd) iT3 rfl (cO 0 rfl rfl)) (yM rfl (pU rfl (nC rfl) (pU rfl (fA wo rfl sizeOf72 rfl) (pK rfl (qL (v:=.map (some b46)) isAgg72 rfl (cO 1 rfl rfl)) (pU rfl (fA ar rfl zT3 rfl) (pK rfl (qL (v:=vi xd) iT3 rfl (cO 0 rfl rfl)) (pK rfl (SQ.eq (v':=v0) (SQ.lookup mty72 rfl rfl (cJ.own 3 rfl)) hp2) (pK rfl (qV 0 gU aK rfl rfl rfl) (SP.o rfl (bS sty28 rfl rfl rfl (ab ⟨rfl,trivial⟩) dC) dC (.inr (by rintro _ _ _ ⟨b71,rfl,rfl,rfl⟩; exact⟨by exact zb7 _,(by exact .cons _ (List.take_sublist _ _))⟩)) ?_))))))))))))));rintro _ _ _ ⟨b71,rfl,rfl,rfl⟩;refine SP.o rfl (aP (e:=encCell) (l:=l0) (j0+6) ⟨xi,xd,⟨xp,xn,xc⟩⟩ sty28 rfl rfl rfl (A8 hp1 s) rfl oM oM) dC (.inr (by rintro v72 _ _ ⟨rfl,rfl⟩; exact⟨by exact zb7 _,(by exact eW _ _ _ _)⟩)) ?_;rintro v72 _ _ ⟨rfl,rfl⟩;refine zc8 fun ⟨w0,hw0⟩=>?_;obtain ⟨q72,d72,rfl⟩:=ah (e:=encCell) (l:=l0++[⟨xi,xd,⟨xp,xn,xc⟩⟩]) (i:=j0+6) hw0 (E4 hp1 s rfl);clear hw0 w0;refine SP.on I (SO.mapUpdate 3 mty72 I I I I) (.inl dC) ?_;rintro _ _ _ ⟨rfl,rfl⟩;refine pN (tN (sQ (SC.drop (s':=pt b15 (.cells #[vi xi,vi xd,.slice xp xn xc] 78 (0,0))::pt b49 (.cells #[pp bc 0,vi p,.map (some b46),.map (some b47)] 75 (0,0))::knE b47 (fun a low dim=>cG (rkP p) T.length B a low dim)::mp b46 (o8 (ms1.set j0 (xd,Value.slice q72 (l0++[(⟨xi,xd,⟨xp,xn,xc⟩⟩:Rc)]).length d72,l0++[(⟨xi,xd,⟨xp,xn,xc⟩⟩:Rc)])))::pt b10 (.cells #[.slice up B.length uc] 30 (0,0))::pt b3 (.cells #[.slice vp l.length vc] 30 (0,0))::(fz (ms1.set j0 (xd,Value.slice q72 (l0++[(⟨xi,xd,⟨xp,xn,xc⟩⟩:Rc)]).length d72,l0++[(⟨xi,xd,⟨xp,xn,xc⟩⟩:Rc)]))++s)) (by rw[← hp3,← A7 hp1 s]; exact .refl _) ?_)));refine dW [] [(0,2),(1,2),(2,2),(3,1),(4,2),(5,1),(6,1),(7,2),(8,2)] zd7 kR ?_;refine yM I (pU I (nC I) (pU I (fA wo I sizeOf72 I) (pK I (qL (v:=.map (some b46)) isAgg72 I (cO 1 I I)) (pU I (fA ar I zT3 I) (pK I (qL (v:=vi xd) iT3 I (cO 0 I I)) (pK I (SQ.eq (v':=Value.slice q72 (l0++[(⟨xi,xd,⟨xp,xn,xc⟩⟩:Rc)]).length d72) (SQ.lookup mty72 I I (cJ.own 3 I)) (by rw[← hp3,Bp,zf5 I]; rfl)) ?_))))));refine pU I (eN aR I) (pU I (gR I I) (pN (tN ?_)));refine iP I (fun hbig=>?_) (fun hbig=>?_)
     ·have hmany:rL B=true:=An hmB (by
       rw[hfB,← hyd];have:=hsub xd;rw[hl1] at this;omega)
      have he:cD l T p=2:=by unfold cD; rw[zf4 (by rw[hpr]; simp),zf4 hop,hBd,zf5 (.inr hmany)]
      refine rZ (lA I (aT I (rE (bR (tR (tR (bR (tR (dR (s':=s) (.cons _ (.cons _ (.cons _ (.cons _ (.cons _ (.cons _ (List.sublist_append_right _ _))))))) ?_)))))))));exact ST.ret2 (.inl I) results13 I I ⟨I,hle1.trans hle2,_,by rw[he],by rw[hnone (by rw[he]; decide)]; exact Pgs.nil _⟩
     ·refine kP (bN (tN (rG (yD I (lM I (nL (dR (.cons _ (.refl _)) ?_)))))));exact gA (k+1,(ms1.set j0 (xd,Value.slice q72 (l0++[(⟨xi,xd,⟨xp,xn,xc⟩⟩:Rc)]).length d72,l0++[(⟨xi,xd,⟨xp,xn,xc⟩⟩:Rc)]))) sB I I ⟨by dsimp only; omega,fun d=>by
       dsimp only;rw[hp4,xq,hcon,hcon,hsn];by_cases e:d=xd
       ·subst e; rfl
       ·rw[zf4 e,zf4 e],fun d=>by
       dsimp only;by_cases e:d=xd
       ·rw[e,hl1]; omega
       ·rw[hsn,zf4 e]; exact hcnt d⟩ (by dsimp only; omega)
    ·have hke:k=us.length:=oM;subst hke;rw[List.take_length] at hcon hcnt;refine xI (tX (tX (bX (tN (sQ (SC.freeze fun g3 hl3 hb49=>?_))))));refine cP (s':=mp b46 (o8 ms)::pt b10 (.cells #[.slice up B.length uc] 30 (0,0))::pt b3 (.cells #[.slice vp l.length vc] 30 (0,0))::(fz ms++knE b47 (fun a low dim=>cG (rkP p) T.length B a low dim)::s)) (List.perm_middle (a:=knE b47 (fun a low dim=>cG (rkP p) T.length B a low dim)) (l₁:=mp b46 (o8 ms)::pt b10 (.cells #[.slice up B.length uc] 30 (0,0))::pt b3 (.cells #[.slice vp l.length vc] 30 (0,0))::fz ms) (l₂:=s)).symm ?_;refine SC.freezeMap fun g4 hl4 hmp=>?_;refine SC.freeze fun g5 hl5 hb10=>?_;refine SC.freeze fun g6 hl6 hb3=>?_;refine SC.freezeKs fun g7 hl7 hks=>?_;refine rG (aT I (sQ (sW I (lU (nC I) (lU (fA o7 I zT3 I) (lK (qL (v:=vi T.length) iT3 I (cK ((hle2.trans (hl3.trans (hl4.trans (hl5.trans (hl6.trans hl7))))) _ _ hbc) I)) (lM I (tZ (bK ?_)))))))));have hcnt':∀ d:Int,(B.filter fun c=>decide (c.dim=d)).length≤200:=fun d=>by
      rw[(na hallu d).length];exact hcnt d
     have hno:rL B=false:=Ao hcnt';have hl57:=hl5.trans (hl6.trans hl7);have hl37:=hl4.trans hl57;have hl27:=hl3.trans hl37;have hspec:wn g7 (pp b49 0) (ae l) T p B b47:=⟨b49,b46,pp bc 0,rfl,hl37 _ _ hb49,hcov.mono (hle2.trans hl27),GG (hmp.mono hl57) hks (hallu.mono fun _ _=>ax.mono hl27) hcon⟩;have hbc7:=(hle2.trans hl27) _ _ hbc;have hb37:=hl7 _ _ hb3;have hv7:=hv.mono (hle1.trans (hle2.trans hl27));have hBok:Bok T.length B:=⟨hBR,hBlt,hcnt'⟩;have hD:wv l+1=((dimN l:Nat):Int):=by unfold dimN wv at *; omega
     have hD9:dimN l≤9:=oM;have he:cD l T p=0:=by unfold cD; rw[zf4 (by rw[hpr]; simp),zf4 hop,hBd,zf4]; rw[hno]; rintro (h | h); exact hbl h; cases h
     have hC:cq l T p=iG (jD (rkP p) T.length B (dimN l)):=by unfold cq; rw[zf4 (by rw[he]; simp),hBd]
     generalize dimN l=D at *;refine zb4 22 1 ?_;refine oP (ι:=PH×Nat×Value×List Sv) (fun z=>[(3,pp b3 0),(8,pp bc 0),(13,pp b49 0),(16,z.2.2.1),(86,vi T.length),(87,vi z.2.1)]) (fun z=>z.1) (fun z=>rowA encSv 22 z.2.2.1 z.2.2.2::knE b47 (fun a low dim=>cG (rkP p) T.length B a low dim)::s) (fun z=>Le g7 z.1∧z.2.1≤T.length∧aG (fun (Q:List (List Int)) (r:Sv)=>aH z.1 (.slice r.p r.n r.c) Q) ((List.range z.2.1).map fun r:Nat=>tP (rkP p) T.length B D ((r:Int)+1)) z.2.2.2) (fun z=>T.length - z.2.1) (g7,0,.slice none 0 0,[]) sB I I ⟨zb7 _,zf1 _,trivial⟩ ?_;rintro ⟨g8,k2,ov,os⟩ ⟨hle8,hk2,hacc⟩;dsimp only at hle8 hk2 hacc ⊢;have hol:=hacc.length;rw[ze1,zh8] at hol;refine rZ (yL I (tZ (sQ ?_)));refine iP I (fun hlt=>?_) (fun hlt=>?_)
     ·refine kP (tN (sQ (bK (sW I (aT I (rZ (aT I (sQ (sW I (lU (nC I) (lU (fA o7 I zT3 I) (lK (qL (v:=vi T.length) iT3 I (cK (hle8 _ _ hbc7) I)) (lM I (tZ (bK (zb4 25 1 ?_))))))))))))))));refine oP (ι:=PH×Nat×Value×List Sv) (fun z=>[(3,pp b3 0),(8,pp bc 0),(13,pp b49 0),(16,ov),(17,vi k2),(18,z.2.2.1),(86,vi T.length),(87,vi k2),(93,vi T.length),(94,vi z.2.1)]) (fun z=>z.1) (fun z=>rowA encSv 25 z.2.2.1 z.2.2.2::rowA encSv 22 ov os::knE b47 (fun a low dim=>cG (rkP p) T.length B a low dim)::s) (fun z=>Le g8 z.1∧z.2.1≤T.length∧aG (bM z.1) ((List.range z.2.1).map fun a:Nat=>(List.range D).map fun b:Nat=>wt (rkP p) T.length B ((k2:Int)+1) a b) z.2.2.2) (fun z=>T.length - z.2.1) (g8,0,.slice none 0 0,[]) sB I I ⟨zb7 _,zf1 _,trivial⟩ ?_;rintro ⟨g9,k3,pv,ps⟩ ⟨hle9,hk3,hac2⟩;dsimp only at hle9 hk3 hac2 ⊢;have hpl:=hac2.length;rw[ze1,zh8] at hpl;have hle79:=hle8.trans hle9;refine rZ (yL I (tZ (sQ ?_)));refine iP I (fun hlt3=>?_) (fun hlt3=>?_)
      ·refine kP (tN (sQ (bK (sW I (aT I (rZ (aT I (sQ (rZ (lK (SQ.loadOne br az I (cK (hle79 _ _ hb37) I)) (lW (cL call14 I (m5 E g9 _ (.slice vp l.length vc) l (hv7.mono hle79) hf)) ?_)))))))))));rintro _ g10 _ ⟨rfl,rfl,hle10⟩;refine lU (SU.eq (v':=vi D) (aD I I oM) (zd6 vi hD)) (lM I (tZ (bK (zb4 3 1 ?_))));refine oP (ι:=PH×Nat×Value) (fun z=>[(3,pp b3 0),(8,pp bc 0),(13,pp b49 0),(16,ov),(17,vi k2),(18,pv),(19,vi k3),(20,z.2.2),(86,vi T.length),(87,vi k2),(93,vi T.length),(94,vi k3),(99,vi D),(100,vi z.2.1)]) (fun z=>z.1) (fun z=>rowA encInt 3 z.2.2 ((List.range z.2.1).map fun b:Nat=>wt (rkP p) T.length B ((k2:Int)+1) k3 b)::rowA encSv 25 pv ps::rowA encSv 22 ov os::knE b47 (fun a low dim=>cG (rkP p) T.length B a low dim)::s) (fun z=>Le g10 z.1∧z.2.1≤D) (fun z=>D - z.2.1) (g10,0,.slice none 0 0) sB I I ⟨zb7 _,zf1 _⟩ ?_;rintro ⟨g11,k4,iv⟩ ⟨hle11,hk4⟩;dsimp only at hle11 hk4 ⊢;have hle711:=hle79.trans (hle10.trans hle11);have hil:((List.range k4).map fun b:Nat=>wt (rkP p) T.length B ((k2:Int)+1) k3 b).length=k4:=by rw[ze1,zh8]
       refine rZ (yL I (tZ (sQ ?_)));refine iP I (fun hlt4=>?_) (fun hlt4=>?_)
       ·refine kP (tN (sQ (bK (sW I (aT I (rG (lM I (lM I (lM I (yD I (lM I (lM I (lW (cL call38 I (vE E g11 _ (pp b49 0) (ae l) T p hp B b47 3 ((k2:Int)+1) k3 k4 (hspec.mono hle711) hBok hT6 I oM oM oM)) ?_)))))))))))));rintro _ g12 _ ⟨rfl,rfl,hle12⟩;refine lW (bS sty25 I I I (ab ⟨I,trivial⟩) dC) ?_;rintro _ _ _ ⟨b110,rfl,rfl,rfl⟩;refine lW (aP (e:=encInt) (l:=(List.range k4).map fun b:Nat=>wt (rkP p) T.length B ((k2:Int)+1) k3 b) 0 (wt (rkP p) T.length B ((k2:Int)+1) k3 k4) sty25 I I I I I oM oM) ?_;rintro v111 _ _ ⟨rfl,rfl⟩;refine lA I (nL (bN (tN (rG (yD I (lM I (nL ?_)))))));exact gA (g12,k4+1,v111) sB I (by dsimp only; rw[lF]; rfl) ⟨hle11.trans hle12,by dsimp only; omega⟩ (by dsimp only; omega)
       ·have hke4:k4=D:=oM;subst hke4;refine fS fun g12 hle12 hs12=>?_;obtain ⟨q12,c12,rfl⟩:=Sl.form hs12;rw[hil] at hs12 ⊢;refine xI (tX (tX (bX (tN (rG (lM I (lM I (lW (bS sty22 I I I (ab ⟨I,trivial⟩) dC) ?_))))))));rintro _ _ _ ⟨b115,rfl,rfl,rfl⟩;refine lW (aP (e:=encSv) (l:=ps) 0 ⟨q12,k4,c12⟩ sty22 I I I I I oM oM) ?_;rintro v116 _ _ ⟨rfl,rfl⟩;refine lA I (nL (bN (tN (rG (yD I (lM I (nL ?_)))))));exact gA (g12,k3+1,v116,ps++[⟨q12,k4,c12⟩]) sB I I ⟨hle9.trans (hle10.trans (hle11.trans hle12)),by dsimp only; omega,by
         dsimp only;rw[lF];refine (hac2.mono fun _ _=>bM.mono (hle10.trans (hle11.trans hle12))).append ⟨?_,trivial⟩;show Sl _ _ _ _ _;rw[hil];exact hs12⟩ (by dsimp only; omega)
      ·have hke3:k3=T.length:=oM;subst hke3;refine fS fun g10 hle10 hs10=>?_;obtain ⟨q10,c10,rfl⟩:=Sl.form hs10;refine xI (tX (tX (bX (tN (rG (lM I (lM I (lW (bS sty40 I I I (ab ⟨I,trivial⟩) dC) ?_))))))));rintro _ _ _ ⟨b120,rfl,rfl,rfl⟩;refine lW (aP (e:=encSv) (l:=os) 0 ⟨q10,ps.length,c10⟩ sty40 I I I I I oM oM) ?_;rintro v121 _ _ ⟨rfl,rfl⟩;refine lA I (nL (bN (tN (rG (yD I (lM I (nL ?_)))))));exact gA (g10,k2+1,v121,os++[⟨q10,ps.length,c10⟩]) sB I I ⟨hle8.trans (hle9.trans hle10),by dsimp only; omega,by
        dsimp only;rw[lF];exact (hacc.mono fun _ _ h=>h.mono (hle9.trans hle10)).append ⟨⟨ps,hs10,hac2.mono fun _ _=>bM.mono hle10⟩,trivial⟩⟩ (by dsimp only; omega)
     ·have hke2:k2=T.length:=oM;subst hke2;have hacc:aG (fun (Q:List (List Int)) (r:Sv)=>aH g8 (.slice r.p r.n r.c) Q) (jD (rkP p) T.length B D) os:=hacc;have hPAl:=lH (rf:=rkP p) (n:=T.length) (B:=B) (D:=D);have hPAs:=uk (rf:=rkP p) (n:=T.length) (B:=B) (D:=D);rw[hC];generalize jD (rkP p) T.length B D=PA at *;refine fS fun g9 hle9 hs9=>?_;obtain ⟨q9,c9,rfl⟩:=Sl.form hs9;have hacc:=hacc.mono fun _ _ h=>aH.mono h hle9;refine xI (tX (tX (bX (tN (rZ (aT I (sQ (bK ?_))))))));refine oP (ι:=Nat×Option Addr×Nat) (fun z=>[(16,.slice z.2.1 z.1 z.2.2),(22,.func (.func 39) #[] #[])]) (fun _=>g9) (fun _=>knE b47 (fun a low dim=>cG (rkP p) T.length B a low dim)::s) (fun z=>z.1≤os.length∧SlA encSv g9 (.slice z.2.1 z.1 z.2.2) (os.take z.1)∧iG (PA.take z.1)=iG PA) (fun z=>z.1) (os.length,q9,c9) sB I I ⟨lR _,by dsimp only; rw[List.take_length]; exact hs9,by dsimp only; rw[← hol,← hPAl,List.take_length]⟩ ?_;rintro ⟨m,q,c⟩ ⟨hm,hsm,htr⟩;dsimp only at hm hsm htr ⊢;by_cases h1:1<m
      ·have hst:=AO (P:=PA) h1 oM;have hP1:PA[m - 1]'oM∈PA:=gM _;have hP2:PA[m - 2]'oM∈PA:=gM _;have hL1:=hacc.get (gE (i:=m - 1) oM) (gE (i:=m - 1) oM);have hL2:=hacc.get (gE (i:=m - 2) oM) (gE (i:=m - 2) oM);have hg1:(os.take m)[((m:Int) - 1).toNat]?=some (os[m - 1]'oM):=by
        rw[show ((m:Int) - 1).toNat=m - 1 by omega,zh5,zf5 oM];exact gE _
       have hg2:(os.take m)[((m:Int) - 2).toNat]?=some (os[m - 2]'oM):=by
        rw[show ((m:Int) - 2).toNat=m - 2 by omega,zh5,zf5 oM];exact gE _
       generalize PA[m - 1]'oM=Q1 at *;generalize PA[m - 2]'oM=Q2 at *;generalize os[m - 1]'oM=r1 at *;generalize os[m - 2]'oM=r2 at *;obtain ⟨p1,n1,c1⟩:=r1;obtain ⟨p2,n2,c2⟩:=r2;have hbm:=za4 hsm (by rw[zd8]; omega);have hmc:=(SlA.cap hsm).2;rw[zd8,Nat.min_eq_left hm] at hmc;have hcut:=SlA.cut (l:=0) (m:=m - 1) (k:=1) (e:=encSv) (xs:=os.take m) (p:=q) (c:=c) (g:=g9) (by rw[zd8,Nat.min_eq_left hm]; exact hsm) (zf1 _) (by rw[zd8]; omega);rw[List.drop_zero,Nat.sub_zero,List.take_take,Nat.min_eq_left oM] at hcut;obtain ⟨q',c',hq'⟩:=za2 hcut;rw[zd8,Nat.min_eq_left oM] at hq';rw[hq'] at hcut;refine sQ (sQ ?_);refine dW [] [(0,2),(1,2),(2,2),(3,2),(4,2),(5,2),(6,2),(7,2),(8,2),(9,2),(10,1),(11,2),(12,2),(13,2),(14,2),(15,2),(16,1),(17,0),(18,2)] zd7 kR ?_;refine yM I (pU I (eN pA I) (pU I (SU.eq (v':=vb true) (gR I I) (zd6 vb (zf3 oM))) (yM I (yJ I (yJ I (yJ I (zb1 I (gT I I I dC) (eN pA I) dC (zb1 I (gT I I I dC) (sU I I oM) dC (zb1 I (gT I I I dC) (iA pA sh I I hbm oM sL) dC (SP.gq I (gT I I I dC) (eB (u:=.slice p1 n1 c1) isAgg22 I (za5 hsm) hg1 I) dC (yJ I (yJ I (zb1 I (gT I I I dC) (eN pA I) dC (zb1 I (gT I I I dC) (sU I I oM) dC (zb1 I (gT I I I dC) (iA pA sh I I hbm oM sL) dC (SP.gq I (gT I I I dC) (eB (u:=.slice p2 n2 c2) isAgg22 I (za5 hsm) hg2 I) dC (SP.go I (gT I I I dC) (SO.callV I I (cC.mk (cap:=[]) call39 (uj E g9 _ (.slice p1 n1 c1) (.slice p2 n2 c2) Q1 Q2 hL1 hL2 (by rw[(hPAs _ hP1).1]; omega) (fun x hx=>by rw[(hPAs _ hP1).2 x hx]; omega) (by rw[(hPAs _ hP2).1]; omega)))) dC (.inr iR) ?_)))))))))))))))));rintro _ _ _ ⟨rfl,rfl,rfl⟩;refine pU I (wT I I) (pN (tN ?_));refine iQ I (fun heq=>?_) (fun heq=>?_)
       ·rw[zf5 (by simpa using heq)] at hst;refine kP (tN (bK (rG (lM I (lM I (lU (eN pA I) (lU (sU I I oM) (lU (SU.eq (v':=.slice q' (m - 1) c') (SU.sliceH pA sh I I oM oM) (by rw[show ((m:Int) - 1).toNat=m - 1 by omega]; exact hq')) ?_))))))));refine lA I (nL (bN ?_));exact gA (m - 1,q',c') sB I I ⟨by dsimp only; omega,hcut,by dsimp only; rw[← hst]; exact htr⟩ (by dsimp only; omega)
       ·rw[zf4 (by simpa using heq)] at hst;refine xI (tX (tX (bX (tN (sW I (lA I (aT I (rE (dR (s':=s) uR ?_)))))))));exact ST.ret2 (.inl I) results13 I I ⟨I,hle1.trans (hle2.trans (hl27.trans (hle8.trans hle9))),_,by rw[he],by rw[← htr,hst]; exact⟨os.take m,hsm,aG.take m hacc⟩⟩
      ·have hst:=Cv (P:=PA) h1;refine sQ (sQ ?_);refine dW [] [(0,2),(1,2),(2,2),(3,2),(4,2),(5,2),(6,2),(7,2),(8,2),(9,2),(10,1),(11,2),(12,2),(13,2),(14,2),(15,2),(16,1),(17,0),(18,2)] zd7 kR ?_;refine yM I (pU I (eN pA I) (pU I (SU.eq (v':=vb false) (gR I I) (zd6 vb (zf2 oM))) (yM I (yG I (yG I (yG I (yG I (yG I (yG I (yI I (yG I (yG I (yG I (yG I (yG I (yI I (fO I (gZ I I I dC) dC ⟨by exact zb7 _,(by exact .refl _)⟩ ?_)))))))))))))))));refine pU I (wF I I) (pN (tN (cF I (xI (tX (tX (bX (tN (sW I (lA I (aT I (rE (dR (s':=s) uR ?_)))))))))))));exact ST.ret2 (.inl I) results13 I I ⟨I,hle1.trans (hle2.trans (hl27.trans (hle8.trans hle9))),_,by rw[he],by rw[← htr,hst]; exact⟨os.take m,hsm,aG.take m hacc⟩⟩
structure PgOk (l:List Cl)(T:List (List Int))(p:Int):Prop where
 fp:Fp p
 opn:ee l T=0
 few:T.length≤6
 bok:Bok T.length (cI (ae l) T)
 dim:wv l+1=((dimN l:Nat):Int)
 dims:dimN l≤9
 eq:cq l T p=iG (jD (rkP p) T.length (cI (ae l) T) (dimN l))
theorem vY {B:List Cl}(h:rL B=false)(d:Int):(B.filter fun c=>decide (c.dim=d)).length≤200:=by
 cases hd:B.filter (fun c=>decide (c.dim=d)) with
 | nil=>simp
 | cons c q =>
  have hc:c∈B.filter fun c=>decide (c.dim=d):=by rw[hd]; simp
  obtain ⟨h1,h2⟩:=zg8.1 hc;have h2:c.dim=d:=zf7 h2;subst h2;rw[← hd];refine Nat.le_of_not_lt fun h3=>?_;rw[An h1 h3] at h;cases h
theorem jo {l:List Cl}{T:List (List Int)}{p:Int}(h:cD l T p=0):PgOk l T p:=by
 have hC:cq l T p=iG (jD (rkP p) T.length (cI (ae l) T) (dimN l)):=by unfold cq; rw[zf4 (by rw[h]; simp)]
 unfold cD at h;split at h
 ·cases h
 ·rename_i hpr;split at h
  ·rename_i hop; exact absurd h hop
  ·rename_i hop;have hop:=zg4 hop;split at h
   ·cases h
   ·rename_i hbl;have hbl1:(a6 (cI (ae l) T)).2=0:=zg4 fun k=>hbl (.inl k);have hmany:rL (cI (ae l) T)=false:=Bool.eq_false_iff.2 fun k=>hbl (.inr k);obtain ⟨hok,hT6⟩:=ka hop;have hRt:=mo hok;have hLt:ae l=aa l:=bh hRt.asc;have hRt:Rt (ae l):=by rw[hLt]; exact hRt
    have hBR:Rt (cI (ae l) T):=by
     have:=mo hbl1;unfold cI at this ⊢;rwa [fY] at this
    have hdim:=AA hok;have hD:wv l+1=((dimN l:Nat):Int):=by unfold dimN wv at *; omega
    exact⟨fL.1 (by simpa using hpr),hop,hT6,⟨hBR,AH hRt hT6,vY hmany⟩,hD,oM,hC⟩
theorem sw {α:Type}[DecidableEq α]:∀ {l:List α} {x:α},x∈jN l→x∈l
 | [],_,h=>h
 | [_],_,h=>h
 | a::b::l,x,h=>by
  unfold jN at h;split at h
  ·exact List.mem_cons_of_mem _ (sw h)
  ·exact h
theorem AP {α:Type}[DecidableEq α]{l:List α}{x:α}(h:x∈iG l):x∈l:=by
 unfold iG at h;rw[List.mem_reverse] at h;have:=sw h;rwa [List.mem_reverse] at this
theorem sz {α:Type}[DecidableEq α]:∀ {l:List α},(jN l).length≤l.length
 | []=>lR _
 | [_]=>lR _
 | a::b::l=>by
  unfold jN;split
  ·exact zk2 sz (Nat.le_succ _)
  ·exact lR _
theorem AQ {α:Type}[DecidableEq α]{l:List α}:(iG l).length≤l.length:=by
 unfold iG;rw[List.length_reverse];have:=sz (l:=l.reverse);rwa [List.length_reverse] at this
theorem Fu {p:Int}(hp:Fp p){n:Nat}{B:List Cl}(hB:Bok n B)(r a b:Int):(wt (rkP p) n B r a b).natAbs≤800:=by
 have hbd:=wM hp hB;have b1:=hbd a (a - r) (a+b);have b2:=hbd (a - 1) (a - r) (a+b);have b3:=hbd (a+r - 1) a (a+b+1);have b4:=hbd (a+r - 1) (a - 1) (a+b+1);unfold wt;omega
theorem C5 {l:List Cl}{T:List (List Int)}{p:Int}(h:cD l T p=0):∀ Q∈cq l T p,Q.length=T.length∧∀ x∈Q,x.length=dimN l∧∀ y∈x,y.natAbs≤800:=fun Q hQ=>by
 have ho:=jo h;rw[ho.eq] at hQ;obtain ⟨r,-,rfl⟩:=ze6.1 (AP hQ);refine⟨sV,fun x hx=>?_⟩;obtain ⟨a,-,rfl⟩:=ze6.1 hx;refine⟨by rw[ze1,zh8],fun y hy=>?_⟩;obtain ⟨b,-,rfl⟩:=ze6.1 hy;exact Fu ho.fp ho.bok _ _ _
theorem Bm {l:List Cl}{T:List (List Int)}{p:Int}:(cq l T p).length≤T.length:=by
 unfold cq;split
 ·exact zf1 _
 ·refine zk2 AQ ?_;rw[lH];exact lR _
def rP (P:List (List Int))(d:Nat):Int:=((P.zipIdx.map fun q=>if q.2≤d then q.1.getD (d - q.2) 0 else 0)).sum
theorem eR (D:Nat)(P:List (List Int)):ff D P=(List.range D).map (rP P):=rfl
theorem jj (P:List (List Int))(x:List Int)(d:Nat):rP (P++[x]) d=rP P d+if P.length≤d then x.getD (d - P.length) 0 else 0:=by
 unfold rP;rw[List.zipIdx_append,zf9,List.sum_append];simp
theorem DP (P:List (List Int))(d:Nat):rP (P++[[]]) d=rP P d:=by rw[jj]; simp
theorem pW {m:Nat}:∀ {q:List Int},(∀ y∈q,y.natAbs≤m)→q.sum.natAbs≤q.length * m
 | [],_=>by simp
 | y::q,h=>by
  have h1:=h y (by simp);have h2:=pW (q:=q) fun z hz=>h z (by simp[hz]);rw[List.sum_cons,ze3,Nat.succ_mul];omega
theorem FQ {m:Nat}{P:List (List Int)}(h:∀ x∈P,∀ y∈x,y.natAbs≤m)(d:Nat):(rP P d).natAbs≤P.length * m:=by
 have:=pW (m:=m) (q:=P.zipIdx.map fun q=>if q.2≤d then q.1.getD (d - q.2) 0 else 0) fun y hy=>by
  obtain ⟨q,hq,rfl⟩:=ze6.1 hy;split
  ·rw[zg5];cases hx:q.1[d - q.2]? with
   | none=>simp
   | some y=>exact h q.1 (List.fst_mem_of_mem_zipIdx hq) y (zf6 hx)
  ·simp
 rwa [ze1,List.length_zipIdx] at this
theorem xL (D:Nat)(P:List (List Int))(x:List Int)(j:Nat)(hj:j<x.length):ff D (P++[x.take (j+1)])=(ff D (P++[x.take j])).set (P.length+j) (rP (P++[x.take j]) (P.length+j)+x[j]):=by
 rw[eR,eR];refine List.ext_getElem? fun d=>?_;rw[List.getElem?_set,zh4,zh4,ze1,zh8];by_cases hd:d<D
 ·rw[List.getElem?_range hd];show some _=if P.length+j=d then (if P.length+j<D then some (rP (P++[x.take j]) (P.length+j)+x[j]) else none) else some (rP (P++[x.take j]) d)
  rw[jj,jj,jj];have e1:x.take (j+1)=x.take j++[x[j]]:=tS hj;by_cases e:P.length+j=d
  ·subst e;rw[zf5 rfl,zf5 hd,zf5 oM,zf5 oM,Nat.add_sub_cancel_left,e1];simp[zg5,Nat.le_of_lt hj,zg7,gE hj]
  ·rw[zf4 e];congr 2;by_cases e2:P.length≤d
   ·rw[zf5 e2,zf5 e2,zg5,zg5];congr 1;rw[zh5,zh5];split <;> split <;> first | rfl | omega | skip
   ·rw[zf4 e2,zf4 e2]
 ·rw[List.getElem?_eq_none (by rw[zh8]; omega)];split
  ·rw[zf4 oM]; rfl
  ·rfl
theorem FP {D:Nat}{P:List (List Int)}{x:List Int}{j:Nat}(hj:j<x.length)(h:¬ P.length+j<D):ff D (P++[x.take (j+1)])=ff D (P++[x.take j]):=by
 rw[xL D P x j hj,List.set_eq_of_length_le];rw[eR,ze1,zh8];omega
theorem qB (E:World)(hE:E.drawn=0)(g:PH)(s:Own)(v tv:Value)(l:List Cl)(T:List (List Int))(p:Int)(hv:aq g v l)(hf:dj l)(hw:∀ c∈l,gn c.id)(ht:aH g tv T)(hT:T.length<1099511627776)(hTl:∀ t∈T,t.length<1099511627776)(hp2:2≤p)(hp9:p<9) :
  Ctr Tryz.prog E 9 #[.agg #[v],tv,vi p] g s (fun x g' s'=>s=s'∧Le g g'∧∃ u,x = .tuple #[u,vi (cD l T p)]∧bJ g' u (gr l T p)):=by
 obtain ⟨vp,vc,rfl⟩:=hv.form;refine za9 (args:=[.agg #[.slice vp l.length vc],tv,vi p]) func9 I ntmps9 (bE I) ?_;refine rZ (bW (bO I) fun b3=>?_);refine lA I (aT I (rZ (lK (qV 0 br az I I I) (lM I (lM I (lW (cL call13 I (qh E hE g _ _ tv l T p hv hf hw ht hT hTl hp2 hp9)) ?_))))));rintro _ g1 _ ⟨rfl,hle1,u,rfl,us,hus,hall⟩;obtain ⟨up,uc,rfl⟩:=za2 hus;have hlen:=hall.length;by_cases he:cD l T p=0
 ·refine lM I (yX I (yX I (lA I (aT I (sQ (sW I (lU (SU.eq (v':=vb false) (nQ I I) (zd6 vb (by rw[he]; rfl))) ?_)))))));refine lM I (yC I (lY I I I (eN pA I) (lY I I I (eQ I I) (yF I (tZ ?_)))));refine iP I (fun h0=>?_) (fun h0=>?_)
  ·refine sW I (lA I (aT I (rE (tR ?_))));have hb:gr l T p=[]:=by unfold gr; rw[zf5 oM]
   refine dR (s':=s) uR ?_;exact ST.ret2 (.inl I) results9 I I ⟨I,hle1,_,I,by rw[hb]; exact zb8 _ _⟩
  ·have ho:=jo he;have hbd:=C5 he;obtain ⟨hfp,-,hT6,hbok,hD,hD9,-⟩:=ho;have hb:gr l T p=ff (dimN l) ((cq l T p).getLastD []):=by unfold gr; rw[zf4 oM]
   have hpf:=Bm (l:=l) (T:=T) (p:=p);have hPl:us.length - 1<(cq l T p).length:=oM;have hQ:(cq l T p)[us.length - 1]?=some ((cq l T p)[us.length - 1]):=gE hPl;have hlast:(cq l T p).getLastD []=(cq l T p)[us.length - 1]:=by
    rw[List.getLastD_eq_getLast?,List.getLast?_eq_getElem?,hlen,hQ];rfl
   have hQm:=gM hPl;have hQR:=hall.get hQ (gE (i:=us.length - 1) oM);have hgu:us[((us.length:Int) - 1).toNat]?=some (us[us.length - 1]'oM):=by
    rw[show ((us.length:Int) - 1).toNat=us.length - 1 by omega];exact gE _
   rw[hlast] at hb;have hb1:=za4 hus oM;generalize (cq l T p)[us.length - 1]=Q at *;generalize us[us.length - 1]'oM=r1 at *;obtain ⟨p1,n1,c1⟩:=r1;obtain ⟨hQl,hQx⟩:=hbd Q hQm;obtain ⟨rs,hrs,hallr⟩:=hQR;dsimp only at hrs;obtain ⟨rfl,-⟩:=SlA.cap hrs;have hrl:=hallr.length;refine kP (tN (rZ (lK (qV 0 br az I I I) (lW (cL call14 I (m5 E g1 _ (.slice vp l.length vc) l (hv.mono hle1) hf)) ?_))));rintro _ g2 _ ⟨rfl,rfl,hle2⟩;refine lU (SU.eq (v':=vi (dimN l)) (aD I I oM) (zd6 vi hD)) (lW (mK encInt 0 sty25 I I I oM oM) ?_);rintro _ _ _ ⟨bl,rfl,rfl,rfl⟩;refine aT I (sQ (sW I (lM I (lU (eN pA I) (lU (sU I I oM) (lU (iA pA sh I I hb1 oM (show ((us.length:Int) - 1)<((us.length:Nat):Int) by omega)) ?_))))));refine lK (eB (u:=.slice p1 rs.length c1) isAgg22 I (za5 (za3 hus hle2)) hgu I) (lU (eN bD I) (lM I (tZ (bK ?_))));generalize dimN l=D at *;have h00:ff D []=List.replicate D 0:=by
    rw[eR,List.eq_replicate_iff];exact⟨by simp,fun b hb=>by obtain ⟨d,_,rfl⟩:=ze6.1 hb; rfl⟩
   rw[← h00];have hrs2:=za3 hrs hle2;refine oP (ι:=Nat) (fun a=>[(10,.slice (some ⟨bl,0,none⟩) D D),(39,.slice p1 rs.length c1),(40,vi rs.length),(41,vi a)]) (fun _=>g2) (fun a=>rowA encInt 3 (.slice (some ⟨bl,0,none⟩) D D) (ff D (Q.take a))::pt b3 (.cells #[.slice vp l.length vc] 30 (0,0))::s) (fun a=>a≤rs.length) (fun a=>rs.length - a) 0 sB I I (zf1 _) ?_;rintro a ha;refine rZ (yL I (tZ (sQ ?_)));refine iP I (fun hlt=>?_) (fun hlt=>?_)
   ·have har:a<rs.length:=oM;have haQ:a<Q.length:=oM;have hgr:rs[((a:Nat):Int).toNat]?=some rs[a]:=gE har;have hR:=hallr.get (gE haQ) (gE har);have hb2:=za4 hrs oM;have hxm:=gM haQ;have htk:Q.take (a+1)=Q.take a++[Q[a]]:=tS haQ;have hQtl:(Q.take a).length=a:=by rw[zd8]; omega
    have hQtm:∀ y∈Q.take a,∀ z∈y,z.natAbs≤800:=fun y hy=>(hQx y (List.mem_of_mem_take hy)).2;generalize Q.take a=Qa at *;generalize Q[a]=x at *;generalize rs[a]=r at *;obtain ⟨p2,n2,c2⟩:=r;have hR:bJ g1 (.slice p2 n2 c2) x:=hR;obtain ⟨rfl,-⟩:=SlA.cap hR;obtain ⟨hxl,hxb⟩:=hQx x hxm;have hR2:=za3 hR hle2;refine kP (tN (sQ (bK (sW I (lU (iA bD cf I I hb2 oM sL) (lK (eB (u:=.slice p2 x.length c2) dw I (za5 hrs2) hgr I) (lA I (aT I (sW I (lU (eN ak I) (lM I (tZ (bK ?_)))))))))))));refine oP (ι:=Nat) (fun j=>[(10,.slice (some ⟨bl,0,none⟩) D D),(11,vi a),(39,.slice p1 rs.length c1),(40,vi rs.length),(41,vi a),(46,.slice p2 x.length c2),(47,vi x.length),(48,vi j)]) (fun _=>g2) (fun j=>rowA encInt 3 (.slice (some ⟨bl,0,none⟩) D D) (ff D (Qa++[x.take j]))::pt b3 (.cells #[.slice vp l.length vc] 30 (0,0))::s) (fun j=>j≤x.length) (fun j=>x.length - j) 0 sB I (by rw[show ff D (Qa++[x.take 0])=ff D Qa from zc5 fun d _=>DP Qa d]) (zf1 _) ?_;rintro j hj;refine rZ (yL I (tZ (sQ ?_)));refine iP I (fun hlt2=>?_) (fun hlt2=>?_)
    ·have hjx:j<x.length:=oM;have hb3:=za4 hR oM;have hgx:x[((j:Nat):Int).toNat]?=some x[j]:=gE hjx;have hst:=xL D Qa x j hjx;have hou:=FP (D:=D) (P:=Qa) hjx;have hyb:=hxb _ (gM hjx);rw[hQtl] at hst hou;refine kP (tN (sQ (bK (sW I (lU (iA ak zT3 I I hb3 oM sL) (lK (eB iT3 I (za5 hR2) hgx I) (lA I (aT I (sW I (lM I (yD I (lM I (lU (eN ak I) (yL I (tZ ?_)))))))))))))));refine iP I (fun hin=>?_) (fun hin=>?_)
     ·have hin':a+j<D:=oM;have hBb:=FQ (P:=Qa++[x.take j]) (m:=800) (fun y hy=>by
       rcases ze7.1 hy with h | h
       ·exact hQtm y h
       ·rw[zh2] at h;subst h;exact fun z hz=>hxb z (List.mem_of_mem_take hz)) (a+j)
      rw[zd9,ze2,hQtl] at hBb;have hBk:(ff D (Qa++[x.take j]))[((a:Int)+j).toNat]?=some (rP (Qa++[x.take j]) (a+j)):=by
       rw[show ((a:Int)+j).toNat=a+j by omega,eR,zh4,List.getElem?_range hin'];rfl
      have hBl:(ff D (Qa++[x.take j])).length=D:=by rw[eR,ze1,zh8]
      generalize rP (Qa++[x.take j]) (a+j)=y0 at *;refine rG (lM I (lM I (lM I (yD I (lU (iA ak zT3 I I I oM sL) (lK (eB iT3 I (zb5 (e:=encInt) 0 I) hBk I) (lM I (yD I (lU (SU.eq (v':=.pointer (some ⟨bl,0+(a+j) * 1,none⟩)) (iA ak zT3 I I I oM sL) (by rw[show ((a:Int)+j).toNat=a+j by omega]; rfl)) ?_)))))))));refine oZ (sT (e:=encInt) (a:=y0+x[j]) (j:=a+j) 0 zT3 I I I (by rw[hBl]; exact hin') I) ?_;rw[← hst];refine nL (bN (tN (rG (yD I (lM I (nL ?_))))));exact gA (j+1) sB I I oM oM
     ·rw[← hou oM];refine kP (bN (tN (rG (yD I (lM I (nL ?_))))));exact gA (j+1) sB I I oM oM
    ·have hje:j=x.length:=oM;subst hje;rw[List.take_length,← htk];refine xI (tX (tX (bX (bN (tN (rG (yD I (lM I (nL ?_)))))))));exact gA (a+1) sB I I oM oM
   ·have hae:a=rs.length:=oM;subst hae;rw[← hrl,List.take_length,← hb];refine xI (tX (tX (bX (tN (sW I (lA I (aT I (rE ?_))))))));have hlb:(gr l T p).length=D:=by rw[hb,eR,ze1,zh8]
    refine fT fun g3 hle3 hs3=>?_;refine dR (s':=s) uR ?_;exact ST.ret2 (.inl I) results9 I I ⟨I,hle1.trans (hle2.trans hle3),_,by rw[he],by unfold bJ SlA; rw[← hlb] at hs3 ⊢; exact hs3⟩
 ·refine lM I (yX I (yX I (lA I (aT I (sQ (sW I (lU (SU.eq (v':=vb true) (nQ I I) (zd6 vb (zf3 he))) (lM I (yA I (yA I (yA I (yP I (tZ (cT I (sW I (lA I (aT I (rE (tR ?_)))))))))))))))))));have hb:gr l T p=[]:=by
   unfold gr;rw[zf5];unfold cq;rw[zf5 he];rfl
  refine dR (s':=s) uR ?_;exact ST.ret2 (.inl I) results9 I I ⟨I,hle1,_,I,by rw[hb]; exact zb8 _ _⟩
theorem C6 {l:List Cl}(h:ee l []=0):ae l=[]:=by
 cases ht:ae l with
 | nil=>rfl
 | cons c q =>
  exfalso;unfold ee at h;split at h
  ·rename_i h1; exact h1 h
  ·rw[ht] at h;simp[tlB] at h
theorem wC {α:Type}[DecidableEq α]:∀ {l:List α},l≠[]→jN l≠[]
 | [],h=>absurd rfl h
 | [a],_=>by simp[jN]
 | a::b::l,_=>by
  unfold jN;split
  ·exact wC (by simp)
  ·simp
theorem yz {l:List Cl}{T:List (List Int)}{p:Int}(h:cD l T p=0)(hD:0<dimN l):0<(cq l T p).length:=by
 have ho:=jo h;have hT:0<T.length:=by
  refine Nat.pos_of_ne_zero fun e=>?_;have e2:=List.length_eq_zero_iff.1 e;have h1:=ho.opn;rw[e2] at h1;have h2:=C6 h1;unfold dimN at hD;rw[h2] at hD;exact absurd hD dC
 rw[ho.eq];refine List.length_pos_iff.2 fun e=>?_;unfold iG at e;have h1:=List.reverse_eq_nil_iff.1 e;refine wC ?_ h1;rw[ne_eq,List.reverse_eq_nil_iff];intro h2;have:=lH (rf:=rkP p) (n:=T.length) (B:=cI (ae l) T) (D:=dimN l);rw[h2] at this;simp at this;omega
theorem B5 {l:List Cl}{T:List (List Int)}{p:Int}(h:cD l T p=0):gr l T p=ff (dimN l) ((cq l T p).getLastD []):=by
 unfold gr;split
 ·rename_i h0;have hD:dimN l=0:=Nat.eq_zero_of_not_pos fun k=>by have:=yz h k; omega
  rw[hD];rfl
 ·rfl
set_option maxHeartbeats 1000000
theorem Et (g:PH):aq g (.slice none 0 0) []:=⟨[],zb8 g _,trivial⟩
theorem pE (E:World)(hE:E.drawn=0)(g:PH)(s:Own)(v tv:Value)(l:List Cl)(T:List (List Int))(hv:aq g v l)(hf:dj l)(hw:∀ c∈l,gn c.id)(ht:aH g tv T)(hT:T.length<1099511627776)(hTl:∀ t∈T,t.length<1099511627776) :
  Ctr Tryz.prog E 22 #[.agg #[v],tv] g s (fun x g' s'=>s=s'∧Le g g'∧x=vi (ee l T)):=by
 obtain ⟨vp,vc,rfl⟩:=hv.form;refine za9 (args:=[.agg #[.slice vp l.length vc],tv]) func22 I ntmps22 (bE I) ?_;refine rZ (bW (bO I) fun b2=>?_);refine aT I (rZ (lK (qV 0 br az I I I) (lM I (lW (cL call35 I (nJ E hE g _ _ tv l T hv hf hw ht hT hTl)) ?_))));rintro _ g1 _ ⟨rfl,hle1,pv,rfl,-⟩;refine lM I (yX I (yX I (lA I (aT I (sW I (aT I (rE (dR (s':=s) uR ?_))))))));exact za6 (.inl I) results22 I ⟨I,hle1,I⟩
theorem Tryz.buildN30 (w:World):(Instr.build 30 #[]).run Tryz.prog w = .ok (.agg #[.slice none 0 0]) w:=by
 simp[Instr.build,Instr.fill];rfl
theorem wg (E:World)(hE:E.drawn=0)(g:PH)(s:Own)(v tv:Value)(l:List Cl)(T:List (List Int))(hv:aq g v l)(hf:dj l)(hw:∀ c∈l,gn c.id)(ht:aH g tv T)(hT:T.length<1099511627776)(hTl:∀ t∈T,t.length<1099511627776) :
  Ctr Tryz.prog E 20 #[.agg #[v],tv] g s (fun x g' s'=>s=s'∧Le g g'∧∃ u,x = .agg #[u]∧aq g' u (im l T)):=by
 obtain ⟨vp,vc,rfl⟩:=hv.form;refine za9 (args:=[.agg #[.slice vp l.length vc],tv]) func20 I ntmps20 (bE I) ?_;refine rZ (bW (bO I) fun b2=>?_);refine bW (aL zl1) fun b4=>?_;refine tZ (rZ (lK (qV 1 br az I I I) (lM I (lW (cL call35 I (nJ E hE g _ _ tv l T hv hf hw ht hT hTl)) ?_))));rintro _ g1 _ ⟨rfl,hle1,pv,rfl,hcov⟩;refine lM I (yX I (yX I (lA I (aT I (sQ (sW I (lU (nQ I I) (tZ ?_))))))));refine iP I (fun hop=>?_) (fun hop=>?_)
 ·have hb:im l T=[]:=by unfold im; rw[zf5 (.inl hop)]
  refine rZ (lU (za1 I buildN30) (oZ (sK 0 az I I I I I ⟨I,trivial⟩) (tZ (rE (tR ?_)))));exact ST.retCD 0 s (.inl I) results20 I br az I I uR ⟨I,hle1,_,I,by rw[hb]; exact Et _⟩
 ·have hop0:ee l T=0:=zg4 hop;have hcov:=hcov hop0;obtain ⟨hok,hT6⟩:=ka hop0;have hRt:=mo hok;have hLt:ae l=aa l:=bh hRt.asc;have hRt:Rt (ae l):=by rw[hLt]; exact hRt
  have hBf:=cw (ob hRt hT6);refine kP (tN (sW I (lW (cL call36 I (o4 E g1 _ pv (ae l) T hcov hRt hT6)) ?_)));rintro _ g2 _ ⟨rfl,hle2,u,rfl,hu⟩;obtain ⟨up,uc,rfl⟩:=hu.form;refine bW (aL zl1) fun b7=>?_;refine oZ (sK 0 az I I I I I ⟨I,trivial⟩) (tZ (sQ (rZ (lK (qV 0 br az I I I) (lW (cL call37 I (jK E g2 _ _ (cI (ae l) T) hu hBf)) ?_)))));rintro _ _ _ ⟨rfl,rfl,rfl⟩;refine lM I (yX I (yX I (lA I (aT I (sW I (lU (nQ I I) (tZ ?_)))))));refine iP I (fun hbl=>?_) (fun hbl=>?_)
  ·have hb:im l T=[]:=by unfold im; rw[zf5 (.inr hbl)]
   refine rZ (lU (za1 I buildN30) (oZ (sK 1 az I I I I I ⟨I,trivial⟩) (tZ (rE (tR ?_)))));exact ST.retCD 1 s (.inl I) results20 I br az I I uR ⟨I,hle1.trans hle2,_,I,by rw[hb]; exact Et _⟩
  ·have hb:im l T=cI (ae l) T:=by unfold im; rw[zf4]; rintro (h | h); exact hop h; exact hbl h
   refine kP (tN (rZ (lK (qV 0 br az I I I) (oZ (sK 1 az I I I I I ⟨I,trivial⟩) (tZ (rE ?_))))));exact ST.retCD 1 s (.inl I) results20 I br az I I uR ⟨I,hle1.trans hle2,_,I,by rw[hb]; exact hu⟩
set_option maxHeartbeats 2000000
theorem rW (E:World)(g:PH)(s:Own)(v u:Value)(P Q:List (List Int))(hv:aH g v P)(hu:aH g u Q)(hP:P.length<1099511627776)(hPl:∀ x∈P,x.length<1099511627776)(hQ:Q.length<1099511627776) :
  Ctr Tryz.prog E 52 #[v,u] g s (fun r g' s'=>r=vb (decide (P=Q))∧g=g'∧s=s'):=by
 obtain ⟨rs,hrs,hallr⟩:=hv;obtain ⟨qs,hqs,hallq⟩:=hu;have hlr:=hallr.length;have hlq:=hallq.length;obtain ⟨rp,rc,rfl⟩:=za2 hrs;obtain ⟨qp,qc,rfl⟩:=za2 hqs;refine za9 (args:=[.slice rp rs.length rc,.slice qp qs.length qc]) func52 I ntmps52 (bE I) ?_;refine rZ (aT I (sQ (sW I (lU (eN bD I) (lM I (lU (eN bD I) (lU (nQ I I) (tZ ?_))))))));refine iP I (fun hne=>?_) (fun hne=>?_)
 ·refine rZ (aT I (rE (tR ?_)));have h0:decide (P=Q)=false:=zf2 fun e=>hne (by rw[← hlr,← hlq,e]);exact za6 (.inl I) results52 I ⟨by rw[h0],I,I⟩
 ·have hlen:rs.length=qs.length:=oM;refine kP (tN (sQ (rZ (aT I (bK ?_)))));refine oP (ι:=Nat) (fun k=>[(0,.slice rp rs.length rc),(1,.slice qp qs.length qc),(5,vi k)]) (fun _=>g) (fun _=>s) (fun k=>k≤rs.length∧P.take k=Q.take k) (fun k=>rs.length - k) 0 sB I I ⟨zf1 _,I⟩ ?_;rintro k ⟨hk,heq⟩;refine sQ (sW I (lM I (lU (eN bD I) (yL I (tZ ?_)))));refine iP I (fun hlt=>?_) (fun hlt=>?_)
  ·have hkr:k<rs.length:=oM;have hkq:k<qs.length:=oM;have hkP:k<P.length:=oM;have hkQ:k<Q.length:=oM;have hb1:=za4 hrs oM;have hb2:=za4 hqs oM;have hgr:rs[((k:Nat):Int).toNat]?=some rs[k]:=gE hkr;have hgq:qs[((k:Nat):Int).toNat]?=some qs[k]:=gE hkq;have hR:=hallr.get (gE hkP) (gE hkr);have hQ':=hallq.get (gE hkQ) (gE hkq);have h1:P.take (k+1)=P.take k++[P[k]]:=tS hkP;have h2:Q.take (k+1)=Q.take k++[Q[k]]:=tS hkQ;have hpl:=hPl _ (gM hkP);have hdiff:P[k]≠Q[k]→decide (P=Q)=false:=fun h=>zf2 fun e=>h (by subst e; rfl);generalize P[k]=x at *;generalize Q[k]=y at *;generalize rs[k]=r at *;generalize qs[k]=q at *;obtain ⟨ap,an,ac⟩:=r;obtain ⟨bp,bn,bc⟩:=q;refine kP (tN (sQ (bK (sQ ?_))));refine dW [] [(0,2),(1,2),(2,2),(3,1),(4,2),(5,2),(6,2),(7,1),(8,0),(9,2)] zd7 kR ?_;refine yM I (yM I (pU I (iA bD cf I I hb1 oM sL) (pK I (eB (u:=.slice ap an ac) dw I (za5 hrs) hgr I) (yM I (yM I (pU I (iA bD cf I I hb2 oM sL) (pK I (eB (u:=.slice bp bn bc) dw I (za5 hqs) hgq I) (SP.o I (cL call12 I (nS E g s (.slice ap an ac) (.slice bp bn bc) x y hR hQ' oM)) dC (.inr iR) ?_))))))));rintro _ _ _ ⟨rfl,rfl,rfl⟩;refine pU I (aS I) (pN (tN (sW I (lU (SU.notP I) (tZ ?_)))));refine iQ I (fun hxy=>?_) (fun hxy=>?_)
   ·have hxy':x≠y:=by simpa using hxy
    refine rZ (aT I (rE (bR (tR (tR (bR (tR ?_)))))));exact za6 (.inl I) results52 I ⟨by rw[hdiff hxy'],I,I⟩
   ·have hxy':x=y:=by simpa using hxy
    refine kP (bN (tN (rG (lM I (yD I (lA I (nL ?_)))))));exact gA (k+1) sB I I ⟨oM,by rw[h1,h2,heq,hxy']⟩ oM
  ·have hkk:k=rs.length:=oM;subst hkk;rw[tL oM,tL oM] at heq;refine xI (tX (tX (bX (tN (rZ (aT I (rE ?_)))))));have h0:decide (P=Q)=true:=zf3 heq;exact za6 (.inl I) results52 I ⟨by rw[h0],I,I⟩
theorem pH (E:World)(g:PH)(s:Own)(v u:Value)(P Q:List (List (List Int)))(hv:Pgs g v P)(hu:Pgs g u Q)(hP:P.length<1099511627776)(hPl:∀ A∈P,A.length<1099511627776∧∀ x∈A,x.length<1099511627776)(hQ:Q.length<1099511627776)(hQl:∀ A∈Q,A.length<1099511627776) :
  Ctr Tryz.prog E 18 #[v,u] g s (fun r g' s'=>r=vb (decide (P=Q))∧g=g'∧s=s'):=by
 obtain ⟨rs,hrs,hallr⟩:=hv;obtain ⟨qs,hqs,hallq⟩:=hu;have hlr:=hallr.length;have hlq:=hallq.length;obtain ⟨rp,rc,rfl⟩:=za2 hrs;obtain ⟨qp,qc,rfl⟩:=za2 hqs;refine za9 (args:=[.slice rp rs.length rc,.slice qp qs.length qc]) func18 I ntmps18 (bE I) ?_;refine rZ (aT I (sQ (sW I (lU (eN pA I) (lM I (lU (eN pA I) (lU (nQ I I) (tZ ?_))))))));refine iP I (fun hne=>?_) (fun hne=>?_)
 ·refine rZ (aT I (rE (tR ?_)));have h0:decide (P=Q)=false:=zf2 fun e=>hne (by rw[← hlr,← hlq,e]);exact za6 (.inl I) results18 I ⟨by rw[h0],I,I⟩
 ·have hlen:rs.length=qs.length:=oM;refine kP (tN (sQ (rZ (aT I (bK ?_)))));refine oP (ι:=Nat) (fun k=>[(0,.slice rp rs.length rc),(1,.slice qp qs.length qc),(5,vi k)]) (fun _=>g) (fun _=>s) (fun k=>k≤rs.length∧P.take k=Q.take k) (fun k=>rs.length - k) 0 sB I I ⟨zf1 _,I⟩ ?_;rintro k ⟨hk,heq⟩;refine sQ (sW I (lM I (lU (eN pA I) (yL I (tZ ?_)))));refine iP I (fun hlt=>?_) (fun hlt=>?_)
  ·have hkr:k<rs.length:=oM;have hkq:k<qs.length:=oM;have hkP:k<P.length:=oM;have hkQ:k<Q.length:=oM;have hb1:=za4 hrs oM;have hb2:=za4 hqs oM;have hgr:rs[((k:Nat):Int).toNat]?=some rs[k]:=gE hkr;have hgq:qs[((k:Nat):Int).toNat]?=some qs[k]:=gE hkq;have hR:=hallr.get (gE hkP) (gE hkr);have hQ':=hallq.get (gE hkQ) (gE hkq);have h1:P.take (k+1)=P.take k++[P[k]]:=tS hkP;have h2:Q.take (k+1)=Q.take k++[Q[k]]:=tS hkQ;have hpl:=hPl _ (gM hkP);have hql:=hQl _ (gM hkQ);have hdiff:P[k]≠Q[k]→decide (P=Q)=false:=fun h=>zf2 fun e=>h (by subst e; rfl);generalize P[k]=x at *;generalize Q[k]=y at *;generalize rs[k]=r at *;generalize qs[k]=q at *;obtain ⟨ap,an,ac⟩:=r;obtain ⟨bp,bn,bc⟩:=q;refine kP (tN (sQ (bK (sQ ?_))));refine dW [] [(0,2),(1,2),(2,2),(3,1),(4,2),(5,2),(6,2),(7,1),(8,0),(9,2)] zd7 kR ?_;refine yM I (yM I (pU I (iA pA sh I I hb1 oM sL) (pK I (eB (u:=.slice ap an ac) isAgg22 I (za5 hrs) hgr I) (yM I (yM I (pU I (iA pA sh I I hb2 oM sL) (pK I (eB (u:=.slice bp bn bc) isAgg22 I (za5 hqs) hgq I) (SP.o I (cL call52 I (rW E g s (.slice ap an ac) (.slice bp bn bc) x y hR hQ' hpl.1 hpl.2 hql)) dC (.inr iR) ?_))))))));rintro _ _ _ ⟨rfl,rfl,rfl⟩;refine pU I (aS I) (pN (tN (sW I (lU (SU.notP I) (tZ ?_)))));refine iQ I (fun hxy=>?_) (fun hxy=>?_)
   ·have hxy':x≠y:=by simpa using hxy
    refine rZ (aT I (rE (bR (tR (tR (bR (tR ?_)))))));exact za6 (.inl I) results18 I ⟨by rw[hdiff hxy'],I,I⟩
   ·have hxy':x=y:=by simpa using hxy
    refine kP (bN (tN (rG (lM I (yD I (lA I (nL ?_)))))));exact gA (k+1) sB I I ⟨oM,by rw[h1,h2,heq,hxy']⟩ oM
  ·have hkk:k=rs.length:=oM;subst hkk;rw[tL oM,tL oM] at heq;refine xI (tX (tX (bX (tN (rZ (aT I (rE ?_)))))));have h0:decide (P=Q)=true:=zf3 heq;exact za6 (.inl I) results18 I ⟨by rw[h0],I,I⟩
def pM:List Cl:=[⟨1,0,[]⟩,⟨2,0,[]⟩,⟨3,0,[]⟩,⟨4,1,[⟨1,-1⟩,⟨2,1⟩]⟩,⟨5,1,[⟨1,-1⟩,⟨3,1⟩]⟩,⟨6,1,[⟨2,-1⟩,⟨3,1⟩]⟩]
theorem E7:bI [1,2]=[1,2]:=by
 unfold bI;rw[jn dC];rfl
theorem E8:bI [0,2]=[0,2]:=by
 unfold bI;rw[jn dC];rfl
theorem CJ:bC [[0,1],[1,2],[0,2]]=pM:=by
 simp only[bC,aB,E9,E7,E8];rfl
theorem m6:dj pM:=Dy dC dC
theorem qN:∀ c∈pM,gn c.id:=by unfold gn; decide
theorem DG:ee pM [[4,6],[5]]=0:=by kernel_rfl
theorem FM:ee pM [[4],[5]]=45:=by kernel_rfl
theorem BU:(a6 (cI (ae pM) [[4,6],[5]])).2=0:=by kernel_rfl
theorem BV:(im pM [[4,6],[5]]).length=10:=by
 unfold im;rw[zf4 (by rintro (h | h); exact h DG; exact h BU)]
 kernel_rfl
theorem lX:cD pM [[4,6],[5]] 2=0:=by kernel_rfl
theorem Fe:rkP 2=fun C R=>rkF C R di:=funext fun C=>funext fun R=>Gj C R di
theorem tr:cq pM [[4,6],[5]] 2=[[[2,0],[2,0]],[[1,0],[1,0]]]:=by
 unfold cq;rw[zf4 (by rw[lX]; simp),Fe]
 kernel_rfl
theorem BW:gr pM [[4,6],[5]] 2=[1,1]:=by
 unfold gr;rw[tr]
 kernel_rfl
theorem wc (E:World)(g:PH)(s:Own):Ctr Tryz.prog E 21 #[] g s (fun r g' s'=>s=s'∧Le g g'∧∃ u,r = .agg #[u]∧aq g' u pM):=by
 refine za9 (args:=[]) func21 I ntmps21 (bE I) ?_;refine rZ (bW (aL zl1) fun b0=>?_);refine tZ (rZ (lW (bS sty25 I I I (ab sB) dC) ?_));rintro _ _ _ ⟨b1,rfl,rfl,rfl⟩;refine zb3 fun g1 hle1 hb1=>?_;refine lW (bS sty25 I I I (ab sB) dC) ?_;rintro _ _ _ ⟨b2,rfl,rfl,rfl⟩;refine zb3 fun g2 hle2 hb2=>?_;refine lW (bS sty25 I I I (ab sB) dC) ?_;rintro _ _ _ ⟨b3,rfl,rfl,rfl⟩;refine zb3 fun g3 hle3 hb3=>?_;refine lW (bS sty22 I I I (ab sB) dC) ?_;rintro _ _ _ ⟨b4,rfl,rfl,rfl⟩;refine zb3 fun g4 hle4 hb4=>?_;have hlit:aH g4 (.slice (some ⟨b4,0,none⟩) 3 3) [[0,1],[1,2],[0,2]]:=⟨[eD (.slice (some ⟨b1,0,none⟩) 2 2),eD (.slice (some ⟨b2,0,none⟩) 2 2),eD (.slice (some ⟨b3,0,none⟩) 2 2)],SlA.lit hb4 rfl rfl,⟨SlA.lit ((hle2.trans (hle3.trans hle4)) _ _ hb1) rfl rfl,SlA.lit ((hle3.trans hle4) _ _ hb2) rfl rfl,SlA.lit (hle4 _ _ hb3) rfl rfl,trivial⟩⟩;refine lW (cL call55 I (pl E g4 _ _ _ hlit dC dC)) ?_;rintro _ g5 _ ⟨rfl,hle5,u,rfl,hu⟩;rw[CJ] at hu;obtain ⟨q,d,rfl⟩:=hu.form;refine oZ (sK 0 az I I I I I sB) ?_;refine tZ (rE ?_);exact ST.retCD 0 s (.inl I) results21 I br az I I uR ⟨I,hle1.trans (hle2.trans (hle3.trans (hle4.trans hle5))),_,I,hu⟩
theorem rV (E:World)(hE:E.drawn=0)(g:PH)(s:Own):Ctr Tryz.prog E 6 #[] g s (fun r g' s'=>r=vb true∧s=s'∧Le g g'):=by
 refine za9 (args:=[]) func6 I ntmps6 (bE I) ?_;refine rZ (aT I (rZ (lW (cL call21 I (wc E g s)) ?_)));rintro _ g1 _ ⟨rfl,hle1,u,rfl,hu⟩;obtain ⟨q,d,rfl⟩:=hu.form;refine bW (aL zl1) fun b1=>?_;refine oZ (sK 0 az I I I I I ⟨I,trivial⟩) (tZ (rZ (lW (bS sty25 I I I (ab sB) dC) ?_)));rintro _ _ _ ⟨b10,rfl,rfl,rfl⟩;refine zb3 fun g2 hle2 hb10=>?_;refine lW (bS sty25 I I I (ab ⟨I,trivial⟩) dC) ?_;rintro _ _ _ ⟨b11,rfl,rfl,rfl⟩;refine zb3 fun g3 hle3 hb11=>?_;refine lW (bS sty22 I I I (ab sB) dC) ?_;rintro _ _ _ ⟨b12,rfl,rfl,rfl⟩;refine zb3 fun g4 hle4 hb12=>?_;have hT:aH g4 (.slice (some ⟨b12,0,none⟩) 2 2) [[4,6],[5]]:=⟨[eD (.slice (some ⟨b10,0,none⟩) 2 2),eD (.slice (some ⟨b11,0,none⟩) 1 1)],SlA.lit hb12 rfl rfl,⟨SlA.lit ((hle3.trans hle4) _ _ hb10) rfl rfl,SlA.lit (hle4 _ _ hb11) rfl rfl,trivial⟩⟩;have hu4:=hu.mono (hle2.trans (hle3.trans hle4));refine aT I (rZ (lK (qV 0 br az I I I) (lM I (lW (cL call20 I (wg E hE g4 _ _ _ pM [[4,6],[5]] hu4 m6 qN hT dC dC)) ?_))));rintro _ g5 _ ⟨rfl,hle5,u5,rfl,hu5⟩;obtain ⟨q5,d5,rfl⟩:=hu5.form;rw[BV];have hu5':=hu4.mono hle5;have hT5:=hT.mono hle5;refine bW (aL zl1) fun b3=>?_;refine oZ (sK 0 az I I I I I ⟨I,trivial⟩) (tZ (rZ (lK (qV 1 br az I I I) (lM I (lW (cL call13 I (qh E hE g5 _ _ _ pM [[4,6],[5]] 2 hu5' m6 qN hT5 dC dC dC dC)) ?_)))));rintro _ g6 _ ⟨rfl,hle6,u6,rfl,hP⟩;rw[lX];rw[tr] at hP;have hu6:=hu5'.mono hle6;have hT6:=hT5.mono hle6;refine lM I (yX I (yX I (lA I (aT I (rZ (lK (qV 1 br az I I I) (lM I (lW (cL call9 I (qB E hE g6 _ _ _ pM [[4,6],[5]] 2 hu6 m6 qN hT6 dC dC dC dC)) ?_))))))));rintro _ g7 _ ⟨rfl,hle7,u7,rfl,hB⟩;rw[lX];rw[BW] at hB;have hu7:=hu6.mono hle7;have hP7:=hP.mono hle7;refine lM I (yX I (yX I (lA I (aT I (rZ (lW (bS sty25 I I I (ab sB) dC) ?_))))));rintro _ _ _ ⟨b28,rfl,rfl,rfl⟩;refine zb3 fun g8 hle8 hb28=>?_;refine lW (bS sty25 I I I (ab sB) dC) ?_;rintro _ _ _ ⟨b29,rfl,rfl,rfl⟩;refine zb3 fun g9 hle9 hb29=>?_;refine lW (bS sty22 I I I (ab sB) dC) ?_;rintro _ _ _ ⟨b30,rfl,rfl,rfl⟩;refine zb3 fun g10 hle10 hb30=>?_;have h30:aH g10 (.slice (some ⟨b30,0,none⟩) 2 2) [[2,0],[2,0]]:=⟨[eD (.slice (some ⟨b28,0,none⟩) 2 2),eD (.slice (some ⟨b29,0,none⟩) 2 2)],SlA.lit hb30 rfl rfl,⟨SlA.lit ((hle9.trans hle10) _ _ hb28) rfl rfl,SlA.lit (hle10 _ _ hb29) rfl rfl,trivial⟩⟩;refine lW (bS sty25 I I I (ab sB) dC) ?_;rintro _ _ _ ⟨b31,rfl,rfl,rfl⟩;refine zb3 fun g11 hle11 hb31=>?_;refine lW (bS sty25 I I I (ab sB) dC) ?_;rintro _ _ _ ⟨b32,rfl,rfl,rfl⟩;refine zb3 fun g12 hle12 hb32=>?_;refine lW (bS sty22 I I I (ab sB) dC) ?_;rintro _ _ _ ⟨b33,rfl,rfl,rfl⟩;refine zb3 fun g13 hle13 hb33=>?_;have h33:aH g13 (.slice (some ⟨b33,0,none⟩) 2 2) [[1,0],[1,0]]:=⟨[eD (.slice (some ⟨b31,0,none⟩) 2 2),eD (.slice (some ⟨b32,0,none⟩) 2 2)],SlA.lit hb33 rfl rfl,⟨SlA.lit ((hle12.trans hle13) _ _ hb31) rfl rfl,SlA.lit (hle13 _ _ hb32) rfl rfl,trivial⟩⟩;refine lW (bS sty40 I I I (ab sB) dC) ?_;rintro _ _ _ ⟨b34,rfl,rfl,rfl⟩;refine zb3 fun g14 hle14 hb34=>?_;have hW:Pgs g14 (.slice (some ⟨b34,0,none⟩) 2 2) [[[2,0],[2,0]],[[1,0],[1,0]]]:=⟨[eD (.slice (some ⟨b30,0,none⟩) 2 2),eD (.slice (some ⟨b33,0,none⟩) 2 2)],SlA.lit hb34 rfl rfl,⟨h30.mono (hle11.trans (hle12.trans (hle13.trans hle14))),h33.mono hle14,trivial⟩⟩;have hl14:=hle8.trans (hle9.trans (hle10.trans (hle11.trans (hle12.trans (hle13.trans hle14)))));have hP14:=hP7.mono hl14;have hB14:=za3 hB hl14;have hu14:=hu7.mono hl14;refine aT I (rZ (lU (fA e8 I dX I) (lK (qL (v:=.slice q5 10 d5) gV I (cO 0 I I)) (lU (eN aR I) (yE I (lM I (yC I (lY I I I (eQ I I) (yP I (lM I (yC I (yC I (SL.go (gT I I I dC) (cL call18 I (pH E g14 _ _ _ _ _ hP14 hW dC dC dC dC)) dC ?_)))))))))))));rintro _ _ _ ⟨rfl,rfl,rfl⟩;rw[show decide (([[[2,0],[2,0]],[[1,0],[1,0]]]:List (List (List Int)))=[[[2,0],[2,0]],[[1,0],[1,0]]])=true from zf3 rfl];refine yP I (lM I (yC I (lY I I I (eQ I I) (yP I (lM I (yC I (SL.go (gT I I I dC) (bS sty25 I I I (ab sB) dC) dC ?_)))))));rintro _ _ _ ⟨b54,rfl,rfl,rfl⟩;refine zb3 fun g15 hle15 hb54=>?_;have hW54:bJ g15 (.slice (some ⟨b54,0,none⟩) 2 2) [1,1]:=SlA.lit hb54 rfl rfl;have hB15:=za3 hB14 hle15;refine SL.go (gT I I I dC) (cL call12 I (nS E g15 _ _ _ _ _ hB15 hW54 dC)) dC ?_;rintro _ _ _ ⟨rfl,rfl,rfl⟩;rw[show decide (([1,1]:List Int)=[1,1])=true from zf3 rfl];refine yP I (lM I (SL.gq (gT I I I dC) (qV 1 br az I I I) dC (SL.go (gT I I I dC) (bS sty25 I I I (ab ⟨I,trivial⟩) dC) dC ?_)));rintro _ _ _ ⟨b59,rfl,rfl,rfl⟩;refine zb3 fun g16 hle16 hb59=>?_;refine SL.go (gT I I I dC) (bS sty25 I I I (ab ⟨I,trivial⟩) dC) dC ?_;rintro _ _ _ ⟨b60,rfl,rfl,rfl⟩;refine zb3 fun g17 hle17 hb60=>?_;refine SL.go (gT I I I dC) (bS sty22 I I I (ab sB) dC) dC ?_;rintro _ _ _ ⟨b61,rfl,rfl,rfl⟩;refine zb3 fun g18 hle18 hb61=>?_;have hT2:aH g18 (.slice (some ⟨b61,0,none⟩) 2 2) [[4],[5]]:=⟨[eD (.slice (some ⟨b59,0,none⟩) 1 1),eD (.slice (some ⟨b60,0,none⟩) 1 1)],SlA.lit hb61 rfl rfl,⟨SlA.lit ((hle17.trans hle18) _ _ hb59) rfl rfl,SlA.lit (hle18 _ _ hb60) rfl rfl,trivial⟩⟩;have hu18:=hu14.mono (hle15.trans (hle16.trans (hle17.trans hle18)));refine SL.go (gT I I I dC) (cL call22 I (pE E hE g18 _ _ _ pM [[4],[5]] hu18 m6 qN hT2 dC dC)) dC ?_;rintro _ g19 _ ⟨rfl,hle19,rfl⟩;rw[FM];refine lY I I I (eQ I I) (yP I (aT I (rE (dR (s':=s) uR ?_))));exact za6 (.inl I) results6 I ⟨I,I,hle1.trans (hle2.trans (hle3.trans (hle4.trans (hle5.trans (hle6.trans (hle7.trans (hl14.trans (hle15.trans (hle16.trans (hle17.trans (hle18.trans hle19)))))))))))⟩
def Cm (y:Int):Int:=if bF y 2=0 then 4 else 5
theorem wB (y:Int):([4,5]:List Int)[(bF y 2).toNat]?=some (Cm y):=by
 have:=aV y 2 dC dC;unfold Cm
 rcases (by omega:bF y 2=0∨bF y 2=1) with e | e
 ·rw[e]; rfl
 ·rw[e]; rfl
def fe (kd:Int)(ls:List (List Int))(y:Int):List Cl:=if (jO kd ls y).length>20 then jO (Cm y) [] (bF y 8) else jO kd ls y
def i5 (kd:Int)(ls:List (List Int))(y:Int):List Cl:=if (fe kd ls y).length>20 then bC [[0,1,2],[1,2,3],[0,3]] else fe kd ls y
theorem Tryz.buildK24 (a b:Int)(w:World):(Instr.build 24 #[(0,vi a),(2,vi b)]).run Tryz.prog w = .ok (.agg #[vi a,.slice none 0 0,vi b]) w:=by
 have h1:∀ n,(vi n).cells = #[vi n]:=fun _=>rfl;simp[Instr.build,Instr.fill,h1];rfl
theorem yd (E:World)(g:PH)(s:Own)(v:Value)(kd y:Int)(ls:List (List Int))(hv:aH g v ls) :
  Ctr Tryz.prog E 7 #[.agg #[vi kd,v,vi y]] g s (fun r g' s'=>s=s'∧Le g g'∧∃ u,r = .agg #[u]∧aq g' u (i5 kd ls y)):=by
 obtain ⟨p,n,c,rfl⟩:∃ p n c,v = .slice p n c:=by
  obtain ⟨rs0,hrs0,_⟩:=hv;obtain ⟨p,c,rfl⟩:=za2 hrs0;exact⟨_,_,_,I⟩
 have hy:=aV y 2 dC dC;have hf1:=(lQ kd ls y).1;have hf2:=(lQ (Cm y) [] (bF y 8)).1;refine za9 (args:=[.agg #[vi kd,.slice p n c,vi y]]) func7 I ntmps7 (bE I) ?_;refine rZ (bW (bO I) fun b1=>?_);refine bW (aL zl1) fun b2=>?_;refine tZ (rZ (lK (qV 1 isAgg24 sizeOf24 I I I) (lW (cL call23 I (s3 E g _ _ kd y ls hv)) ?_)));rintro _ g1 _ ⟨rfl,hle1,u1,rfl,hu1⟩;obtain ⟨q1,d1,rfl⟩:=hu1.form;refine bW (aL zl1) fun b3=>?_;refine oZ (sK 0 az I I I I I ⟨I,trivial⟩) (tZ ?_);refine SC.cut (ι:=PH×Option Addr×Nat) (fun i=>[(2,pp b2 0),(3,pp b3 0)]) (fun i=>i.1) (fun i=>pt b3 (.cells #[.slice i.2.1 (fe kd ls y).length i.2.2] 30 (0,0))::pt b2 (.cells #[.slice none 0 0] 30 (0,0))::pt b1 (.cells #[vi kd,.slice p n c,vi y] 24 (0,0))::s) (fun i=>Le g1 i.1∧aq i.1 (.slice i.2.1 (fe kd ls y).length i.2.2) (fe kd ls y)) ?_ ?_
 ·refine rZ (lU (fA e8 I dX I) (lK (qL (v:=.slice q1 (jO kd ls y).length d1) gV I (cO 0 I I)) (lU (eN aR I) (lU (gR I I) (tZ ?_)))));refine iP I (fun h20=>?_) (fun h20=>?_)
  ·have hs2:fe kd ls y=jO (Cm y) [] (bF y 8):=by unfold fe; rw[zf5 oM]
   rw[hs2];refine SC.drawX [11] zd7 kR ?_;refine SX.u (i:=1) I kR (fA kz I zT3 I) dC (SX.q (i:=2) I kR (qL (v:=vi y) iT3 I (cO 2 I I)) dC (SX.u (i:=6) I kR (fA kz I zT3 I) dC (SX.q (i:=7) I kR (qL (v:=vi y) iT3 I (cO 2 I I)) dC ?_)))
   repeat' (first
    | (refine SB.o (i:=0) I (bS sty25 I I I (ab sB) dC) dC (.inr iR) ?_; rintro _ _ _ ⟨b10,rfl,rfl,rfl⟩; refine SX.freeze fun g2 hle2 hb10=>?_; have h10:SlA encInt g2 (.slice (some ⟨b10,0,none⟩) 2 2) [4,5]:=SlA.lit hb10 rfl rfl; refine SX.u (i:=4) I kD (iA ak zT3 I I I oM (show bF y 2<((2:Nat):Int) by omega)) dC ?_)
    | (refine SB.o (i:=0) I (bS sty25 I I I (ab sB) dC) dC (.inr iR) ?_; rintro _ _ _ ⟨b10,rfl,rfl,rfl⟩; refine SX.freeze fun g2 hle2 hb10=>?_; have h10:SlA encInt g2 (.slice (some ⟨b10,0,none⟩) 2 2) [4,5]:=SlA.lit hb10 rfl rfl)
    | (refine SB.o (i:=3) I (cL kT8 I (aW E _ _ y 2 dC)) dC (.inr iR) ?_; rintro _ _ _ ⟨rfl,rfl,rfl⟩; refine SX.u (i:=4) I kD (iA ak zT3 I I I oM (show bF y 2<((2:Nat):Int) by omega)) dC ?_)
    | (refine SB.o (i:=3) I (cL kT8 I (aW E _ _ y 2 dC)) dC (.inr iR) ?_; rintro _ _ _ ⟨rfl,rfl,rfl⟩)
    | (refine SB.o (i:=5) I (SQ.sof (eB iT3 I (za5 h10) (wB y) I)) dC (.inr iR) ?_; rintro _ _ _ ⟨rfl,rfl,rfl⟩; refine SX.u (i:=9) I kD (za1 I (buildK24 _ _)) dC ?_)
    | (refine SB.o (i:=5) I (SQ.sof (eB iT3 I (za5 h10) (wB y) I)) dC (.inr iR) ?_; rintro _ _ _ ⟨rfl,rfl,rfl⟩)
    | (refine SB.o (i:=8) I (cL kT8 I (aW E _ _ y 8 dC)) dC (.inr iR) ?_; rintro _ _ _ ⟨rfl,rfl,rfl⟩; refine SX.u (i:=9) I kD (za1 I (buildK24 _ _)) dC ?_)
    | (refine SB.o (i:=8) I (cL kT8 I (aW E _ _ y 8 dC)) dC (.inr iR) ?_; rintro _ _ _ ⟨rfl,rfl,rfl⟩)
    | (refine SB.o (i:=8) I (cL kT8 I (aW E _ _ y 8 dC)) dC (.inr iR) ?_; rintro _ _ _ ⟨rfl,rfl,rfl⟩)
    | (refine SB.o (i:=10) rfl (cL call23 rfl (s3 E g2 _ _ (Cm y) (bF y 8) [] ⟨[],zb8 _ _,trivial⟩)) dC (.inr (by rintro _ g3 _ ⟨rfl,hle3,u3,rfl,hu3⟩; exact⟨by exact Le.trans (by assumption) (by assumption),(by exact .refl _)⟩)) ?_; rintro _ g3 _ ⟨rfl,hle3,u3,rfl,hu3⟩; obtain ⟨q3,d3,rfl⟩:=hu3.form)
    | (refine SB.on (i:=11) I (sK 0 az I I I I I ⟨I,trivial⟩) (.inl dC) ?_; rintro _ _ _ ⟨rfl,rfl⟩)
    | refine SX.br2 0 3 kD ?_ ?_
    | refine zd2 3 kD ?_
    | refine SX.br2 5 8 kD ?_ ?_
    | refine zd2 8 kD ?_
    | refine zd2 10 kD ?_
    | refine zd2 11 kD ?_
    | refine zd2 5 kD ?_
    | refine SX.br2 0 8 kD ?_ ?_
    | refine zd2 0 kD ?_
    | (refine SX.nil kD ?_; exact za7 (g3,q3,d3) sB I I ⟨hle2.trans hle3,hu3⟩))
  ·have hs2:fe kd ls y=jO kd ls y:=by unfold fe; rw[zf4 oM]
   rw[hs2];refine kP ?_;exact za7 (g1,q1,d1) sB I I ⟨zb7 _,hu1⟩
 rintro ⟨g3,q3,d3⟩ ⟨hle3,hu3⟩;dsimp only at hle3 hu3 ⊢;have hf2:(fe kd ls y).length<1099511627776:=by
  have h2:=(lQ (Cm y) [] (bF y 8)).1;unfold fe;split <;> omega
 refine sQ (rZ (lU (fA e8 I dX I) (lK (qL (v:=.slice q3 (fe kd ls y).length d3) gV I (cO 0 I I)) (lU (eN aR I) (lU (gR I I) (tZ ?_))))));refine iP I (fun h21=>?_) (fun h21=>?_)
 ·have hs:i5 kd ls y=bC [[0,1,2],[1,2,3],[0,3]]:=by unfold i5; rw[zf5 oM]
  refine rG (lW (bS sty25 I I I (ab sB) dC) ?_);rintro _ _ _ ⟨b25,rfl,rfl,rfl⟩;refine zb3 fun g4 hle4 hb25=>?_;refine lW (bS sty25 I I I (ab sB) dC) ?_;rintro _ _ _ ⟨b26,rfl,rfl,rfl⟩;refine zb3 fun g5 hle5 hb26=>?_;refine lW (bS sty25 I I I (ab sB) dC) ?_;rintro _ _ _ ⟨b27,rfl,rfl,rfl⟩;refine zb3 fun g6 hle6 hb27=>?_;refine lW (bS sty22 I I I (ab sB) dC) ?_;rintro _ _ _ ⟨b28,rfl,rfl,rfl⟩;refine zb3 fun g7 hle7 hb28=>?_;have hlit:aH g7 (.slice (some ⟨b28,0,none⟩) 3 3) [[0,1,2],[1,2,3],[0,3]]:=⟨[eD (.slice (some ⟨b25,0,none⟩) 3 3),eD (.slice (some ⟨b26,0,none⟩) 3 3),eD (.slice (some ⟨b27,0,none⟩) 2 2)],SlA.lit hb28 rfl rfl,⟨SlA.lit ((hle5.trans (hle6.trans hle7)) _ _ hb25) rfl rfl,SlA.lit ((hle6.trans hle7) _ _ hb26) rfl rfl,SlA.lit (hle7 _ _ hb27) rfl rfl,trivial⟩⟩;refine lW (cL call24 I (aF E g7 _ _ _ hlit dC dC)) ?_;rintro _ g8 _ ⟨rfl,hle8,u8,rfl,hu8⟩;obtain ⟨q8,d8,rfl⟩:=hu8.form;refine oZ (sK 0 az I I I I I ⟨I,trivial⟩) (tZ (rZ (lK (qV 0 br az I I I) (oZ (sK 1 az I I I I I ⟨I,trivial⟩) (tZ (rE ?_))))));exact ST.retCD 1 s (.inl I) results7 I br az I I uR ⟨I,hle1.trans (hle3.trans (hle4.trans (hle5.trans (hle6.trans (hle7.trans hle8))))),_,I,by rw[hs]; exact hu8⟩
 ·have hs:i5 kd ls y=fe kd ls y:=by unfold i5; rw[zf4 oM]
  refine kP (tN (rZ (lK (qV 0 br az I I I) (oZ (sK 1 az I I I I I ⟨I,trivial⟩) (tZ (rE ?_))))));exact ST.retCD 1 s (.inl I) results7 I br az I I uR ⟨I,hle1.trans hle3,_,I,by rw[hs]; exact hu3⟩
structure Sml (l:List Cl):Prop where
 rt:Rt l
 few:l.length≤20
 ids:∀ c∈l,gn c.id
theorem F4:bC [[0,1,2],[1,2,3],[0,3]]=[⟨1,0,[]⟩,⟨2,0,[]⟩,⟨3,0,[]⟩,⟨4,0,[]⟩,⟨5,1,[⟨1,-1⟩,⟨2,1⟩]⟩,⟨6,1,[⟨1,-1⟩,⟨3,1⟩]⟩,⟨7,1,[⟨1,-1⟩,⟨4,1⟩]⟩,⟨8,1,[⟨2,-1⟩,⟨3,1⟩]⟩,⟨9,1,[⟨2,-1⟩,⟨4,1⟩]⟩,⟨10,1,[⟨3,-1⟩,⟨4,1⟩]⟩,⟨11,2,[⟨5,1⟩,⟨6,-1⟩,⟨8,1⟩]⟩,⟨12,2,[⟨8,1⟩,⟨9,-1⟩,⟨10,1⟩]⟩]:=by
 have h123:bI [1,2,3]=[1,2,3]:=by
  unfold bI;rw[jn dC];rfl
 have h03:bI [0,3]=[0,3]:=by
  unfold bI;rw[jn dC];rfl
 simp only[bC,aB,CP,h123,h03];rfl
theorem AY (kd:Int)(ls:List (List Int))(y:Int):Sml (i5 kd ls y):=by
 have key:∀ k m z,(jO k m z).length≤20→Sml (jO k m z):=fun k m z h=>⟨qj k m z,h,Dj k m z⟩;unfold i5;split
 ·have hr:=oB [[0,1,2],[1,2,3],[0,3]];rw[F4] at hr ⊢;have h0:=mo (zd6 Prod.snd hr);rw[show aa _=_ from by kernel_rfl] at h0;exact⟨h0,by decide,by unfold gn; decide⟩
 ·rename_i h;unfold fe at h ⊢;split
  ·rename_i h1;rw[zf5 h1] at h;exact key _ _ _ oM
  ·rename_i h1;exact key _ _ _ oM
open Go.ChangeShapes Go.WideShapes Go.ChangeAt Go.RowKit
set_option maxRecDepth 100000
section
variable {H:Type}{enc:TypeId×Value→H}{W:World}{base:Nat}{spare:Nat→Bool}{hd:Bool}
theorem Dq {v:Value}{d:DataW H}{p:List MemPlace}(h:DataW.Trod enc Tryz.prog W base spare hd 25 v d p)(hv:v.cells = #[v]):∃ l:List Int,bJ (wu W) v l:=by
 obtain ⟨fuel,hf⟩:=h;rw[hv] at hf;obtain ⟨l,r,-,hl⟩:=Ar hf;exact⟨l,hl⟩
end
open Go.ChangeShapes Go.WideShapes Go.ChangeAt Go.RowKit
set_option maxRecDepth 100000
section
variable {H:Type}{enc:TypeId×Value→H}{W:World}{base:Nat}{spare:Nat→Bool}{hd:Bool}
theorem Tryz.cells26:Tryz.prog.cellsOf 26=2:=by kernel_rfl
theorem DO {r:Reach}{b0:Nat}{v:Value}{d:DataW H}{p:List MemPlace}(hv:Value.okWide Tryz.prog W r b0 26 v)(h:DataW.Trod enc Tryz.prog W base spare hd 26 v d p) :
  ∃ a b:Int,v = .agg #[vi a,vi b]∧gn a∧gn b:=by
 obtain ⟨cs,rfl,hsz⟩:=um underlying26 hv;rw[cells26] at hsz;obtain ⟨l⟩:=cs
 match l,hsz with
 | [c0,c1],_ =>
  obtain ⟨fuel,hf⟩:=h;obtain ⟨xs,m,_,_,_,hl,hel⟩:=DataW.trod_array underlying26 (show DataW.trod enc Tryz.prog W base spare hd fuel 26 [c0,c1]=some (d,p) by simpa [Value.cells] using hf);have h0:=hel 0 dC;have h1:=hel 1 dC;rw[cells3,gE oM] at h0 h1;obtain ⟨a,e0,_,w0⟩:=DataW.trod_int uT3 h0;obtain ⟨b,e1,_,w1⟩:=DataW.trod_int uT3 h1;simp at e0 e1;subst e0 e1;exact⟨a,b,I,Ej w0,Ej w1⟩
end
abbrev Rws:=List (Sv×List Int)
def ef (ts:Rws):Own:=ts.map fun t=>rowA encInt 3 (.slice t.1.p t.1.n t.1.c) t.2
theorem ym {ts:Rws}{j:Nat}{v:Sv}{l:List Int}(h:ts[j]?=some (v,l))(s:Own):(ef ts++s)[j]?=some (rowA encInt 3 (.slice v.p v.n v.c) l):=by
 have hj:=(ze9.1 h).1;rw[zg6 (by simpa [ef] using hj)];simp[ef,h]
theorem yl {ts:Rws}{j:Nat}{v v':Sv}{l l':List Int}(h:ts[j]?=some (v,l))(s:Own):(ef ts++s).set j (rowA encInt 3 (.slice v'.p v'.n v'.c) l')=ef (ts.set j (v',l'))++s:=by
 have hj:=(ze9.1 h).1;rw[List.set_append_left _ _ (by simpa [ef] using hj)];simp[ef,List.map_set]
theorem pY {E:World}{g:PH}{w:World}(hd:Own):∀ (n:Nat) (s:Own),At E g (hd++s) w→At E g (hd++(ef (List.replicate n (⟨none,0,0⟩,[]))++s)) w
 | 0,s,h=>h
 | n+1,s,h=>by
  have h1:=(pY hd n s h).nilRow 3 1;rw[List.replicate_succ];exact h1.perm List.perm_middle.symm
theorem freezeTs {E:World}{w:World}:∀ (ts:Rws) (g:PH) (s:Own),At E g (ef ts++s) w→∃ g',Le g g'∧At E g' s w∧aG (bM g') (ts.map Prod.snd) (ts.map Prod.fst)
 | [],g,s,h=>⟨g,zb7 g,h,trivial⟩
 | (v,l)::r,g,s,h=>by
  have h':At E g (row 3 1 (.slice v.p v.n v.c) l.length (l.flatMap encInt.enc)::(ef r++s)) w:=h;obtain ⟨g1,hl1,h1,h2⟩:=h'.freezeRow;obtain ⟨g2,hl2,h3,h4⟩:=freezeTs r g1 s h1;exact⟨g2,hl1.trans hl2,h3,Sl.mono h2 hl2,h4⟩
theorem SC.freezeTs {P:Program}{N:Nat}{E:World}{c:Code}{Q:Exit→Act→World→Prop}{f:Fr}{g:PH}{s:Own}{ts:Rws}(h:∀ g',Le g g'→aG (bM g') (ts.map Prod.snd) (ts.map Prod.fst)→SC P N E c Q f g' s):SC P N E c Q f g (ef ts++s):=fun a w ha hw=>by
 obtain ⟨g',h1,h2,h3⟩:=Go.Proofs.YtkbagdedfdfjhaaGreatDoor.freezeTs ts g s hw;exact h g' h1 h3 a w ha h2
theorem EP {ts:Rws}{j:Nat}{v:Sv}{l:List Int}(h:ts[j]?=some (v,l)){hd:Own}(s:Own){x:Ent}(hh:hd.length=2):((hd++(ef ts++s)).set (j+2) x)[j+2]?=some x:=by
 have hj:=(ze9.1 h).1;rw[List.getElem?_set_self];simp only[zd9,ef,ze1];omega
def TIn (ts:Rws)(x:Int):Prop:=∃ t∈ts,x∈t.2
theorem TIn.set {ts:Rws}{j:Nat}{v v':Sv}{l:List Int}(h:ts[j]?=some (v,l))(x:Int){y:Int}(hy:TIn ts y):TIn (ts.set j (v',l++[x])) y:=by
 obtain ⟨t,ht,h2⟩:=hy;have hj:=(ze9.1 h).1;obtain ⟨i,hi,e⟩:=List.mem_iff_getElem.1 ht;by_cases e2:j=i
 ·subst e2;refine⟨(v',l++[x]),List.mem_set hj _,?_⟩;obtain ⟨_,e3⟩:=ze9.1 h;rw[← e,e3] at h2;simp only[ze7];exact .inl h2
 ·refine⟨t,?_,h2⟩;have:(ts.set j (v',l++[x]))[i]?=some t:=by rw[List.getElem?_set_ne e2,gE hi,e]
  exact zf6 this
theorem TIn.new {ts:Rws}{j:Nat}{v v':Sv}{l:List Int}(h:ts[j]?=some (v,l))(x:Int):TIn (ts.set j (v',l++[x])) x :=
 ⟨(v',l++[x]),List.mem_set (ze9.1 h).1 _,by simp⟩
structure TOk (l:List Cl)(T:List (List Int)):Prop where
 pos:1≤T.length
 few:T.length≤4
 few3:l.length>12→T.length≤3
 mem:∀ t∈T,∀ x∈t,x∈iH l
 len:∀ t∈T,t.length≤4 * (iH l).length
 cov:∀ x∈iH l,∃ t∈T,x∈t
theorem FN {k n:Nat}(hk:k<n)(hn:n≤4):IntKind.i64.wrap (1 * 2 ^ min ((k:Nat):Int).toNat IntKind.i64.bits)=((2 ^ k:Nat):Int):=by
 have key:∀ k,k<5→IntKind.i64.wrap (1 * 2 ^ min ((k:Nat):Int).toNat IntKind.i64.bits)=((2 ^ k:Nat):Int):=by decide +kernel
 exact key k oM
theorem DN {n:Nat}(hn:n≤4):IntKind.i64.wrap (1 * 2 ^ min ((n:Nat):Int).toNat IntKind.i64.bits)=((2 ^ n:Nat):Int):=by
 have key:∀ k,k<5→IntKind.i64.wrap (1 * 2 ^ min ((k:Nat):Int).toNat IntKind.i64.bits)=((2 ^ k:Nat):Int):=by decide +kernel
 exact key n oM
theorem FO {M k:Nat}(hM:M<16)(hk:k<4):IntKind.i64.wrap (BitVec.ofInt IntKind.i64.bits (((M:Nat):Int).fdiv (2 ^ min ((k:Nat):Int).toNat IntKind.i64.bits)) &&& BitVec.ofInt IntKind.i64.bits 1).toNat=if M.testBit k then 1 else 0:=by
 have key:∀ M,M<16→∀ k,k<4→IntKind.i64.wrap (BitVec.ofInt IntKind.i64.bits (((M:Nat):Int).fdiv (2 ^ min ((k:Nat):Int).toNat IntKind.i64.bits)) &&& BitVec.ofInt IntKind.i64.bits 1).toNat=if M.testBit k then 1 else 0:=by decide +kernel
 exact key M hM k hk
theorem DM {M n:Nat}(h0:1≤M)(h1:M<2 ^ n)(hn:n≤4):∃ k,k<n∧M.testBit k=true:=by
 have key:∀ n,n<5→∀ M,M<2 ^ n→1≤M→∃ k,k<n∧M.testBit k=true:=by decide +kernel
 exact key n oM M h1 h0
theorem C0 {n:Nat}(hn:n≤4)(h0:1≤n):2≤2 ^ n∧2 ^ n≤16:=by
 have key:∀ n,n<5→1≤n→2≤2 ^ n∧2 ^ n≤16:=by decide
 exact key n oM h0
theorem x5 (E:World)(g:PH)(s:Own)(v nv:Value)(l:List Cl)(sd:Int)(ns:List Int)(hv:aq g v l)(hf:dj l)(hl:(ae l).length≤1000)(hn:bJ g nv ns) :
  Ctr Tryz.prog E 10 #[.agg #[v],vi sd,nv] g s (fun r g' s'=>s=s'∧Le g g'∧∃ T,aH g' r T∧TOk l T):=by
 obtain ⟨vp,vc,rfl⟩:=hv.form;obtain ⟨np,nc,rfl⟩:=za2 hn;have hll:=hf.1;have hm4:=aV sd 4 dC dC;have hm3:=aV sd 3 dC dC;have htl:(iH l).length≤1000:=by
  unfold iH;rw[ze1];exact zk2 (zc2 _ _) hl
 refine za9 (args:=[.agg #[.slice vp l.length vc],vi sd,.slice np ns.length nc]) func10 I ntmps10 (bE I) ?_;refine rZ (bW (bO I) fun b3=>?_);refine aT I (sW I (lW (cL kT8 I (aW E g _ sd 4 dC)) ?_));rintro _ _ _ ⟨rfl,rfl,rfl⟩;refine yD I (aT I ?_);refine SC.cut (ι:=Nat) (fun n=>[(2,.slice np ns.length nc),(3,pp b3 0),(7,vi n)]) (fun _=>g) (fun _=>pt b3 (.cells #[.slice vp l.length vc] 30 (0,0))::s) (fun n=>1≤n∧n≤4∧(l.length>12→n≤3)) ?_ ?_
 ·refine rZ (lU (fA e8 I dX I) (lK (qL (v:=.slice vp l.length vc) gV I (cO 0 I I)) (lU (eN aR I) (lU (gR I I) (tZ ?_)))));refine iP I (fun h12=>?_) (fun h12=>?_)
  ·refine rG (lM I (lW (cL kT8 I (aW E g _ sd 3 dC)) ?_));rintro _ _ _ ⟨rfl,rfl,rfl⟩;refine lU (SU.eq (v':=vi (1+(bF sd 3).toNat:Nat)) (aD I I oM) (zd6 vi oM)) (lA I (nL ?_));exact za7 (1+(bF sd 3).toNat) sB I I ⟨oM,oM,fun _=>by omega⟩
  ·refine kP ?_;refine za7 (1+(bF sd 4).toNat) ⟨I,I,?_,trivial⟩ I I ⟨oM,oM,fun h=>by omega⟩;show some (vi (1+bF sd 4))=_;exact zd6 (fun x=>some (vi x)) oM
 rintro n ⟨hn1,hn4,hn3⟩;have hpw:=C0 hn4 hn1;refine sW I (lW (mK encSv ⟨none,0,0⟩ sty22 I I I oM oM) ?_);rintro _ _ _ ⟨bt,rfl,rfl,rfl⟩;refine aT I (rZ (lK (qV 1 br az I I I) (lW (cL call25 I (ug E g _ _ l hv hf)) ?_)));rintro _ g1 _ ⟨rfl,hle1,hA⟩;obtain ⟨ap,ac,rfl⟩:=za2 hA;refine aT I (sQ (rZ (aT I (bK ?_))));have hTok:∀ ts:Rws,ts.length=n→(∀ t∈ts,t.2.length≤4 * (iH l).length∧∀ x∈t.2,x∈iH l)→(∀ j<(iH l).length,∀ x,(iH l)[j]?=some x→TIn ts x)→TOk l (ts.map Prod.snd):=fun ts h1 h2 h3=>⟨by rw[ze1]; omega,by rw[ze1]; omega,fun h=>by rw[ze1]; have:=hn3 h; omega,fun t ht=>by
  obtain ⟨u,hu,rfl⟩:=ze6.1 ht;exact (h2 u hu).2,fun t ht=>by
  obtain ⟨u,hu,rfl⟩:=ze6.1 ht;exact (h2 u hu).1,fun x hx=>by
  obtain ⟨j,hj,e⟩:=List.mem_iff_getElem.1 hx;obtain ⟨t,ht,hxt⟩:=h3 j hj x (by rw[gE hj,e]);exact⟨t.2,ze6.2 ⟨t,ht,I⟩,hxt⟩⟩
 generalize iH l=A at *;refine SC.to (fun w hw=>pY [rowA encSv 25 (.slice (some ⟨bt,0,none⟩) n n) (List.replicate n ⟨none,0,0⟩),pt b3 (.cells #[.slice vp l.length vc] 30 (0,0))] n s hw) ?_;refine oP (ι:=Nat×Rws) (fun z=>[(2,.slice np ns.length nc),(7,vi n),(8,.slice (some ⟨bt,0,none⟩) n n),(9,.slice ap A.length ac),(10,vi z.1)]) (fun _=>g1) (fun z=>rowA encSv 25 (.slice (some ⟨bt,0,none⟩) n n) (z.2.map Prod.fst)::pt b3 (.cells #[.slice vp l.length vc] 30 (0,0))::(ef z.2++s)) (fun z=>z.1≤A.length∧z.2.length=n∧(∀ t∈z.2,t.2.length≤4 * z.1∧∀ x∈t.2,x∈A)∧∀ j<z.1,∀ x,A[j]?=some x→TIn z.2 x) (fun z=>A.length - z.1) (0,List.replicate n (⟨none,0,0⟩,[])) sB I (by dsimp only; rw[List.map_replicate]; rfl) ⟨zf1 _,by dsimp only; rw[List.length_replicate],fun t ht=>by rw[(List.mem_replicate.1 ht).2]; exact⟨zf1 _,by simp⟩,fun j hj=>absurd hj (Nat.not_lt_zero j)⟩ ?_;rintro ⟨i,ts⟩ ⟨hi,htn,htm,htc⟩;dsimp only at hi htn htm htc ⊢;refine sQ (sW I (lM I (lU (eN ak I) (yL I (tZ ?_)))));refine iP I (fun hlt=>?_) (fun hlt=>?_)
 ·have hiA:i<A.length:=oM;have hgi:A[((i:Nat):Int).toNat]?=some A[i]:=gE hiA;have hgi0:A[i]?=some A[i]:=gE hiA;have hAm:A[i]∈A:=gM hiA;have hbA:=za4 hA oM;generalize A[i]=x at *;have hk:i % n<n:=Nat.mod_lt _ oM;have hrem:((i:Nat):Int).tmod ((n:Nat):Int)=((i % n:Nat):Int):=(Int.ofNat_tmod i n).symm;refine kP (tN (sQ (bK (sW I (lM I (lU (SU.eq (v':=vi (i % n:Nat)) (zd3 I I oM) (zd6 vi hrem)) (lU (SU.eq (v':=vi (2 ^ (i % n):Nat)) (SU.shl I I oM) (zd6 vi (FN hk hn4))) (aT I ?_))))))));refine SC.cut (ι:=Int) (fun m=>[(2,.slice np ns.length nc),(7,vi n),(8,.slice (some ⟨bt,0,none⟩) n n),(9,.slice ap A.length ac),(10,vi i),(11,vi m)]) (fun _=>g1) (fun _=>rowA encSv 25 (.slice (some ⟨bt,0,none⟩) n n) (ts.map Prod.fst)::pt b3 (.cells #[.slice vp l.length vc] 30 (0,0))::(ef ts++s)) (fun _=>True) ?_ ?_
  ·refine sW I (lU (eN ak I) (lU (gR I I) (tZ ?_)));refine iP I (fun hns=>?_) (fun hns=>?_)
   ·have hnl:0<ns.length:=oM;have hr2:((i:Nat):Int).tmod ((ns.length:Nat):Int)=((i % ns.length:Nat):Int):=(Int.ofNat_tmod i _).symm;have hkl:i % ns.length<ns.length:=Nat.mod_lt _ hnl;have hgn:ns[((i % ns.length:Nat):Int).toNat]?=some ns[i % ns.length]:=gE hkl;have hbn:=za4 hn hnl;refine dW [] [(0,2),(1,2),(2,2),(3,2),(4,2),(5,2),(6,1),(7,2),(8,2),(9,2),(10,2),(11,2),(12,2)] zd7 kR ?_;refine yM I (yM I (yM I (pU I (eN ak I) (pU I (SU.eq (v':=vi (i % ns.length:Nat)) (zd3 I I oM) (zd6 vi hr2)) (pU I (iA ak zT3 I I hbn oM (show ((i % ns.length:Nat):Int)<((ns.length:Nat):Int) by omega)) ?_)))));refine pK I (eB iT3 I (za5 (za3 hn hle1)) hgn I) (yM I (yM I (pU I (eN ak I) (pU I (SU.quo I I oM) (pU I (zd5 I I) (pU I (aS I) (pN ?_)))))));exact za7 _ sB I I trivial
   ·refine kP ?_;exact za7 _ sB I I trivial
  rintro m -;have hmr:=aV m (2 ^ n:Nat) oM oM;refine sW I (lM I (lU (SU.eq (v':=vi (2 ^ n:Nat)) (SU.shl I I oM) (zd6 vi (DN hn4))) (lW (cL kT8 I (aW E g1 _ m (2 ^ n:Nat) oM)) ?_)));rintro _ _ _ ⟨rfl,rfl,rfl⟩;refine aT I ?_;refine SC.cut (ι:=Nat) (fun M=>[(2,.slice np ns.length nc),(7,vi n),(8,.slice (some ⟨bt,0,none⟩) n n),(9,.slice ap A.length ac),(10,vi i),(11,vi M)]) (fun _=>g1) (fun _=>rowA encSv 25 (.slice (some ⟨bt,0,none⟩) n n) (ts.map Prod.fst)::pt b3 (.cells #[.slice vp l.length vc] 30 (0,0))::(ef ts++s)) (fun M=>1≤M∧M<2 ^ n) ?_ ?_
  ·refine sW I (yE I (tZ ?_));refine iP I (fun hz=>?_) (fun hz=>?_)
   ·refine rG (lA I (nL ?_));exact za7 1 sB I I ⟨oM,oM⟩
   ·refine kP ?_;refine za7 (bF m (2 ^ n:Nat)).toNat ⟨I,I,I,I,I,?_,trivial⟩ I I ⟨oM,oM⟩;show some (vi (bF m (2 ^ n:Nat)))=_;exact zd6 (fun x=>some (vi x)) oM
  rintro M ⟨hM1,hM2⟩;refine rZ (aT I (bK ?_));refine oP (ι:=Nat×Rws) (fun z=>[(2,.slice np ns.length nc),(7,vi n),(8,.slice (some ⟨bt,0,none⟩) n n),(9,.slice ap A.length ac),(10,vi i),(11,vi M),(12,vi z.1)]) (fun _=>g1) (fun z=>rowA encSv 25 (.slice (some ⟨bt,0,none⟩) n n) (z.2.map Prod.fst)::pt b3 (.cells #[.slice vp l.length vc] 30 (0,0))::(ef z.2++s)) (fun z=>z.1≤n∧z.2.length=n∧(∀ t∈z.2,t.2.length≤4 * i+z.1∧∀ x∈t.2,x∈A)∧(∀ j<i,∀ x,A[j]?=some x→TIn z.2 x)∧∀ b<z.1,M.testBit b=true→TIn z.2 x) (fun z=>n - z.1) (0,ts) sB I I ⟨zf1 _,htn,fun t ht=>⟨(htm t ht).1,(htm t ht).2⟩,htc,fun b hb=>absurd hb (Nat.not_lt_zero b)⟩ ?_;clear htn htm htc;rintro ⟨k,us⟩ ⟨hk2,hun,hum,huc,hub⟩;dsimp only at hk2 hun hum huc hub ⊢;refine sQ (sW I (lM I (yL I (tZ ?_))));refine iP I (fun hlt2=>?_) (fun hlt2=>?_)
  ·have hkn:k<n:=oM;have hand:=FO (M:=M) (k:=k) oM oM;refine kP (tN (sQ (bK (sW I (lM I (lU (SU.shr I I oM) (lU (SU.eq (v':=vi (if M.testBit k then 1 else 0)) (SU.and I I) (zd6 vi hand)) (yE I (tZ ?_)))))))));refine iP I (fun hbit=>?_) (fun hbit=>?_)
   ·have htb:M.testBit k=true:=by
     cases h:M.testBit k with
     | true=>rfl
     | false=>rw[h] at hbit; simp at hbit
    have hku:k<us.length:=oM;have hgk:us[k]?=some us[k]:=gE hku;have hgs:(us.map Prod.fst)[((k:Nat):Int).toNat]?=some us[k].1:=by
     rw[show ((k:Nat):Int).toNat=k from rfl,zh4,hgk];rfl
    have hum1:=hum _ (gM hku);generalize us[k]=u0 at *;obtain ⟨sv,lu⟩:=u0;dsimp only at hgs hum1;refine SC.drawT 2 [13] [(0,2),(1,2),(2,2),(3,2),(4,2),(5,1),(6,2),(7,2),(8,2),(9,1),(10,0),(11,0),(12,2),(13,0)] zd7 kR ?_;refine yM rfl (yM rfl (yM rfl (yM rfl (pU rfl (iA bD cf rfl rfl rfl oM sL) (pK rfl (eB (u:=.slice sv.p sv.n sv.c) dw rfl (zb5 (e:=encSv) 0 rfl) hgs rfl) (yM rfl (yM rfl (pU rfl (iA ak zT3 rfl rfl hbA oM sL) (pK rfl (eB iT3 rfl (za5 hA) hgi rfl) (SP.o rfl (bS sty25 rfl rfl rfl (ab ⟨rfl,trivial⟩) dC) dC (.inr (by rintro _ _ _ ⟨b78,rfl,rfl,rfl⟩; exact⟨by exact zb7 _,(by exact .cons _ (List.take_sublist _ _))⟩)) ?_))))))))));rintro _ _ _ ⟨b78,rfl,rfl,rfl⟩;refine SP.o rfl (aP (e:=encInt) (l:=lu) (k+2) x sty25 rfl rfl rfl (ym hgk s) rfl oM oM) dC (.inr (by rintro v79 _ _ ⟨rfl,rfl⟩; exact⟨by exact zb7 _,(by exact eW _ _ _ _)⟩)) ?_;rintro v79 _ _ ⟨rfl,rfl⟩;refine zc8 fun ⟨w0,hw0⟩=>?_;obtain ⟨q79,d79,rfl⟩:=ah (e:=encInt) (l:=lu++[x]) (i:=k+2) hw0 (EP (hd:=[rowA encSv 25 (.slice (some ⟨bt,0,none⟩) n n) (us.map Prod.fst),pt b3 (.cells #[.slice vp l.length vc] 30 (0,0))]) hgk s rfl);clear hw0 w0;refine pU I (SU.eq (v':=.pointer (some ⟨bt,0+k * 1,none⟩)) (iA bD cf I I I oM sL) I) (SP.on I (sT (e:=encSv) (a:=⟨q79,(lu++[x]).length,d79⟩) (j:=k) 0 cf I I I (by rw[ze1]; omega) I) (.inl dC) ?_);rintro _ _ _ ⟨rfl,rfl⟩;refine pN (bN (tN (rG (lM I (yD I (lA I (nL (dR (s':=rowA encSv 25 (.slice (some ⟨bt,0,none⟩) n n) ((us.set k (⟨q79,(lu++[x]).length,d79⟩,lu++[x])).map Prod.fst)::pt b3 (.cells #[.slice vp l.length vc] 30 (0,0))::(ef (us.set k (⟨q79,(lu++[x]).length,d79⟩,lu++[x]))++s)) (by rw[List.map_set,← yl hgk s]; exact .refl _) ?_))))))));exact gA (k+1,(us.set k (⟨q79,(lu++[x]).length,d79⟩,lu++[x]))) sB I I ⟨by dsimp only; omega,by dsimp only; rw[zh7]; exact hun,fun t ht=>by
     dsimp only at ht ⊢
     rcases List.mem_or_eq_of_mem_set ht with h | h
     ·exact⟨by have:=(hum t h).1; omega,(hum t h).2⟩
     ·subst h;refine⟨by dsimp only; rw[zd9,ze2]; omega,fun y hy=>?_⟩
      rcases ze7.1 hy with h | h
      ·exact hum1.2 y h
      ·rw[zh2.1 h]; exact hAm,fun j hj y hy=>TIn.set hgk x (huc j hj y hy),fun b hb hb2=>TIn.new hgk x⟩ (by dsimp only; omega)
   ·have htb:M.testBit k=false:=by
     cases h:M.testBit k with
     | false=>rfl
     | true=>rw[h] at hbit; simp at hbit
    refine kP (bN (tN (rG (lM I (yD I (lA I (nL ?_)))))));exact gA (k+1,us) sB I I ⟨by dsimp only; omega,hun,fun t ht=>⟨by have:=(hum t ht).1; dsimp only; omega,(hum t ht).2⟩,huc,fun b hb hb2=>by
     dsimp only at hb;by_cases e:b=k
     ·rw[e,htb] at hb2; cases hb2
     ·exact hub b oM hb2⟩ (by dsimp only; omega)
  ·have hke:k=n:=oM;subst hke;obtain ⟨b,hb1,hb2⟩:=DM hM1 hM2 hn4;have hx:=hub b hb1 hb2;refine xI (tX (tX (bX (bN (tN (rG (lM I (yD I (lA I (nL ?_))))))))));exact gA (i+1,us) sB I I ⟨by dsimp only; omega,hun,fun t ht=>⟨by have:=(hum t ht).1; dsimp only; omega,(hum t ht).2⟩,fun j hj y hy=>by
    dsimp only at hj;by_cases e:j=i
    ·subst e;rw[hgi0] at hy;injection hy with hy
     rw[← hy];exact hx
    ·exact huc j oM y hy⟩ (by dsimp only; omega)
 ·have hie:i=A.length:=oM;subst hie;have hok:=hTok ts htn htm htc;have hsl:(ts.map Prod.fst).length=n:=by rw[ze1]; exact htn
  refine fS fun g2 hle2 hs2=>?_;refine SC.drop (.cons _ (.refl _)) (SC.freezeTs fun g3 hle3 hall=>?_);refine xI (tX (tX (bX (tN (sW I (aT I (rE ?_)))))));exact za6 (.inl I) results10 I ⟨I,hle1.trans (hle2.trans hle3),ts.map Prod.snd,⟨ts.map Prod.fst,Sl.mono hs2 hle3,hall⟩,hok⟩
theorem ib {l:List Cl}{d:Int}(h:∀ c∈l,c.dim≤d):∀ c∈aa l,c.dim≤d:=fun c hc=>by
 obtain ⟨x,hx,rfl⟩:=ze6.1 hc;exact h x ((cW _ _).1 hx)
theorem CO (x:List Int):(bI x).length≤x.length:=by
 unfold bI;exact zk2 (iL _ _) (by rw[eX]; exact lR _)
theorem j6 {n:Nat}:∀ {ls all out:List (List Int)},(∀ x∈all,x.length≤n)→(∀ x∈ls,x.length≤n)→aB all ls=some out→∀ x∈out,x.length≤n
 | [],all,out,h1,_,h=>by
  simp only[aB,zg2] at h;subst h;exact h1
 | s::r,all,out,h1,h2,h=>by
  have hr:∀ x∈r,x.length≤n:=fun x hx=>h2 x (by simp[hx]);unfold aB at h;split at h
  ·exact j6 h1 hr h
  ·split at h
   ·cases h
   ·refine j6 (fun x hx=>?_) hr h
    rcases (fZ _ _ _).1 hx with k | k
    ·exact h1 x k
    ·have k1:=((gv _ _).1 k).1.length_le;have k2:=CO s;have k3:=h2 s (by simp);omega
theorem fN {ls:List (List Int)}{n:Nat}(h:∀ x∈ls,x.length≤n):∀ c∈bC ls,c.dim≤(n:Int) - 1:=by
 unfold bC;cases hs:aB [] ls with
 | none=>intro c hc; cases hc
 | some all =>
  refine ib fun c hc=>?_;obtain ⟨p,hp,rfl⟩:=ze6.1 hc;have:=j6 (n:=n) (by simp) h hs p.1 (List.fst_mem_of_mem_zipIdx hp);show (p.1.length:Int) - 1≤_;omega
theorem gx {a b:List Cl}{m n:Int}(ha:∀ c∈a,c.dim≤m)(hb:∀ c∈b,c.dim≤n):∀ c∈bA a b,c.dim≤m+n:=by
 unfold bA;split
 ·intro c hc; cases hc
 ·split
  ·refine ib fun c hc=>?_;obtain ⟨x,hx,hc⟩:=List.mem_flatMap.1 hc;obtain ⟨z,hz,rfl⟩:=ze6.1 hc;have h1:=ib ha x hx;have h2:=ib hb z hz;show x.dim+z.dim≤_;omega
  ·intro c hc; cases hc
theorem Bg (n:Nat):∀ c∈tO n,c.dim≤2:=by
 refine ib fun c hc=>?_;unfold dH at hc
 rcases ze7.1 hc with hc | hc
 ·rcases ze7.1 hc with hc | hc
  ·rcases ze7.1 hc with hc | hc
   ·obtain ⟨i,-,rfl⟩:=ze6.1 hc;exact (by decide:(0:Int)≤2)
   ·obtain ⟨i,-,rfl⟩:=ze6.1 hc;exact (by decide:(1:Int)≤2)
  ·rw[zh2.1 hc];exact Int.le_refl _
 ·split at hc
  ·rw[zh2.1 hc];exact Int.le_refl _
  ·cases hc
theorem wO (ls:List (List Int)):∀ x∈mh ls,x.length≤4:=fun x hx=>by
 obtain ⟨l,-,rfl⟩:=ze6.1 hx;rw[ze1,zd8];omega
theorem B8 (m:Int)(ls:List (List Int))(y:Int):∀ c∈nD m ls y,c.dim≤3:=by
 have up:∀ {l:List Cl} {d:Int},(∀ c∈l,c.dim≤d)→d≤3→∀ c∈l,c.dim≤3:=fun h1 h2 c hc=>by
  have:=h1 c hc;omega
 have hsf:=(pT y).2.2;have e1:∀ c∈bC [[0,1]],c.dim≤((2:Nat):Int) - 1:=fN dC;unfold nD;split
 ·exact up (fN hsf) dC
 ·split
  ·exact up (gx (fN (eG _).2) (fN (eG _).2)) dC
  ·split
   ·exact up (Bg _) dC
   ·split
    ·exact up (gx (gx e1 e1) e1) dC
    ·split
     ·refine up (fN (n:=4) fun x hx=>?_) dC
      rcases ze7.1 hx with h | h
      ·exact wO ls x h
      ·have:=hsf x (List.mem_of_mem_take h);omega
     ·exact up (fN (wO ls)) dC
theorem s4 (kd:Int)(ls:List (List Int))(y:Int):∀ c∈jO kd ls y,c.dim≤3:=fun c hc=>by
 obtain ⟨a,ha,rfl⟩:=nr (EA y) hc;show a.dim≤3;unfold pO at ha;split at ha
 ·have e1:∀ c∈bC [[0,1],[1,2],[0,2]],c.dim≤((2:Nat):Int) - 1:=fN dC;have:=gx e1 e1 a ha;omega
 ·exact B8 _ _ _ a ha
theorem ye (kd:Int)(ls:List (List Int))(y:Int):∀ c∈i5 kd ls y,c.dim≤3:=by
 unfold i5;split
 ·rw[F4];decide
 ·unfold fe;split
  ·exact s4 _ _ _
  ·exact s4 _ _ _
theorem sO {l:List Cl}(h:Rt l){c:Cl}(hc:c∈l):c.sides.length≤l.length:=by
 have hf:=h.form c hc;have hn:(c.sides.map ai.cell).Nodup:=by
  rw[List.Nodup,zj6];exact hf.asc.imp fun h=>by omega
 have:=mT (m:=l.map Cl.id) hn fun x hx=>by
  obtain ⟨q,hq,rfl⟩:=ze6.1 hx;obtain ⟨d,hd,-⟩:=hf.found q hq;obtain ⟨h1,h2⟩:=ce hd;exact ze6.2 ⟨d,h1,h2⟩
 rwa [ze1,ze1] at this
theorem uz (L:List Cl)(id:Int):∀ (T:List (List Int)) (k:Nat),(∃ t∈T,id∈eu L t)→tlB L k T id≠0
 | [],_,h=>by obtain ⟨t,ht,_⟩:=h; cases ht
 | t::T,k,h=>by
  unfold tlB;by_cases e:id∈eu L t
  ·rw[zf5 (by simpa using e)];have:=Nat.two_pow_pos k;omega
  ·have:tlB L (k+1) T id≠0:=uz L id T (k+1) (by
    obtain ⟨u,hu,h2⟩:=h
    rcases ze5.1 hu with rfl | hu
    ·exact absurd h2 e
    ·exact⟨u,hu,h2⟩)
   omega
theorem zT {l:List Cl}(h:Rt l){T:List (List Int)}(hT:TOk l T):∀ k:Nat,∀ c∈l,9≤c.dim+k→∃ t∈T,c.id∈eu l t:=by
 intro k;induction k with
 | zero =>
  intro c hc hk;have:=(h.form c hc).dim.2;omega
 | succ k ih =>
  intro c hc hk;by_cases e:i6 l c.id=true
  ·unfold i6 at e;obtain ⟨d,hd,h2⟩:=zj2.1 e;obtain ⟨x,hx,h3⟩:=zj2.1 h2;have h3:x.cell=c.id:=zf7 h3;obtain ⟨c',hf,hdim⟩:=(h.form d hd).found x hx;rw[h3,h.find hc] at hf;injection hf with hf
   subst hf;obtain ⟨t,ht,hm⟩:=ih d hd oM;refine⟨t,ht,?_⟩;have:=oX h t d hd (by simpa using hm) x hx;rw[h3] at this;simpa using this
  ·have hm:c.id∈iH l:=by
    unfold iH;rw[h.tab];refine ze6.2 ⟨c,zg8.2 ⟨hc,?_⟩,I⟩;simpa using e
   obtain ⟨t,ht,hx⟩:=hT.cov _ hm;refine⟨t,ht,(nO l t c.id).2 ⟨c.id,hx,.refl _ ?_⟩⟩;unfold jT;rw[h.find hc];simp
theorem Cy {l:List Cl}(h:Rt l){T:List (List Int)}(hT:TOk l T):ee l T=0:=by
 have h4:=hT.few;have hf:(T.any fun t=>t.any fun id=>(aM (ae l) id).isNone)=false:=by
  rw[zj7];intro t ht;rw[zj1,zj7];intro x hx;have:=hT.mem t ht x hx;unfold iH at this;obtain ⟨c,hc,rfl⟩:=ze6.1 this;rw[h.tab] at hc ⊢;rw[h.find (zg8.1 hc).1];simp
 have hz:((ae l).any fun c=>decide (tlB (ae l) 0 T c.id=0))=false:=by
  rw[h.tab,zj7];intro c hc;have hd:=(h.form c hc).dim;obtain ⟨t,ht,hm⟩:=zT h hT (9 - c.dim).toNat c hc oM;have:=uz l c.id T 0 ⟨t,ht,hm⟩;simpa using this
 unfold ee;rw[h.check,zf4 (by simp),zf4 oM,hf,zf4 (by simp),hz,zf4 (by simp)]
theorem CF (n b:Nat)(hn:n≤4)(hb:b<2 ^ n):(aJ b).length≤2 ^ n - 1:=by
 have key:∀ n,n<5→∀ b,b<2 ^ n→(aJ b).length≤2 ^ n - 1:=by decide +kernel
 exact key n oM b hb
theorem xz {α β:Type}{f:α→List β}{m:Nat}:∀ {q:List α},(∀ x∈q,(f x).length≤m)→(q.flatMap f).length≤q.length * m
 | [],_=>by simp
 | x::q,h=>by
  have h1:=h x (by simp);have h2:=xz (q:=q) fun z hz=>h z (by simp[hz]);rw[zg9,zd9,ze3,Nat.succ_mul];omega
structure Sm3 (l:List Cl):Prop extends Sml l where
 dims:∀ c∈l,c.dim≤3
theorem AZ (kd:Int)(ls:List (List Int))(y:Int):Sm3 (i5 kd ls y):=⟨AY kd ls y,ye kd ls y⟩
theorem DH {l:List Cl}(h:Sm3 l){T:List (List Int)}(hT:TOk l T):(cI l T).length≤200:=by
 have h1:(cI l T).length=(pu l T).length:=ao _;have h2:(pu l T).length≤l.zipIdx.length * (2 ^ T.length - 1):=xz fun q _=>by
  rw[ze1];exact CF _ _ hT.few (qE l q.1.id T)
 rw[List.length_zipIdx] at h2;have h3:=h.few;have h4:=hT.few;have h5:=hT.few3;have h6:=hT.pos;rw[h1];refine zk2 h2 ?_;by_cases e:l.length>12
 ·have h7:=h5 e
  rcases (by omega:T.length=1∨T.length=2∨T.length=3) with k | k | k <;> rw[k] <;> omega
 ·rcases (by omega:T.length=1∨T.length=2∨T.length=3∨T.length=4) with k | k | k | k <;> rw[k] <;> omega
theorem E2 {l:List Cl}(h:Sm3 l){T:List (List Int)}(hT:TOk l T):Cov l (tlB l 0 T) T.length :=
 tj h.rt hT.few (by have:=h.few; omega) (fun c hc=>by have:=h.dims c hc; omega) fun c hc=>by have:=sO h.rt hc; have:=h.few; omega
theorem sA {l:List Cl}(h:Sm3 l){T:List (List Int)}(hT:TOk l T){p:Int}(hp:fV p=true):cD l T p=0:=by
 have hr:Rt (cI l T):=y9 h.rt hT.few (by have:=h.few; omega) (fun c hc=>by have:=h.dims c hc; omega) fun c hc=>by have:=sO h.rt hc; have:=h.few; omega
 have hm:rL (cI l T)=false:=Ao fun d=>zk2 (zc2 _ _) (DH h hT);unfold cD;rw[zf4 (by rw[hp]; simp),Cy h.rt hT,zf4 (by simp),h.rt.tab,hr.check,hm,zf4 (by simp)]
theorem uF:∀ (q:List Cl) (m:Int),m≤o9 q m∧∀ c∈q,c.dim≤o9 q m
 | [],m=>⟨Int.le_refl _,by simp⟩
 | c::q,m=>by
  obtain ⟨h1,h2⟩:=uF q (max m c.dim);have e:o9 (c::q) m=o9 q (max m c.dim):=rfl;rw[e];refine⟨oM,fun d hd=>?_⟩
  rcases ze5.1 hd with rfl | hd
  ·omega
  ·exact h2 d hd
theorem GA {l:List Cl}(h:Rt l):∀ c∈l,c.dim<((dimN l:Nat):Int):=fun c hc=>by
 have h1:=(uF (ae l) (-1)).2 c (by rw[h.tab]; exact hc);unfold dimN;omega
def pgN (f:Nat→Nat→Nat→Int)(n D k:Nat):List (List Int):=(List.range n).map fun a=>(List.range D).map fun b=>f k a b
structure Nums (P:List (List (List Int)))(n D:Nat)(e:Int)(f:Nat→Nat→Nat→Int):Prop where
 few:P.length≤n
 n4:n≤4
 d9:D≤9
 page:∀ k,k<P.length→P[k]?=some (pgN f n D k)
 pos:∀ k a b,a<n→0≤f k a b
 less:∀ k a b,a<n→f (k+1) a b≤f k a b
 bd:∀ k a b,(f k a b).natAbs≤800
 sum:∀ k,k<n→(aw (List.range n) fun a=>aw (List.range D) fun b=>f k a b * sgP ((a:Int)+b))=e
def eT (X:List Cl)(d:Int):List Cl:=X.filter fun c=>decide (c.dim=d)
theorem mW {X:List Cl}{d:Int}{c:Cl}:c∈eT X d↔c∈X∧c.dim=d:=by
 unfold eT;rw[zg8,zi8]
noncomputable def rkD (p:Int) (X:List Cl) (d:Int):Nat:=rkP p (eT X d) (eT X (d - 1))
noncomputable def ph (p:Int) (X:List Cl) (d:Int):Int:=(eT X d).length - (rkD p X d:Int) - (rkD p X (d+1):Int)
section
variable {p:Int}(hp:Fld p){n:Nat}{B:List Cl}(hdeg:∀ c∈B,0≤e9 n c.id∧e9 n c.id≤(n:Int) - 1)
include hdeg
theorem wL (d:Int):cG (rkP p) n B ((n:Int) - 1) (-1) d=(eT B d).length - (rkD p B d:Int):=by
 have e1:ko n B ((n:Int) - 1) d=eT B d:=List.filter_congr fun c hc=>by
  have:=hdeg c hc;have h5:e9 n c.id≤(n:Int) - 1:=this.2;simp[h5]
 have e2:mr n B (-1) (d - 1)=eT B (d - 1):=List.filter_congr fun c hc=>by
  have:=hdeg c hc;have h5:e9 n c.id > -1:=oM;simp[h5]
 unfold cG;rw[e1,e2];rfl
include hp
theorem CH (d:Int):cG (rkP p) n B ((n:Int) - 1) ((n:Int) - 1) d=(eT B d).length:=by
 have e1:ko n B ((n:Int) - 1) d=eT B d:=List.filter_congr fun c hc=>by
  have:=hdeg c hc;have h5:e9 n c.id≤(n:Int) - 1:=this.2;simp[h5]
 have e2:mr n B ((n:Int) - 1) (d - 1)=[]:=List.filter_eq_nil_iff.2 fun c hc=>by
  have:=hdeg c hc;simp;omega
 unfold cG;rw[e1,e2,wU hp];omega
theorem E3 (low d:Int):cG (rkP p) n B (-1) low d=0:=by
 have e1:ko n B (-1) d=[]:=List.filter_eq_nil_iff.2 fun c hc=>by
  have:=hdeg c hc;simp;omega
 unfold cG;rw[e1,Fc hp];rfl
theorem Dn (h1:1≤n)(d:Int):(aw (List.range n) fun a=>uB (rkP p) n B n a d - vB (rkP p) n B n a (d+1))=ph p B d:=by
 have key:∀ m:Nat,m≤n→(aw (List.range m) fun a=>uB (rkP p) n B n a d - vB (rkP p) n B n a (d+1))=cG (rkP p) n B ((m:Int) - 1) (-1) d - cG (rkP p) n B ((n:Int) - 1) ((m:Int) - 1) (d+1)+cG (rkP p) n B ((n:Int) - 1) (-1) (d+1):=by
  intro m;induction m with
  | zero =>
   intro _;have h0:=E3 hp hdeg (-1) d;rw[List.range_zero,fj];show 0=cG (rkP p) n B ((0:Int) - 1) (-1) d - cG (rkP p) n B ((n:Int) - 1) ((0:Int) - 1) (d+1)+_;rw[show (0:Int) - 1 = -1 by omega,h0];omega
  | succ m ih =>
   intro hm;rw[AV,ih oM];unfold uB vB;rw[show max ((m:Int) - (n:Int)) (-1) = -1 by omega,show min ((m:Int)+(n:Int) - 1) ((n:Int) - 1)=(n:Int) - 1 by omega,show ((m+1:Nat):Int) - 1=(m:Int) by omega];omega
 rw[key n (lR _),wL hdeg,wL hdeg,CH hp hdeg];unfold ph;omega
end
theorem pS {α:Type}[DecidableEq α]:∀ (l:List α),(jN l).head?=l.head?
 | []=>rfl
 | [_]=>rfl
 | a::b::l=>by
  unfold jN;split
  ·rename_i e;rw[pS (b::l),e];rfl
  ·rfl
theorem x2 {α:Type}[DecidableEq α](l:List α):(iG l).getLast?=l.getLast?:=by
 unfold iG;rw[List.getLast?_reverse,pS,List.head?_reverse]
theorem yK {l:List Cl}{T:List (List Int)}{p:Int}(h:cD l T p=0)(h1:1≤T.length):(cq l T p).getLastD []=tP (rkP p) T.length (cI (ae l) T) (dimN l) (T.length:Int):=by
 have ho:=jo h;rw[ho.eq,List.getLastD_eq_getLast?,x2];unfold jD;rw[List.getLast?_eq_getElem?,ze1,zh8,zh4,List.getElem?_range oM];show tP _ _ _ _ (((T.length - 1:Nat):Int)+1)=_;rw[show (((T.length - 1:Nat):Int)+1)=(T.length:Int) by omega]
theorem tB (n D:Nat)(f:Nat→Nat→Int)(d:Nat):∀ m:Nat,rP ((List.range m).map fun a=>(List.range D).map fun b=>f a b) d=aw (List.range m) fun a=>if a≤d then (if d - a<D then f a (d - a) else 0) else 0
 | 0=>rfl
 | m+1=>by
  rw[List.range_succ,zf9,List.map_singleton,jj,tB n D f d m,fk,ze1,zh8];have e:aw [m] (fun a=>if a≤d then (if d - a<D then f a (d - a) else 0) else 0)=if m≤d then (if d - m<D then f m (d - m) else 0) else 0:=by simp[aw]
  rw[e];congr 1;split
  ·rw[zg5,zh4];split
   ·rename_i h2;rw[List.getElem?_range h2];rfl
   ·rename_i h2;rw[List.getElem?_eq_none (by rw[zh8]; omega)];rfl
  ·rfl
theorem zi {l:List Cl}{T:List (List Int)}{p:Int}(h:cD l T p=0)(h1:1≤T.length)(hdeg:∀ c∈cI (ae l) T,0≤e9 T.length c.id∧e9 T.length c.id≤(T.length:Int) - 1)(hdim:∀ c∈cI (ae l) T,0≤c.dim - e9 T.length c.id)(d:Nat)(hd:d<dimN l) :
  rP ((cq l T p).getLastD []) d=ph p (cI (ae l) T) d:=by
 have ho:=jo h;rw[yK h h1,← Dn ho.fp.fld hdeg h1 d];unfold tP;rw[tB T.length];refine ag fun a ha=>?_;have ha:=List.mem_range.1 ha;split
 ·rename_i hle;rw[zf5 oM,Gt _ _ _ oM oM oM];rw[show ((a:Int)+((d - a:Nat):Int))=(d:Int) by omega]
 ·rename_i hle;have:=EO (rf:=rkP p) (n:=T.length) (B:=cI (ae l) T) (a:=(a:Int)) (d:=(d:Int)) (T.length:Int) fun c hc k=>by
   have:=hdim c hc;omega
  rw[this.1,this.2];rfl
section
variable {L:List Cl}{f:Int→Nat}{n:Nat}(h:Cov L f n)
include h
theorem Cov.ent {d:Cl}(hd:d∈L){u:Nat}(hu:u∈aJ (f d.id)){e:Cl}(he:e∈L){t:Nat}(ht:t∈aJ (f e.id)) :
  di (ay (be L n (ixB L d.id) d u)) (ay (be L n (ixB L e.id) e t))=(if t=u then di d e else 0)+(if e=d then iB u t d.dim else 0):=by
 have h1:=h.inner hd hu he ht 1;unfold Go.Proofs.YtkbagdedfdfjhaaGreatDoor.inner am at h1;rw[h.find hd hu] at h1;rw[Int.one_mul] at h1;rw[← h1];unfold di;show _=((ay (be L n (ixB L d.id) d u)).sides.map fun q=>if q.cell=bId n (ixB L e.id) t then 1 * q.sign else 0).sum;congr 1;refine zc5 fun q _=>?_;rw[Int.one_mul];rfl
end
theorem Ae {p:Int}(hp:Fld p){α β α' β':Type}(R:List α)(C:List β)(g:α→α')(k:β→β')(e:α'→β'→Int)(e':α→β→Int)(he:∀ r∈R,∀ c∈C,e (g r) (k c)=e' r c):rkL p (R.map g) (C.map k) e=rkL p R C e':=by
 unfold rkL;rw[ze1,ze1];refine fl hp fun i hi j hj=>?_;rw[fW (r:=g R[i]) (c:=k C[j]) (by rw[zh4,gE hi]; rfl) (by rw[zh4,gE hj]; rfl),fW (gE hi) (gE hj),he _ (gM hi) _ (gM hj)];exact .refl _
section
variable {L:List Cl}{f:Int→Nat}{n:Nat}(h:Cov L f n)(h1:∀ c∈L,f c.id=1)
include h h1
end
theorem Am {M:Int}:∀ (q:List Cl) (m:Int),m≤M→(∀ c∈q,c.dim≤M)→o9 q m≤M
 | [],m,h,_=>h
 | c::q,m,h,hq=>Am q (max m c.dim) (by have:=hq c (by simp); omega) fun d hd=>hq d (by simp[hd])
def muB (b:Nat):Nat:=if b.testBit 0 then 1 else if b.testBit 1 then 2 else if b.testBit 2 then 4 else 8
def Cq (b:Nat):List Nat:=(aJ b).filter fun s=>decide (s &&& muB b=0)
theorem EL:∀ b,b<16→0<b→muB b∈aJ b∧onesB (muB b)=1:=by decide +kernel
theorem Fv:∀ b,b<16→0<b→((aJ b).isPerm (muB b::(Cq b).flatMap fun s=>[s+muB b,s]))=true:=by decide +kernel
theorem qZ:∀ b,b<16→∀ s∈Cq b,onesB (s+muB b)=onesB s+1∧0<onesB s∧s+muB b<16∧(iB (s+muB b) s 0=1∨iB (s+muB b) s 0 = -1):=by decide +kernel
theorem Gq:∀ b,b<16→∀ s∈Cq b,∀ t∈Cq b,t=s∨(iB (s+muB b) t 0=0∧t≠s+muB b):=by decide +kernel
theorem Fs:∀ b,b<16→∀ s∈aJ b,onesB s=1∨(((aJ b).filter fun t=>decide (onesB t=1)).map fun t=>iB s t 0).sum=0:=by decide +kernel
theorem Gp:∀ s,s<16→onesB s=1→∀ t,t<16→iB s t 0=0:=by decide +kernel
theorem AW:∀ b,b<16→(aJ b).Nodup:=by decide +kernel
theorem sG {α β:Type}(F:α→List β)(g:β→Int):∀ l:List α,((l.flatMap F).map g).sum=(l.map fun a=>((F a).map g).sum).sum
 | []=>rfl
 | a::l=>by rw[zg9,zf9,List.sum_append,zf8,List.sum_cons,sG F g l]
theorem lD {α:Type}[DecidableEq α]{x:α}{g:α→Int}:∀ {l:List α},l.Nodup→(l.map fun t=>if t=x then g t else 0).sum=if x∈l then g x else 0
 | [],_=>rfl
 | a::l,h=>by
  obtain ⟨h1,h2⟩:=zj4.1 h;rw[zf8,List.sum_cons,lD h2];by_cases e:a=x
  ·subst e;rw[zf5 rfl,zf4 h1,zf5 (by simp)];omega
  ·rw[zf4 e,Int.zero_add];by_cases k:x∈l
   ·rw[zf5 k,zf5 (by simp[k])]
   ·rw[zf4 k,zf4 (fun q=>by rcases ze5.1 q with q | q; exact e q.symm; exact k q)]
theorem Dv {α β:Type}(L:List α)(F:α→List β):L.flatMap F=L.zipIdx.flatMap fun q=>F q.1:=by
 conv=>lhs; rw[← List.zipIdx_map_fst 0 L]
 rw[List.flatMap_map]
def ei (L:List Cl)(f:Int→Nat):List (Cl×Nat):=L.flatMap fun c=>(aJ (f c.id)).map fun s=>(c,s)
def dmP (q:Cl×Nat):Int:=q.1.dim+onesB q.2 - 1
def entP (q r:Cl×Nat):Int:=(if r.2=q.2 then di q.1 r.1 else 0)+if r.1=q.1 then iB q.2 r.2 q.1.dim else 0
theorem nN {L:List Cl}{f:Int→Nat}{q:Cl×Nat}:q∈ei L f↔q.1∈L∧q.2∈aJ (f q.1.id):=by
 unfold ei;rw[List.mem_flatMap];constructor
 ·rintro ⟨c,hc,h⟩;obtain ⟨s,hs,rfl⟩:=ze6.1 h;exact⟨hc,hs⟩
 ·rintro ⟨h1,h2⟩;exact⟨q.1,h1,ze6.2 ⟨q.2,h2,I⟩⟩
section
variable {L:List Cl}{f:Int→Nat}{n:Nat}(h:Cov L f n)
include h
theorem Cov.pairs_blow:bg L f n=(ei L f).map fun q=>be L n (ixB L q.1.id) q.1 q.2:=by
 unfold ei;rw[List.map_flatMap];have e:L.flatMap (fun c=>((aJ (f c.id)).map fun s=>(c,s)).map fun q=>be L n (ixB L q.1.id) q.1 q.2)=L.zipIdx.flatMap fun q=>(aJ (f q.1.id)).map (be L n (ixB L q.1.id) q.1):=by
  rw[Dv];congr 1;funext q;rw[zh9];rfl
 rw[e];unfold bg;have key:∀ (l:List (Cl×Nat)),(∀ q∈l,ixB L q.1.id=q.2)→(l.flatMap fun q=>(aJ (f q.1.id)).map (be L n q.2 q.1))=l.flatMap fun q=>(aJ (f q.1.id)).map (be L n (ixB L q.1.id) q.1):=by
  intro l;induction l with
  | nil=>intro _; rfl
  | cons a l ih =>
   intro hl;rw[zg9,zg9,ih fun q hq=>hl q (by simp[hq]),hl a (by simp)]
 exact key _ fun q hq=>h.rt.ix (List.mem_zipIdx_iff_getElem?.1 hq)
theorem Cov.pairs_perm:(aa (bg L f n)).Perm ((ei L f).map fun q=>ay (be L n (ixB L q.1.id) q.1 q.2)):=by
 unfold aa;have:=(fX (key:=Cl.id) (bg L f n)).map ay;refine this.trans ?_;rw[h.pairs_blow,zh9];exact .refl _
theorem Cov.entP {q r:Cl×Nat}(hq:q∈ei L f)(hr:r∈ei L f):di (ay (be L n (ixB L q.1.id) q.1 q.2)) (ay (be L n (ixB L r.1.id) r.1 r.2))=Go.Proofs.YtkbagdedfdfjhaaGreatDoor.entP q r:=by
 obtain ⟨h1,h2⟩:=nN.1 hq;obtain ⟨h3,h4⟩:=nN.1 hr;rw[h.ent h1 h2 h3 h4];rfl
theorem Cov.inB {q:Cl×Nat}(hq:q∈ei L f):ay (be L n (ixB L q.1.id) q.1 q.2)∈aa (bg L f n):=h.pairs_perm.mem_iff.2 (ze6.2 ⟨q,hq,rfl⟩)
theorem Cov.cx (p:Int):Cx p (ei L f) dmP Go.Proofs.YtkbagdedfdfjhaaGreatDoor.entP:=by
 refine⟨?_,fun x hx y hy hne=>?_,fun x hx z hz=>?_⟩
 ·have h1:=h.ids;rw[h.pairs_blow,zh9] at h1;exact List.Pairwise.of_map _ (fun a b hab e=>hab (zd6 _ e)) h1
 ·rw[← h.entP hx hy];exact .of (uH h.right (h.inB hx) (h.inB hy) hne)
 ·have h1:=DA h.right (h.inB hx) (h.inB hz);rw[em (h.pairs_perm.map _),zh9] at h1;refine Eqm.of ((zd6 List.sum (zc5 fun y hy=>?_)).trans h1);show _=di _ _ * di _ _;rw[h.entP hy hz,h.entP hx hy,Int.mul_comm]
theorem Cov.bet_pairs {p:Int}(hp:Fld p)(d:Int):ph p (aa (bg L f n)) d=zH p (ei L f) dmP Go.Proofs.YtkbagdedfdfjhaaGreatDoor.entP d:=by
 have hm:∀ k z,z∈eT (aa (bg L f n)) k↔z∈(grd (ei L f) dmP k).map fun q=>ay (be L n (ixB L q.1.id) q.1 q.2):=fun k z=>by
  rw[mW,h.pairs_perm.mem_iff,ze6,ze6];constructor
  ·rintro ⟨⟨q,hq,rfl⟩,hd⟩;exact⟨q,dp.2 ⟨hq,hd⟩,I⟩
  ·rintro ⟨q,hq,rfl⟩;obtain ⟨h1,h2⟩:=dp.1 hq;exact⟨⟨q,h1,I⟩,h2⟩
 have hr:∀ k,rkD p (aa (bg L f n)) k=rkG p (ei L f) dmP Go.Proofs.YtkbagdedfdfjhaaGreatDoor.entP k:=fun k=>by
  unfold rkD rkP rkG;rw[jQ hp (hm k) (hm (k - 1))];exact Ae hp _ _ _ _ _ _ fun r hr c hc=>h.entP (dp.1 hr).1 (dp.1 hc).1
 have hl:(eT (aa (bg L f n)) d).length=(grd (ei L f) dmP d).length:=by
  unfold eT grd;rw[(h.pairs_perm.filter _).length_eq,List.filter_map,ze1];rfl
 unfold ph zH;rw[hr,hr,hl]
end
end Go.Proofs.YtkbagdedfdfjhaaGreatDoor
