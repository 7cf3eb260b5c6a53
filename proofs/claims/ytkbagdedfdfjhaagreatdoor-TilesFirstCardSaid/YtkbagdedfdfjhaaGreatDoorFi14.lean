/- 14 -/
import Derived.Test.YtkbagdedfdfjhaaGreatDoorFi13
import Derived.Test.YtkbagdedfdfjhaaGreatDoorFi11
import Derived.Test.YtkbagdedfdfjhaaGreatDoorFi09
import Derived.Test.YtkbagdedfdfjhaaGreatDoorFi06
import Derived.Test.YtkbagdedfdfjhaaGreatDoorFi08
import Derived.Test.YtkbagdedfdfjhaaGreatDoorFi07
import Derived.Test.YtkbagdedfdfjhaaGreatDoorFi12
set_option linter.unusedSimpArgs false
set_option linter.unusedVariables false
namespace Go.Proofs.YtkbagdedfdfjhaaGreatDoor
open _root_.Go.Proofs.Tryz _root_.Go.Proofs.YtkbagdedfdfjhaaGreatDoor.Tryz
open Go Go.Sy Go.Pl Go.Proofs
set_option maxRecDepth 100000
set_option maxHeartbeats 4000000
def Pgs (g:PH)(v:Value)(P:List (List (List Int))):Prop:=∃ rs,SlA encSv g v rs∧aB (fun (Q:List (List Int)) (r:Sv)=>aF g (.slice r.p r.n r.c) Q) P rs
theorem Pgs.mono {g g':PH}{v:Value}{P:List (List (List Int))}(h:Pgs g v P)(hl:Le g g'):Pgs g' v P:=by
 obtain ⟨rs,h1,h2⟩:=h;exact⟨rs,za3 h1 hl,h2.mono fun _ _ h=>h.mono hl⟩
theorem Pgs.nil (g:PH):Pgs g (.slice none 0 0) []:=⟨[],zb8 g _,trivial⟩
theorem BH {α:Type}[DecidableEq α]{P:List α}{n:Nat}(h1:1<n)(hn:n≤P.length):gv (P.take n)=if P[n - 1]'oM=P[n - 2]'oM then gv (P.take (n - 1)) else P.take n:=by
 have e1:P.take n=P.take (n - 2)++[P[n - 2]'oM]++[P[n - 1]'oM]:=by
  have a1:=tS (l:=P) (i:=n - 1) oM;have a2:=tS (l:=P) (i:=n - 2) oM;rw[show n - 2+1=n - 1 by omega] at a2;rw[show n - 1+1=n by omega] at a1;rw[a1,a2]
 have e2:P.take (n - 1)=P.take (n - 2)++[P[n - 2]'oM]:=by
  have a2:=tS (l:=P) (i:=n - 2) oM;rwa [show n - 2+1=n - 1 by omega] at a2
 rw[e1,e2];generalize P.take (n - 2)=q;generalize P[n - 2]'oM=a;generalize P[n - 1]'oM=b;unfold gv;rw[List.reverse_append,List.reverse_append];show (j7 (b::a::q.reverse)).reverse=if b=a then (j7 (a::q.reverse)).reverse else q++[a]++[b]
 conv=>lhs; unfold j7
 split
 ·rfl
 ·simp
theorem Ds {α:Type}[DecidableEq α]{P:List α}{n:Nat}(h:¬ 1<n):gv (P.take n)=P.take n:=by
 have hl:(P.take n).length≤1:=by rw[ze1]; omega
 generalize P.take n=q at hl
 match q,hl with
 | [],_=>rfl
 | [a],_=>rfl
theorem Bx {L:List Cl}(hL:Rt L){T:List (List Int)}(hT:T.length≤6):∀ c∈dA L T,c.id<4611686018427387904:=fun z hz=>by
 obtain ⟨d,hd,rfl⟩:=ze8.1 hz;have hd:=(dh _ _).1 hd;rw[vL] at hd;obtain ⟨c,hc,s,hs,rfl⟩:=(oK hL).1 hd;have h1:=sub_le (cW.1 hs).2;have h2:=G0 L c.id hT;have h3:=(zf2.1 (hL.ix_get hc)).1;have h4:=hL.few;have h5:=Fu (i:=ixB L c.id) (s:=s) hT oM oM;show bId T.length (ixB L c.id) s<_;omega
theorem Bq {l:List Cl}(h:(bg l).2=0) : -1≤xq l∧xq l≤8:=by
 have hr:=m5 h;have ht:ab l=aa l:=bA hr.asc;have key:∀ (q:List Cl) (m:Int),(∀ c∈q,c.dim≤8) → -1≤m→m≤8 → -1≤nW q m∧nW q m≤8:=by
  intro q;induction q with
  | nil=>exact fun m _ h1 h2=>⟨h1,h2⟩
  | cons c q ih =>
   intro m hq h1 h2;have hc:=hq c (by simp);exact ih (max m c.dim) (fun d hd=>hq d (by simp[hd])) oM oM
 unfold xq;rw[ht];exact key _ _ (fun c hc=>(hr.form c hc).dim.2) dC dC
theorem Bc {B:List Cl}{c:Cl}(hc:c∈B)(h:200<(B.filter fun x=>decide (x.dim=c.dim)).length):sS B=true:=zj5.2 ⟨c,hc,zf5 h⟩
theorem Be {B:List Cl}(h:∀ d:Int,(B.filter fun x=>decide (x.dim=d)).length≤200):sS B=false:=by
 rw[Bool.eq_false_iff];intro k;obtain ⟨c,hc,h2⟩:=zj5.1 k;have:=h c.dim;simp at h2;omega
theorem Tryz.build75 (b mb mk:Nat)(p:Int)(w:World):(Instr.build 75 #[(0,pp b 0),(1,vi p),(2,.map (some mb)),(3,.map (some mk))]).run Tryz.prog w = .ok (.agg #[pp b 0,vi p,.map (some mb),.map (some mk)]) w:=by
 have h1:∀ n,(vi n).cells = #[vi n]:=fun _=>rfl;have h2:(pp b 0).cells = #[pp b 0]:=rfl;have h3:∀ m:Nat,(Value.map (some m)).cells = #[.map (some m)]:=fun _=>rfl;simp[Instr.build,Instr.fill,h1,h2,h3];rfl
theorem tU {rf:List Cl→List Cl→Nat}{n:Nat}{B:List Cl}{D:Nat}{r:Int}:(ww rf n B D r).length=n:=by
 unfold ww;rw[ze3,zi1]
theorem mA {α:Type}(f:Nat→α)(k:Nat):(List.range (k+1)).map f=(List.range k).map f++[f k]:=by
 rw[List.range_succ,zg2];rfl
theorem FZ {ms:Mk}{j:Nat}{k:Int}{v:Value}{l:List Rc}(h:ms[j]?=some (k,v,l)){hd:Own}(s:Own){x:Ent}(hh:hd.length=6):((hd++(fH ms++s)).set (j+6) x)[j+6]?=some x:=by
 have hj:=(zf2.1 h).1;rw[List.getElem?_set_self];simp only[ze2,fH,ze3];omega
theorem mE {rf:List Cl→List Cl→Nat}{n:Nat}{B:List Cl}{D:Nat}:(jj rf n B D).length=n:=by
 unfold jj;rw[ze3,zi1]
theorem vg {rf:List Cl→List Cl→Nat}{n:Nat}{B:List Cl}{D:Nat}:∀ Q∈jj rf n B D,Q.length=n∧∀ x∈Q,x.length=D:=fun Q h=>by
 obtain ⟨r,-,rfl⟩:=ze8.1 h;refine⟨tU,fun x hx=>?_⟩;obtain ⟨a,-,rfl⟩:=ze8.1 hx;rw[ze3,zi1]
theorem Tryz.sty40:STy Tryz.prog 40 22 1 24 (.slice none 0 0):=⟨underlying40,⟨t22,by kernel_rfl,by kernel_rfl,by kernel_rfl,by kernel_rfl⟩,rfl,by decide⟩
theorem mD (E:World)(hE:E.drawn=0)(g:PH)(s:Own)(v tv:Value)(l:List Cl)(T:List (List Int))(p:Int)(hv:am g v l)(hf:cZ l)(hw:∀ c∈l,gz c.id)(ht:aF g tv T)(hT:T.length<1099511627776)(hTl:∀ t∈T,t.length<1099511627776)(hp2:2≤p)(hp9:p<9) :
  Ctr Tryz.prog E 13 #[.agg #[v],tv,vi p] g s (fun x g' s'=>s=s'∧Le g g'∧∃ u,x = .tuple #[u,vi (dF l T p)]∧Pgs g' u (cQ l T p)):=by
 obtain ⟨vp,vc,rfl⟩:=hv.form;have hnone:dF l T p≠0→cQ l T p=[]:=fun h=>by unfold cQ; rw[zf7 h]
 refine za9 (args:=[.agg #[.slice vp l.length vc],tv,vi p]) func13 I ntmps13 (bE I) ?_;refine rZ (bW (bO I) fun b3=>?_);refine lA I (aT I (sQ (sW I (lW (cL call26 I (mB E g _ p hp2 hp9)) ?_))));rintro _ _ _ ⟨rfl,rfl,rfl⟩;refine lU (SU.not I) (tZ ?_);refine iQ I (fun hpr=>?_) (fun hpr=>?_)
 ·have hpr:gg p=false:=by simpa using hpr
  refine rZ (lA I (aT I (rE (tR ?_))));have he:dF l T p=46:=by unfold dF; rw[zf7 hpr]
  refine dR (s':=s) uR ?_;exact ST.ret2 (.inl I) results13 I I ⟨I,zb7 g,_,by rw[he],by rw[hnone (by rw[he]; decide)]; exact Pgs.nil g⟩
 ·have hpr:gg p=true:=by simpa using hpr
  have hp:=eR.1 hpr;refine kP (tN (rZ (lK (qV 0 bq aw I I I) (lM I (lW (cL call35 I (oH E hE g _ _ tv l T hv hf hw ht hT hTl)) ?_)))));rintro _ g1 _ ⟨rfl,hle1,pv,rfl,hcov⟩;refine lM I (yX I (yX I (lA I (aT I (sQ (sW I (lU (nQ I I) (tZ ?_))))))));refine iP I (fun hop=>?_) (fun hop=>?_)
  ·refine sW I (lA I (aT I (rE (tR ?_))));have he:dF l T p=eO l T:=by unfold dF; rw[zf6 (by rw[hpr]; simp),zf7 hop]
   refine dR (s':=s) uR ?_;exact ST.ret2 (.inl I) results13 I I ⟨I,hle1,_,by rw[he]; rfl,by rw[hnone (by rw[he]; exact hop)]; exact Pgs.nil _⟩
  ·have hop0:eO l T=0:=zg6 hop;have hcov:=hcov hop0;obtain ⟨hok,hT6⟩:=kN hop0;have hRt:=m5 hok;have hLt:ab l=aa l:=bA hRt.asc;have hRt:Rt (ab l):=by rw[hLt]; exact hRt
   have hBf:=cJ (o5 hRt hT6);have hBlt:=Bx hRt hT6;have hdim:=Bq hok;refine kP (tN (sW I (lW (cL call36 I (pV E g1 _ pv (ab l) T hcov hRt hT6)) ?_)));rintro _ g2 _ ⟨rfl,hle2,u,rfl,hu⟩;obtain ⟨up,uc,rfl⟩:=hu.form;refine bW (aL zl4) fun b10=>?_;refine oZ (sK 0 aw I I I I I ⟨I,trivial⟩) (tZ (sQ (rZ (lK (qV 0 bq aw I I I) (lW (cL call37 I (j4 E g2 _ _ (dA (ab l) T) hu hBf)) ?_)))));rintro _ _ _ ⟨rfl,rfl,rfl⟩;refine lM I (yX I (yX I (lA I (aT I (sW I (lU (nQ I I) (tZ ?_)))))));refine iP I (fun hbl=>?_) (fun hbl=>?_)
   ·refine rZ (lA I (aT I (rE (tR ?_))));have he:dF l T p=2:=by unfold dF; rw[zf6 (by rw[hpr]; simp),zf6 hop,zf7 (.inl hbl)]
    refine dR (s':=s) uR ?_;exact ST.ret2 (.inl I) results13 I I ⟨I,hle1.trans hle2,_,by rw[he],by rw[hnone (by rw[he]; decide)]; exact Pgs.nil _⟩
   ·have hBR:Rt (dA (ab l) T):=by
     have:=m5 (zg6 hbl);unfold dA at this ⊢;rwa [gp] at this
    generalize hBd:dA (ab l) T=B at *;obtain ⟨us,hus,hallu⟩:=hu;have hul:=hallu.length;obtain ⟨bc,mc,cv,iv,rfl,hbc,-⟩:=id hcov;refine kP (tN (sW I (lM I (lW (SO.mkMap) ?_))));rintro _ _ _ ⟨b46,rfl,rfl,rfl⟩;refine lW (SO.mkKn (F:=fun a low dim=>eD (rkP p) T.length B a low dim)) ?_;rintro _ _ _ ⟨b47,rfl,rfl,rfl⟩;refine lU (za1 I (build75 _ _ _ _)) (bW (bO I) fun b49=>?_);refine aT I (sQ (rZ (lU (fA fq I ek I) (lK (qL (v:=.slice up B.length uc) ii I (cO 3 I I)) (lU (eN aO I) (lM I (tZ (bK ?_))))))));refine oP (ι:=Nat×Mk) (fun z=>[(3,pp b3 0),(8,pp bc 0),(10,pp b10 0),(13,pp b49 0),(51,.slice up B.length uc),(52,vi B.length),(53,vi z.1)]) (fun _=>g2) (fun z=>pt b49 (.cells #[pp bc 0,vi p,.map (some b46),.map (some b47)] 75 (0,0))::knE b47 (fun a low dim=>eD (rkP p) T.length B a low dim)::mp b46 (pZ z.2)::pt b10 (.cells #[.slice up B.length uc] 30 (0,0))::pt b3 (.cells #[.slice vp l.length vc] 30 (0,0))::(fH z.2++s)) (fun z=>z.1≤us.length∧(∀ d,nX (qy z.2) d=(us.take z.1).filter fun r=>decide (r.dim=d))∧∀ d:Int,((us.take z.1).filter fun r=>decide (r.dim=d)).length≤200) (fun z=>us.length - z.1) (0,[]) sB I I ⟨zf3 _,fun _=>I,fun _=>by simp⟩ ?_;rintro ⟨k,ms⟩ ⟨hk,hcon,hcnt⟩;dsimp only at hk hcon hcnt ⊢;refine rZ (yL I (tZ (sQ ?_)));refine iP I (fun hlt=>?_) (fun hlt=>?_)
    ·have hkr:k<us.length:=oM;have hkB:k<B.length:=oM;have hb1:=za4 hus oM;have hgr:us[((k:Nat):Int).toNat]?=some us[k]:=gE hkr;have hsn:=CM hkr;have hR:=hallu.get (gE hkB) (gE hkr);have hmB:B[k]∈B:=gM hkB;have hfB:=(nR hallu B[k].dim).length;have hsub:∀ d:Int,((us.take (k+1)).filter fun r=>decide (r.dim=d)).length≤(us.filter fun r=>decide (r.dim=d)).length:=fun d=>((List.take_sublist _ _).filter _).length_le;have hlB:=hBR.few;generalize us[k]=x at *;generalize B[k]=y at *;obtain ⟨xi,xd,xp,xn,xc⟩:=x;obtain ⟨-,hyd,-⟩:=hR;dsimp only at hyd hsn;obtain ⟨ms1,j0,v0,l0,hp0,hp1,hp2,hp3,hp4,-,hp5⟩:=HC ms xd;have hl0:l0.length≤200:=by rw[← hp0,hcon]; exact hcnt _
     have hl1:((us.take (k+1)).filter fun r=>decide (r.dim=xd))=l0++[⟨xi,xd,⟨xp,xn,xc⟩⟩]:=by rw[hsn,zf7 rfl,← hp0,hcon]
     refine kP (tN (sQ (bK (rZ (lU (iA aO aK I I hb1 oM sL) (lK (eA gJ aK I (za5 hus) hgr) (bW (aL zl1) fun b15=>?_)))))));refine oZ (sK 0 aK I I I I I sB) (tZ (sQ ?_));refine SC.to (fun w hw=>hp5 E g2 [pt b15 (.cells #[vi xi,vi xd,.slice xp xn xc] 78 (0,0)),pt b49 (.cells #[pp bc 0,vi p,.map (some b46),.map (some b47)] 75 (0,0)),knE b47 (fun a low dim=>eD (rkP p) T.length B a low dim),mp b46 (pZ ms),pt b10 (.cells #[.slice up B.length uc] 30 (0,0)),pt b3 (.cells #[.slice vp l.length vc] 30 (0,0))] s w hw) ?_;refine SC.drawT 6 [16] [(0,2),(1,2),(2,2),(3,1),(4,2),(5,1),(6,2),(7,2),(8,2),(9,1),(10,2),(11,1),(12,1),(13,1),(14,0),(15,0),(16,0)] zd9 kR ?_;refine yM rfl (pU rfl (nC rfl) (pU rfl (fA xh rfl sizeOf72 rfl) (pK rfl (qL (v:=.map (some b46)) isAgg72 rfl (cO 1 rfl rfl)) (pU rfl (fA ar rfl zT3 rfl) (pK rfl (qL (v:=vi xd) iT3 rfl (cO 0 rfl rfl)) (yM rfl (pU rfl (nC rfl) (pU rfl (fA xh rfl sizeOf72 rfl) (pK rfl (qL (v:=.map (some b46)) isAgg72 rfl (cO 1 rfl rfl)) (pU rfl (fA ar rfl zT3 rfl) (pK rfl (qL (v:=vi xd) iT3 rfl (cO 0 rfl rfl)) (pK rfl (SQ.eq (v':=v0) (SQ.lookup mty72 rfl rfl (cG.own 3 rfl)) hp2) (pK rfl (qV 0 gJ aK rfl rfl rfl) (SP.o rfl (bS sty28 rfl rfl rfl (ae ⟨rfl,trivial⟩) dC) dC (.inr (by rintro _ _ _ ⟨b71,rfl,rfl,rfl⟩; exact⟨by exact zb7 _,(by exact .cons _ (List.take_sublist _ _))⟩)) ?_))))))))))))));rintro _ _ _ ⟨b71,rfl,rfl,rfl⟩;refine SP.o rfl (aP (e:=encCell) (l:=l0) (j0+6) ⟨xi,xd,⟨xp,xn,xc⟩⟩ sty28 rfl rfl rfl (BX hp1 s) rfl oM oM) dC (.inr (by rintro v72 _ _ ⟨rfl,rfl⟩; exact⟨by exact zb7 _,(by exact fh _ _ _ _)⟩)) ?_;rintro v72 _ _ ⟨rfl,rfl⟩;refine zc8 fun ⟨w0,hw0⟩=>?_;obtain ⟨q72,d72,rfl⟩:=ah (e:=encCell) (l:=l0++[⟨xi,xd,⟨xp,xn,xc⟩⟩]) (i:=j0+6) hw0 (FZ hp1 s rfl);clear hw0 w0;refine SP.on I (SO.mapUpdate 3 mty72 I I I I) (.inl dC) ?_;rintro _ _ _ ⟨rfl,rfl⟩;refine pN (tN (sQ (SC.drop (s':=pt b15 (.cells #[vi xi,vi xd,.slice xp xn xc] 78 (0,0))::pt b49 (.cells #[pp bc 0,vi p,.map (some b46),.map (some b47)] 75 (0,0))::knE b47 (fun a low dim=>eD (rkP p) T.length B a low dim)::mp b46 (pZ (ms1.set j0 (xd,Value.slice q72 (l0++[(⟨xi,xd,⟨xp,xn,xc⟩⟩:Rc)]).length d72,l0++[(⟨xi,xd,⟨xp,xn,xc⟩⟩:Rc)])))::pt b10 (.cells #[.slice up B.length uc] 30 (0,0))::pt b3 (.cells #[.slice vp l.length vc] 30 (0,0))::(fH (ms1.set j0 (xd,Value.slice q72 (l0++[(⟨xi,xd,⟨xp,xn,xc⟩⟩:Rc)]).length d72,l0++[(⟨xi,xd,⟨xp,xn,xc⟩⟩:Rc)]))++s)) (by rw[← hp3,← BW hp1 s]; exact .refl _) ?_)));refine dW [] [(0,2),(1,2),(2,2),(3,1),(4,2),(5,1),(6,1),(7,2),(8,2)] zd9 kR ?_;refine yM I (pU I (nC I) (pU I (fA xh I sizeOf72 I) (pK I (qL (v:=.map (some b46)) isAgg72 I (cO 1 I I)) (pU I (fA ar I zT3 I) (pK I (qL (v:=vi xd) iT3 I (cO 0 I I)) (pK I (SQ.eq (v':=Value.slice q72 (l0++[(⟨xi,xd,⟨xp,xn,xc⟩⟩:Rc)]).length d72) (SQ.lookup mty72 I I (cG.own 3 I)) (by rw[← hp3,Cj,zf7 I]; rfl)) ?_))))));refine pU I (eN aO I) (pU I (gR I I) (pN (tN ?_)));refine iP I (fun hbig=>?_) (fun hbig=>?_)
     ·have hmany:sS B=true:=Bc hmB (by
       rw[hfB,← hyd];have:=hsub xd;rw[hl1] at this;omega)
      have he:dF l T p=2:=by unfold dF; rw[zf6 (by rw[hpr]; simp),zf6 hop,hBd,zf7 (.inr hmany)]
      refine rZ (lA I (aT I (rE (bR (tR (tR (bR (tR (dR (s':=s) (.cons _ (.cons _ (.cons _ (.cons _ (.cons _ (.cons _ (List.sublist_append_right _ _))))))) ?_)))))))));exact ST.ret2 (.inl I) results13 I I ⟨I,hle1.trans hle2,_,by rw[he],by rw[hnone (by rw[he]; decide)]; exact Pgs.nil _⟩
     ·refine kP (bN (tN (rG (yD I (lM I (nL (dR (.cons _ (.refl _)) ?_)))))));exact gA (k+1,(ms1.set j0 (xd,Value.slice q72 (l0++[(⟨xi,xd,⟨xp,xn,xc⟩⟩:Rc)]).length d72,l0++[(⟨xi,xd,⟨xp,xn,xc⟩⟩:Rc)]))) sB I I ⟨by dsimp only; omega,fun d=>by
       dsimp only;rw[hp4,ya,hcon,hcon,hsn];by_cases e:d=xd
       ·subst e; rfl
       ·rw[zf6 e,zf6 e],fun d=>by
       dsimp only;by_cases e:d=xd
       ·rw[e,hl1]; omega
       ·rw[hsn,zf6 e]; exact hcnt d⟩ (by dsimp only; omega)
    ·have hke:k=us.length:=oM;subst hke;rw[List.take_length] at hcon hcnt;refine xI (tX (tX (bX (tN (sQ (SC.freeze fun g3 hl3 hb49=>?_))))));refine cP (s':=mp b46 (pZ ms)::pt b10 (.cells #[.slice up B.length uc] 30 (0,0))::pt b3 (.cells #[.slice vp l.length vc] 30 (0,0))::(fH ms++knE b47 (fun a low dim=>eD (rkP p) T.length B a low dim)::s)) (List.perm_middle (a:=knE b47 (fun a low dim=>eD (rkP p) T.length B a low dim)) (l₁:=mp b46 (pZ ms)::pt b10 (.cells #[.slice up B.length uc] 30 (0,0))::pt b3 (.cells #[.slice vp l.length vc] 30 (0,0))::fH ms) (l₂:=s)).symm ?_;refine SC.freezeMap fun g4 hl4 hmp=>?_;refine SC.freeze fun g5 hl5 hb10=>?_;refine SC.freeze fun g6 hl6 hb3=>?_;refine SC.freezeKs fun g7 hl7 hks=>?_;refine rG (aT I (sQ (sW I (lU (nC I) (lU (fA pY I zT3 I) (lK (qL (v:=vi T.length) iT3 I (cK ((hle2.trans (hl3.trans (hl4.trans (hl5.trans (hl6.trans hl7))))) _ _ hbc) I)) (lM I (tZ (bK ?_)))))))));have hcnt':∀ d:Int,(B.filter fun c=>decide (c.dim=d)).length≤200:=fun d=>by
      rw[(nR hallu d).length];exact hcnt d
     have hno:sS B=false:=Be hcnt';have hl57:=hl5.trans (hl6.trans hl7);have hl37:=hl4.trans hl57;have hl27:=hl3.trans hl37;have hspec:xg g7 (pp b49 0) (ab l) T p B b47:=⟨b49,b46,pp bc 0,rfl,hl37 _ _ hb49,hcov.mono (hle2.trans hl27),Hs (hmp.mono hl57) hks (hallu.mono fun _ _=>au.mono hl27) hcon⟩;have hbc7:=(hle2.trans hl27) _ _ hbc;have hb37:=hl7 _ _ hb3;have hv7:=hv.mono (hle1.trans (hle2.trans hl27));have hBok:Bok T.length B:=⟨hBR,hBlt,hcnt'⟩;have hD:xq l+1=((dimN l:Nat):Int):=by unfold dimN xq at *; omega
     have hD9:dimN l≤9:=oM;have he:dF l T p=0:=by unfold dF; rw[zf6 (by rw[hpr]; simp),zf6 hop,hBd,zf6]; rw[hno]; rintro (h | h); exact hbl h; cases h
     have hC:cQ l T p=gv (jj (rkP p) T.length B (dimN l)):=by unfold cQ; rw[zf6 (by rw[he]; simp),hBd]
     generalize dimN l=D at *;refine zb4 22 1 ?_;refine oP (ι:=PH×Nat×Value×List Sv) (fun z=>[(3,pp b3 0),(8,pp bc 0),(13,pp b49 0),(16,z.2.2.1),(86,vi T.length),(87,vi z.2.1)]) (fun z=>z.1) (fun z=>rowA encSv 22 z.2.2.1 z.2.2.2::knE b47 (fun a low dim=>eD (rkP p) T.length B a low dim)::s) (fun z=>Le g7 z.1∧z.2.1≤T.length∧aB (fun (Q:List (List Int)) (r:Sv)=>aF z.1 (.slice r.p r.n r.c) Q) ((List.range z.2.1).map fun r:Nat=>ww (rkP p) T.length B D ((r:Int)+1)) z.2.2.2) (fun z=>T.length - z.2.1) (g7,0,.slice none 0 0,[]) sB I I ⟨zb7 _,zf3 _,trivial⟩ ?_;rintro ⟨g8,k2,ov,os⟩ ⟨hle8,hk2,hacc⟩;dsimp only at hle8 hk2 hacc ⊢;have hol:=hacc.length;rw[ze3,zi1] at hol;refine rZ (yL I (tZ (sQ ?_)));refine iP I (fun hlt=>?_) (fun hlt=>?_)
     ·refine kP (tN (sQ (bK (sW I (aT I (rZ (aT I (sQ (sW I (lU (nC I) (lU (fA pY I zT3 I) (lK (qL (v:=vi T.length) iT3 I (cK (hle8 _ _ hbc7) I)) (lM I (tZ (bK (zb4 25 1 ?_))))))))))))))));refine oP (ι:=PH×Nat×Value×List Sv) (fun z=>[(3,pp b3 0),(8,pp bc 0),(13,pp b49 0),(16,ov),(17,vi k2),(18,z.2.2.1),(86,vi T.length),(87,vi k2),(93,vi T.length),(94,vi z.2.1)]) (fun z=>z.1) (fun z=>rowA encSv 25 z.2.2.1 z.2.2.2::rowA encSv 22 ov os::knE b47 (fun a low dim=>eD (rkP p) T.length B a low dim)::s) (fun z=>Le g8 z.1∧z.2.1≤T.length∧aB (bJ z.1) ((List.range z.2.1).map fun a:Nat=>(List.range D).map fun b:Nat=>vy (rkP p) T.length B ((k2:Int)+1) a b) z.2.2.2) (fun z=>T.length - z.2.1) (g8,0,.slice none 0 0,[]) sB I I ⟨zb7 _,zf3 _,trivial⟩ ?_;rintro ⟨g9,k3,pv,ps⟩ ⟨hle9,hk3,hac2⟩;dsimp only at hle9 hk3 hac2 ⊢;have hpl:=hac2.length;rw[ze3,zi1] at hpl;have hle79:=hle8.trans hle9;refine rZ (yL I (tZ (sQ ?_)));refine iP I (fun hlt3=>?_) (fun hlt3=>?_)
      ·refine kP (tN (sQ (bK (sW I (aT I (rZ (aT I (sQ (rZ (lK (SQ.loadOne bq aw I (cK (hle79 _ _ hb37) I)) (lW (cL call14 I (ll E g9 _ (.slice vp l.length vc) l (hv7.mono hle79) hf)) ?_)))))))))));rintro _ g10 _ ⟨rfl,rfl,hle10⟩;refine lU (SU.eq (v':=vi D) (aD I I oM) (zd8 vi hD)) (lM I (tZ (bK (zb4 3 1 ?_))));refine oP (ι:=PH×Nat×Value) (fun z=>[(3,pp b3 0),(8,pp bc 0),(13,pp b49 0),(16,ov),(17,vi k2),(18,pv),(19,vi k3),(20,z.2.2),(86,vi T.length),(87,vi k2),(93,vi T.length),(94,vi k3),(99,vi D),(100,vi z.2.1)]) (fun z=>z.1) (fun z=>rowA encInt 3 z.2.2 ((List.range z.2.1).map fun b:Nat=>vy (rkP p) T.length B ((k2:Int)+1) k3 b)::rowA encSv 25 pv ps::rowA encSv 22 ov os::knE b47 (fun a low dim=>eD (rkP p) T.length B a low dim)::s) (fun z=>Le g10 z.1∧z.2.1≤D) (fun z=>D - z.2.1) (g10,0,.slice none 0 0) sB I I ⟨zb7 _,zf3 _⟩ ?_;rintro ⟨g11,k4,iv⟩ ⟨hle11,hk4⟩;dsimp only at hle11 hk4 ⊢;have hle711:=hle79.trans (hle10.trans hle11);have hil:((List.range k4).map fun b:Nat=>vy (rkP p) T.length B ((k2:Int)+1) k3 b).length=k4:=by rw[ze3,zi1]
       refine rZ (yL I (tZ (sQ ?_)));refine iP I (fun hlt4=>?_) (fun hlt4=>?_)
       ·refine kP (tN (sQ (bK (sW I (aT I (rG (lM I (lM I (lM I (yD I (lM I (lM I (lW (cL call38 I (wy E g11 _ (pp b49 0) (ab l) T p hp B b47 3 ((k2:Int)+1) k3 k4 (hspec.mono hle711) hBok hT6 I oM oM oM)) ?_)))))))))))));rintro _ g12 _ ⟨rfl,rfl,hle12⟩;refine lW (bS sty25 I I I (ae ⟨I,trivial⟩) dC) ?_;rintro _ _ _ ⟨b110,rfl,rfl,rfl⟩;refine lW (aP (e:=encInt) (l:=(List.range k4).map fun b:Nat=>vy (rkP p) T.length B ((k2:Int)+1) k3 b) 0 (vy (rkP p) T.length B ((k2:Int)+1) k3 k4) sty25 I I I I I oM oM) ?_;rintro v111 _ _ ⟨rfl,rfl⟩;refine lA I (nL (bN (tN (rG (yD I (lM I (nL ?_)))))));exact gA (g12,k4+1,v111) sB I (by dsimp only; rw[mA]; rfl) ⟨hle11.trans hle12,by dsimp only; omega⟩ (by dsimp only; omega)
       ·have hke4:k4=D:=oM;subst hke4;refine fS fun g12 hle12 hs12=>?_;obtain ⟨q12,c12,rfl⟩:=Sl.form hs12;rw[hil] at hs12 ⊢;refine xI (tX (tX (bX (tN (rG (lM I (lM I (lW (bS sty22 I I I (ae ⟨I,trivial⟩) dC) ?_))))))));rintro _ _ _ ⟨b115,rfl,rfl,rfl⟩;refine lW (aP (e:=encSv) (l:=ps) 0 ⟨q12,k4,c12⟩ sty22 I I I I I oM oM) ?_;rintro v116 _ _ ⟨rfl,rfl⟩;refine lA I (nL (bN (tN (rG (yD I (lM I (nL ?_)))))));exact gA (g12,k3+1,v116,ps++[⟨q12,k4,c12⟩]) sB I I ⟨hle9.trans (hle10.trans (hle11.trans hle12)),by dsimp only; omega,by
         dsimp only;rw[mA];refine (hac2.mono fun _ _=>bJ.mono (hle10.trans (hle11.trans hle12))).append ⟨?_,trivial⟩;show Sl _ _ _ _ _;rw[hil];exact hs12⟩ (by dsimp only; omega)
      ·have hke3:k3=T.length:=oM;subst hke3;refine fS fun g10 hle10 hs10=>?_;obtain ⟨q10,c10,rfl⟩:=Sl.form hs10;refine xI (tX (tX (bX (tN (rG (lM I (lM I (lW (bS sty40 I I I (ae ⟨I,trivial⟩) dC) ?_))))))));rintro _ _ _ ⟨b120,rfl,rfl,rfl⟩;refine lW (aP (e:=encSv) (l:=os) 0 ⟨q10,ps.length,c10⟩ sty40 I I I I I oM oM) ?_;rintro v121 _ _ ⟨rfl,rfl⟩;refine lA I (nL (bN (tN (rG (yD I (lM I (nL ?_)))))));exact gA (g10,k2+1,v121,os++[⟨q10,ps.length,c10⟩]) sB I I ⟨hle8.trans (hle9.trans hle10),by dsimp only; omega,by
        dsimp only;rw[mA];exact (hacc.mono fun _ _ h=>h.mono (hle9.trans hle10)).append ⟨⟨ps,hs10,hac2.mono fun _ _=>bJ.mono hle10⟩,trivial⟩⟩ (by dsimp only; omega)
     ·have hke2:k2=T.length:=oM;subst hke2;have hacc:aB (fun (Q:List (List Int)) (r:Sv)=>aF g8 (.slice r.p r.n r.c) Q) (jj (rkP p) T.length B D) os:=hacc;have hPAl:=mE (rf:=rkP p) (n:=T.length) (B:=B) (D:=D);have hPAs:=vg (rf:=rkP p) (n:=T.length) (B:=B) (D:=D);rw[hC];generalize jj (rkP p) T.length B D=PA at *;refine fS fun g9 hle9 hs9=>?_;obtain ⟨q9,c9,rfl⟩:=Sl.form hs9;have hacc:=hacc.mono fun _ _ h=>aF.mono h hle9;refine xI (tX (tX (bX (tN (rZ (aT I (sQ (bK ?_))))))));refine oP (ι:=Nat×Option Addr×Nat) (fun z=>[(16,.slice z.2.1 z.1 z.2.2),(22,.func (.func 39) #[] #[])]) (fun _=>g9) (fun _=>knE b47 (fun a low dim=>eD (rkP p) T.length B a low dim)::s) (fun z=>z.1≤os.length∧SlA encSv g9 (.slice z.2.1 z.1 z.2.2) (os.take z.1)∧gv (PA.take z.1)=gv PA) (fun z=>z.1) (os.length,q9,c9) sB I I ⟨lR _,by dsimp only; rw[List.take_length]; exact hs9,by dsimp only; rw[← hol,← hPAl,List.take_length]⟩ ?_;rintro ⟨m,q,c⟩ ⟨hm,hsm,htr⟩;dsimp only at hm hsm htr ⊢;by_cases h1:1<m
      ·have hst:=BH (P:=PA) h1 oM;have hP1:PA[m - 1]'oM∈PA:=gM _;have hP2:PA[m - 2]'oM∈PA:=gM _;have hL1:=hacc.get (gE (i:=m - 1) oM) (gE (i:=m - 1) oM);have hL2:=hacc.get (gE (i:=m - 2) oM) (gE (i:=m - 2) oM);have hg1:(os.take m)[((m:Int) - 1).toNat]?=some (os[m - 1]'oM):=by
        rw[show ((m:Int) - 1).toNat=m - 1 by omega,zh7,zf7 oM];exact gE _
       have hg2:(os.take m)[((m:Int) - 2).toNat]?=some (os[m - 2]'oM):=by
        rw[show ((m:Int) - 2).toNat=m - 2 by omega,zh7,zf7 oM];exact gE _
       generalize PA[m - 1]'oM=Q1 at *;generalize PA[m - 2]'oM=Q2 at *;generalize os[m - 1]'oM=r1 at *;generalize os[m - 2]'oM=r2 at *;obtain ⟨p1,n1,c1⟩:=r1;obtain ⟨p2,n2,c2⟩:=r2;have hbm:=za4 hsm (by rw[ze1]; omega);have hmc:=(SlA.cap hsm).2;rw[ze1,Nat.min_eq_left hm] at hmc;have hcut:=SlA.cut (l:=0) (m:=m - 1) (k:=1) (e:=encSv) (xs:=os.take m) (p:=q) (c:=c) (g:=g9) (by rw[ze1,Nat.min_eq_left hm]; exact hsm) (zf3 _) (by rw[ze1]; omega);rw[List.drop_zero,Nat.sub_zero,List.take_take,Nat.min_eq_left oM] at hcut;obtain ⟨q',c',hq'⟩:=za2 hcut;rw[ze1,Nat.min_eq_left oM] at hq';rw[hq'] at hcut;refine sQ (sQ ?_);refine dW [] [(0,2),(1,2),(2,2),(3,2),(4,2),(5,2),(6,2),(7,2),(8,2),(9,2),(10,1),(11,2),(12,2),(13,2),(14,2),(15,2),(16,1),(17,0),(18,2)] zd9 kR ?_;refine yM I (pU I (eN nS I) (pU I (SU.eq (v':=vb true) (gR I I) (zd8 vb (zf5 oM))) (yM I (yJ I (yJ I (yJ I (zb1 I (gT I I I dC) (eN nS I) dC (zb1 I (gT I I I dC) (sU I I oM) dC (zb1 I (gT I I I dC) (iA nS sV I I hbm oM sL) dC (SP.gq I (gT I I I dC) (eB (u:=.slice p1 n1 c1) isAgg22 I (za5 hsm) hg1 I) dC (yJ I (yJ I (zb1 I (gT I I I dC) (eN nS I) dC (zb1 I (gT I I I dC) (sU I I oM) dC (zb1 I (gT I I I dC) (iA nS sV I I hbm oM sL) dC (SP.gq I (gT I I I dC) (eB (u:=.slice p2 n2 c2) isAgg22 I (za5 hsm) hg2 I) dC (SP.go I (gT I I I dC) (SO.callV I I (cI.mk (cap:=[]) call39 (vf E g9 _ (.slice p1 n1 c1) (.slice p2 n2 c2) Q1 Q2 hL1 hL2 (by rw[(hPAs _ hP1).1]; omega) (fun x hx=>by rw[(hPAs _ hP1).2 x hx]; omega) (by rw[(hPAs _ hP2).1]; omega)))) dC (.inr iR) ?_)))))))))))))))));rintro _ _ _ ⟨rfl,rfl,rfl⟩;refine pU I (wT I I) (pN (tN ?_));refine iQ I (fun heq=>?_) (fun heq=>?_)
       ·rw[zf7 (by simpa using heq)] at hst;refine kP (tN (bK (rG (lM I (lM I (lU (eN nS I) (lU (sU I I oM) (lU (SU.eq (v':=.slice q' (m - 1) c') (SU.sliceH nS sV I I oM oM) (by rw[show ((m:Int) - 1).toNat=m - 1 by omega]; exact hq')) ?_))))))));refine lA I (nL (bN ?_));exact gA (m - 1,q',c') sB I I ⟨by dsimp only; omega,hcut,by dsimp only; rw[← hst]; exact htr⟩ (by dsimp only; omega)
       ·rw[zf6 (by simpa using heq)] at hst;refine xI (tX (tX (bX (tN (sW I (lA I (aT I (rE (dR (s':=s) uR ?_)))))))));exact ST.ret2 (.inl I) results13 I I ⟨I,hle1.trans (hle2.trans (hl27.trans (hle8.trans hle9))),_,by rw[he],by rw[← htr,hst]; exact⟨os.take m,hsm,aB.take m hacc⟩⟩
      ·have hst:=Ds (P:=PA) h1;refine sQ (sQ ?_);refine dW [] [(0,2),(1,2),(2,2),(3,2),(4,2),(5,2),(6,2),(7,2),(8,2),(9,2),(10,1),(11,2),(12,2),(13,2),(14,2),(15,2),(16,1),(17,0),(18,2)] zd9 kR ?_;refine yM I (pU I (eN nS I) (pU I (SU.eq (v':=vb false) (gR I I) (zd8 vb (zf4 oM))) (yM I (yG I (yG I (yG I (yG I (yG I (yG I (yI I (yG I (yG I (yG I (yG I (yG I (yI I (fO I (gZ I I I dC) dC ⟨by exact zb7 _,(by exact .refl _)⟩ ?_)))))))))))))))));refine pU I (wF I I) (pN (tN (cF I (xI (tX (tX (bX (tN (sW I (lA I (aT I (rE (dR (s':=s) uR ?_)))))))))))));exact ST.ret2 (.inl I) results13 I I ⟨I,hle1.trans (hle2.trans (hl27.trans (hle8.trans hle9))),_,by rw[he],by rw[← htr,hst]; exact⟨os.take m,hsm,aB.take m hacc⟩⟩
structure PgOk (l:List Cl)(T:List (List Int))(p:Int):Prop where
 fp:Fp p
 opn:eO l T=0
 few:T.length≤6
 bok:Bok T.length (dA (ab l) T)
 dim:xq l+1=((dimN l:Nat):Int)
 dims:dimN l≤9
 eq:cQ l T p=gv (jj (rkP p) T.length (dA (ab l) T) (dimN l))
theorem wV {B:List Cl}(h:sS B=false)(d:Int):(B.filter fun c=>decide (c.dim=d)).length≤200:=by
 cases hd:B.filter (fun c=>decide (c.dim=d)) with
 | nil=>simp
 | cons c q =>
  have hc:c∈B.filter fun c=>decide (c.dim=d):=by rw[hd]; simp
  obtain ⟨h1,h2⟩:=zh1.1 hc;have h2:c.dim=d:=zf9 h2;subst h2;rw[← hd];refine Nat.le_of_not_lt fun h3=>?_;rw[Bc h1 h3] at h;cases h
theorem sb {l:List Cl}{T:List (List Int)}{p:Int}(h:dF l T p=0):PgOk l T p:=by
 have hC:cQ l T p=gv (jj (rkP p) T.length (dA (ab l) T) (dimN l)):=by unfold cQ; rw[zf6 (by rw[h]; simp)]
 unfold dF at h;split at h
 ·cases h
 ·rename_i hpr;split at h
  ·rename_i hop; exact absurd h hop
  ·rename_i hop;have hop:=zg6 hop;split at h
   ·cases h
   ·rename_i hbl;have hbl1:(bg (dA (ab l) T)).2=0:=zg6 fun k=>hbl (.inl k);have hmany:sS (dA (ab l) T)=false:=Bool.eq_false_iff.2 fun k=>hbl (.inr k);obtain ⟨hok,hT6⟩:=kN hop;have hRt:=m5 hok;have hLt:ab l=aa l:=bA hRt.asc;have hRt:Rt (ab l):=by rw[hLt]; exact hRt
    have hBR:Rt (dA (ab l) T):=by
     have:=m5 hbl1;unfold dA at this ⊢;rwa [gp] at this
    have hdim:=Bq hok;have hD:xq l+1=((dimN l:Nat):Int):=by unfold dimN xq at *; omega
    exact⟨eR.1 (by simpa using hpr),hop,hT6,⟨hBR,Bx hRt hT6,wV hmany⟩,hD,oM,hC⟩
theorem tC {α:Type}[DecidableEq α]:∀ {l:List α} {x:α},x∈j7 l→x∈l
 | [],_,h=>h
 | [_],_,h=>h
 | a::b::l,x,h=>by
  unfold j7 at h;split at h
  ·exact List.mem_cons_of_mem _ (tC h)
  ·exact h
theorem BI {α:Type}[DecidableEq α]{l:List α}{x:α}(h:x∈gv l):x∈l:=by
 unfold gv at h;rw[List.mem_reverse] at h;have:=tC h;rwa [List.mem_reverse] at this
theorem tD {α:Type}[DecidableEq α]:∀ {l:List α},(j7 l).length≤l.length
 | []=>lR _
 | [_]=>lR _
 | a::b::l=>by
  unfold j7;split
  ·exact zk6 tD (Nat.le_succ _)
  ·exact lR _
theorem BJ {α:Type}[DecidableEq α]{l:List α}:(gv l).length≤l.length:=by
 unfold gv;rw[List.length_reverse];have:=tD (l:=l.reverse);rwa [List.length_reverse] at this
theorem Gk {p:Int}(hp:Fp p){n:Nat}{B:List Cl}(hB:Bok n B)(r a b:Int):(vy (rkP p) n B r a b).natAbs≤800:=by
 have hbd:=xH hp hB;have b1:=hbd a (a - r) (a+b);have b2:=hbd (a - 1) (a - r) (a+b);have b3:=hbd (a+r - 1) a (a+b+1);have b4:=hbd (a+r - 1) (a - 1) (a+b+1);unfold vy;omega
theorem D1 {l:List Cl}{T:List (List Int)}{p:Int}(h:dF l T p=0):∀ Q∈cQ l T p,Q.length=T.length∧∀ x∈Q,x.length=dimN l∧∀ y∈x,y.natAbs≤800:=fun Q hQ=>by
 have ho:=sb h;rw[ho.eq] at hQ;obtain ⟨r,-,rfl⟩:=ze8.1 (BI hQ);refine⟨tU,fun x hx=>?_⟩;obtain ⟨a,-,rfl⟩:=ze8.1 hx;refine⟨by rw[ze3,zi1],fun y hy=>?_⟩;obtain ⟨b,-,rfl⟩:=ze8.1 hy;exact Gk ho.fp ho.bok _ _ _
theorem Cg {l:List Cl}{T:List (List Int)}{p:Int}:(cQ l T p).length≤T.length:=by
 unfold cQ;split
 ·exact zf3 _
 ·refine zk6 BJ ?_;rw[mE];exact lR _
def vz (P:List (List Int))(d:Nat):Int:=((P.zipIdx.map fun q=>if q.2≤d then q.1.getD (d - q.2) 0 else 0)).sum
theorem fZ (D:Nat)(P:List (List Int)):gh D P=(List.range D).map (vz P):=rfl
theorem lJ (P:List (List Int))(x:List Int)(d:Nat):vz (P++[x]) d=vz P d+if P.length≤d then x.getD (d - P.length) 0 else 0:=by
 unfold vz;rw[List.zipIdx_append,zg2,List.sum_append];simp
theorem EM (P:List (List Int))(d:Nat):vz (P++[[]]) d=vz P d:=by rw[lJ]; simp
theorem qO {m:Nat}:∀ {q:List Int},(∀ y∈q,y.natAbs≤m)→q.sum.natAbs≤q.length * m
 | [],_=>by simp
 | y::q,h=>by
  have h1:=h y (by simp);have h2:=qO (q:=q) fun z hz=>h z (by simp[hz]);rw[List.sum_cons,ze5,Nat.succ_mul];omega
theorem GF {m:Nat}{P:List (List Int)}(h:∀ x∈P,∀ y∈x,y.natAbs≤m)(d:Nat):(vz P d).natAbs≤P.length * m:=by
 have:=qO (m:=m) (q:=P.zipIdx.map fun q=>if q.2≤d then q.1.getD (d - q.2) 0 else 0) fun y hy=>by
  obtain ⟨q,hq,rfl⟩:=ze8.1 hy;split
  ·rw[zg7];cases hx:q.1[d - q.2]? with
   | none=>simp
   | some y=>exact h q.1 (List.fst_mem_of_mem_zipIdx hq) y (zf8 hx)
  ·simp
 rwa [ze3,List.length_zipIdx] at this
theorem yO (D:Nat)(P:List (List Int))(x:List Int)(j:Nat)(hj:j<x.length):gh D (P++[x.take (j+1)])=(gh D (P++[x.take j])).set (P.length+j) (vz (P++[x.take j]) (P.length+j)+x[j]):=by
 rw[fZ,fZ];refine List.ext_getElem? fun d=>?_;rw[List.getElem?_set,zh6,zh6,ze3,zi1];by_cases hd:d<D
 ·rw[List.getElem?_range hd];show some _=if P.length+j=d then (if P.length+j<D then some (vz (P++[x.take j]) (P.length+j)+x[j]) else none) else some (vz (P++[x.take j]) d)
  rw[lJ,lJ,lJ];have e1:x.take (j+1)=x.take j++[x[j]]:=tS hj;by_cases e:P.length+j=d
  ·subst e;rw[zf7 rfl,zf7 hd,zf7 oM,zf7 oM,Nat.add_sub_cancel_left,e1];simp[zg7,Nat.le_of_lt hj,zg9,gE hj]
  ·rw[zf6 e];congr 2;by_cases e2:P.length≤d
   ·rw[zf7 e2,zf7 e2,zg7,zg7];congr 1;rw[zh7,zh7];split <;> split <;> first | rfl | omega | skip
   ·rw[zf6 e2,zf6 e2]
 ·rw[List.getElem?_eq_none (by rw[zi1]; omega)];split
  ·rw[zf6 oM]; rfl
  ·rfl
theorem GE {D:Nat}{P:List (List Int)}{x:List Int}{j:Nat}(hj:j<x.length)(h:¬ P.length+j<D):gh D (P++[x.take (j+1)])=gh D (P++[x.take j]):=by
 rw[yO D P x j hj,List.set_eq_of_length_le];rw[fZ,ze3,zi1];omega
theorem Af (E:World)(hE:E.drawn=0)(g:PH)(s:Own)(v tv:Value)(l:List Cl)(T:List (List Int))(p:Int)(hv:am g v l)(hf:cZ l)(hw:∀ c∈l,gz c.id)(ht:aF g tv T)(hT:T.length<1099511627776)(hTl:∀ t∈T,t.length<1099511627776)(hp2:2≤p)(hp9:p<9) :
  Ctr Tryz.prog E 9 #[.agg #[v],tv,vi p] g s (fun x g' s'=>s=s'∧Le g g'∧∃ u,x = .tuple #[u,vi (dF l T p)]∧bT g' u (jV l T p)):=by
 obtain ⟨vp,vc,rfl⟩:=hv.form;refine za9 (args:=[.agg #[.slice vp l.length vc],tv,vi p]) func9 I ntmps9 (bE I) ?_;refine rZ (bW (bO I) fun b3=>?_);refine lA I (aT I (rZ (lK (qV 0 bq aw I I I) (lM I (lM I (lW (cL call13 I (mD E hE g _ _ tv l T p hv hf hw ht hT hTl hp2 hp9)) ?_))))));rintro _ g1 _ ⟨rfl,hle1,u,rfl,us,hus,hall⟩;obtain ⟨up,uc,rfl⟩:=za2 hus;have hlen:=hall.length;by_cases he:dF l T p=0
 ·refine lM I (yX I (yX I (lA I (aT I (sQ (sW I (lU (SU.eq (v':=vb false) (nQ I I) (zd8 vb (by rw[he]; rfl))) ?_)))))));refine lM I (yC I (lY I I I (eN nS I) (lY I I I (eQ I I) (yF I (tZ ?_)))));refine iP I (fun h0=>?_) (fun h0=>?_)
  ·refine sW I (lA I (aT I (rE (tR ?_))));have hb:jV l T p=[]:=by unfold jV; rw[zf7 oM]
   refine dR (s':=s) uR ?_;exact ST.ret2 (.inl I) results9 I I ⟨I,hle1,_,I,by rw[hb]; exact zb8 _ _⟩
  ·have ho:=sb he;have hbd:=D1 he;obtain ⟨hfp,-,hT6,hbok,hD,hD9,-⟩:=ho;have hb:jV l T p=gh (dimN l) ((cQ l T p).getLastD []):=by unfold jV; rw[zf6 oM]
   have hpf:=Cg (l:=l) (T:=T) (p:=p);have hPl:us.length - 1<(cQ l T p).length:=oM;have hQ:(cQ l T p)[us.length - 1]?=some ((cQ l T p)[us.length - 1]):=gE hPl;have hlast:(cQ l T p).getLastD []=(cQ l T p)[us.length - 1]:=by
    rw[List.getLastD_eq_getLast?,List.getLast?_eq_getElem?,hlen,hQ];rfl
   have hQm:=gM hPl;have hQR:=hall.get hQ (gE (i:=us.length - 1) oM);have hgu:us[((us.length:Int) - 1).toNat]?=some (us[us.length - 1]'oM):=by
    rw[show ((us.length:Int) - 1).toNat=us.length - 1 by omega];exact gE _
   rw[hlast] at hb;have hb1:=za4 hus oM;generalize (cQ l T p)[us.length - 1]=Q at *;generalize us[us.length - 1]'oM=r1 at *;obtain ⟨p1,n1,c1⟩:=r1;obtain ⟨hQl,hQx⟩:=hbd Q hQm;obtain ⟨rs,hrs,hallr⟩:=hQR;dsimp only at hrs;obtain ⟨rfl,-⟩:=SlA.cap hrs;have hrl:=hallr.length;refine kP (tN (rZ (lK (qV 0 bq aw I I I) (lW (cL call14 I (ll E g1 _ (.slice vp l.length vc) l (hv.mono hle1) hf)) ?_))));rintro _ g2 _ ⟨rfl,rfl,hle2⟩;refine lU (SU.eq (v':=vi (dimN l)) (aD I I oM) (zd8 vi hD)) (lW (mK encInt 0 sty25 I I I oM oM) ?_);rintro _ _ _ ⟨bl,rfl,rfl,rfl⟩;refine aT I (sQ (sW I (lM I (lU (eN nS I) (lU (sU I I oM) (lU (iA nS sV I I hb1 oM (show ((us.length:Int) - 1)<((us.length:Nat):Int) by omega)) ?_))))));refine lK (eB (u:=.slice p1 rs.length c1) isAgg22 I (za5 (za3 hus hle2)) hgu I) (lU (eN bH I) (lM I (tZ (bK ?_))));generalize dimN l=D at *;have h00:gh D []=List.replicate D 0:=by
    rw[fZ,List.eq_replicate_iff];exact⟨by simp,fun b hb=>by obtain ⟨d,_,rfl⟩:=ze8.1 hb; rfl⟩
   rw[← h00];have hrs2:=za3 hrs hle2;refine oP (ι:=Nat) (fun a=>[(10,.slice (some ⟨bl,0,none⟩) D D),(39,.slice p1 rs.length c1),(40,vi rs.length),(41,vi a)]) (fun _=>g2) (fun a=>rowA encInt 3 (.slice (some ⟨bl,0,none⟩) D D) (gh D (Q.take a))::pt b3 (.cells #[.slice vp l.length vc] 30 (0,0))::s) (fun a=>a≤rs.length) (fun a=>rs.length - a) 0 sB I I (zf3 _) ?_;rintro a ha;refine rZ (yL I (tZ (sQ ?_)));refine iP I (fun hlt=>?_) (fun hlt=>?_)
   ·have har:a<rs.length:=oM;have haQ:a<Q.length:=oM;have hgr:rs[((a:Nat):Int).toNat]?=some rs[a]:=gE har;have hR:=hallr.get (gE haQ) (gE har);have hb2:=za4 hrs oM;have hxm:=gM haQ;have htk:Q.take (a+1)=Q.take a++[Q[a]]:=tS haQ;have hQtl:(Q.take a).length=a:=by rw[ze1]; omega
    have hQtm:∀ y∈Q.take a,∀ z∈y,z.natAbs≤800:=fun y hy=>(hQx y (List.mem_of_mem_take hy)).2;generalize Q.take a=Qa at *;generalize Q[a]=x at *;generalize rs[a]=r at *;obtain ⟨p2,n2,c2⟩:=r;have hR:bT g1 (.slice p2 n2 c2) x:=hR;obtain ⟨rfl,-⟩:=SlA.cap hR;obtain ⟨hxl,hxb⟩:=hQx x hxm;have hR2:=za3 hR hle2;refine kP (tN (sQ (bK (sW I (lU (iA bH bZ I I hb2 oM sL) (lK (eB (u:=.slice p2 x.length c2) dx I (za5 hrs2) hgr I) (lA I (aT I (sW I (lU (eN ak I) (lM I (tZ (bK ?_)))))))))))));refine oP (ι:=Nat) (fun j=>[(10,.slice (some ⟨bl,0,none⟩) D D),(11,vi a),(39,.slice p1 rs.length c1),(40,vi rs.length),(41,vi a),(46,.slice p2 x.length c2),(47,vi x.length),(48,vi j)]) (fun _=>g2) (fun j=>rowA encInt 3 (.slice (some ⟨bl,0,none⟩) D D) (gh D (Qa++[x.take j]))::pt b3 (.cells #[.slice vp l.length vc] 30 (0,0))::s) (fun j=>j≤x.length) (fun j=>x.length - j) 0 sB I (by rw[show gh D (Qa++[x.take 0])=gh D Qa from zc5 fun d _=>EM Qa d]) (zf3 _) ?_;rintro j hj;refine rZ (yL I (tZ (sQ ?_)));refine iP I (fun hlt2=>?_) (fun hlt2=>?_)
    ·have hjx:j<x.length:=oM;have hb3:=za4 hR oM;have hgx:x[((j:Nat):Int).toNat]?=some x[j]:=gE hjx;have hst:=yO D Qa x j hjx;have hou:=GE (D:=D) (P:=Qa) hjx;have hyb:=hxb _ (gM hjx);rw[hQtl] at hst hou;refine kP (tN (sQ (bK (sW I (lU (iA ak zT3 I I hb3 oM sL) (lK (eB iT3 I (za5 hR2) hgx I) (lA I (aT I (sW I (lM I (yD I (lM I (lU (eN ak I) (yL I (tZ ?_)))))))))))))));refine iP I (fun hin=>?_) (fun hin=>?_)
     ·have hin':a+j<D:=oM;have hBb:=GF (P:=Qa++[x.take j]) (m:=800) (fun y hy=>by
       rcases ze9.1 hy with h | h
       ·exact hQtm y h
       ·rw[zh4] at h;subst h;exact fun z hz=>hxb z (List.mem_of_mem_take hz)) (a+j)
      rw[ze2,ze4,hQtl] at hBb;have hBk:(gh D (Qa++[x.take j]))[((a:Int)+j).toNat]?=some (vz (Qa++[x.take j]) (a+j)):=by
       rw[show ((a:Int)+j).toNat=a+j by omega,fZ,zh6,List.getElem?_range hin'];rfl
      have hBl:(gh D (Qa++[x.take j])).length=D:=by rw[fZ,ze3,zi1]
      generalize vz (Qa++[x.take j]) (a+j)=y0 at *;refine rG (lM I (lM I (lM I (yD I (lU (iA ak zT3 I I I oM sL) (lK (eB iT3 I (zb5 (e:=encInt) 0 I) hBk I) (lM I (yD I (lU (SU.eq (v':=.pointer (some ⟨bl,0+(a+j) * 1,none⟩)) (iA ak zT3 I I I oM sL) (by rw[show ((a:Int)+j).toNat=a+j by omega]; rfl)) ?_)))))))));refine oZ (sT (e:=encInt) (a:=y0+x[j]) (j:=a+j) 0 zT3 I I I (by rw[hBl]; exact hin') I) ?_;rw[← hst];refine nL (bN (tN (rG (yD I (lM I (nL ?_))))));exact gA (j+1) sB I I oM oM
     ·rw[← hou oM];refine kP (bN (tN (rG (yD I (lM I (nL ?_))))));exact gA (j+1) sB I I oM oM
    ·have hje:j=x.length:=oM;subst hje;rw[List.take_length,← htk];refine xI (tX (tX (bX (bN (tN (rG (yD I (lM I (nL ?_)))))))));exact gA (a+1) sB I I oM oM
   ·have hae:a=rs.length:=oM;subst hae;rw[← hrl,List.take_length,← hb];refine xI (tX (tX (bX (tN (sW I (lA I (aT I (rE ?_))))))));have hlb:(jV l T p).length=D:=by rw[hb,fZ,ze3,zi1]
    refine fT fun g3 hle3 hs3=>?_;refine dR (s':=s) uR ?_;exact ST.ret2 (.inl I) results9 I I ⟨I,hle1.trans (hle2.trans hle3),_,by rw[he],by unfold bT SlA; rw[← hlb] at hs3 ⊢; exact hs3⟩
 ·refine lM I (yX I (yX I (lA I (aT I (sQ (sW I (lU (SU.eq (v':=vb true) (nQ I I) (zd8 vb (zf5 he))) (lM I (yA I (yA I (yA I (yP I (tZ (cT I (sW I (lA I (aT I (rE (tR ?_)))))))))))))))))));have hb:jV l T p=[]:=by
   unfold jV;rw[zf7];unfold cQ;rw[zf7 he];rfl
  refine dR (s':=s) uR ?_;exact ST.ret2 (.inl I) results9 I I ⟨I,hle1,_,I,by rw[hb]; exact zb8 _ _⟩
theorem xA {α:Type}[DecidableEq α]:∀ {l:List α},l≠[]→j7 l≠[]
 | [],h=>absurd rfl h
 | [a],_=>by simp[j7]
 | a::b::l,_=>by
  unfold j7;split
  ·exact xA (by simp)
  ·simp
set_option maxHeartbeats 1000000
theorem Fq (g:PH):am g (.slice none 0 0) []:=⟨[],zb8 g _,trivial⟩
theorem qB (E:World)(hE:E.drawn=0)(g:PH)(s:Own)(v tv:Value)(l:List Cl)(T:List (List Int))(hv:am g v l)(hf:cZ l)(hw:∀ c∈l,gz c.id)(ht:aF g tv T)(hT:T.length<1099511627776)(hTl:∀ t∈T,t.length<1099511627776) :
  Ctr Tryz.prog E 22 #[.agg #[v],tv] g s (fun x g' s'=>s=s'∧Le g g'∧x=vi (eO l T)):=by
 obtain ⟨vp,vc,rfl⟩:=hv.form;refine za9 (args:=[.agg #[.slice vp l.length vc],tv]) func22 I ntmps22 (bE I) ?_;refine rZ (bW (bO I) fun b2=>?_);refine aT I (rZ (lK (qV 0 bq aw I I I) (lM I (lW (cL call35 I (oH E hE g _ _ tv l T hv hf hw ht hT hTl)) ?_))));rintro _ g1 _ ⟨rfl,hle1,pv,rfl,-⟩;refine lM I (yX I (yX I (lA I (aT I (sW I (aT I (rE (dR (s':=s) uR ?_))))))));exact za6 (.inl I) results22 I ⟨I,hle1,I⟩
theorem Tryz.buildN30 (w:World):(Instr.build 30 #[]).run Tryz.prog w = .ok (.agg #[.slice none 0 0]) w:=by
 simp[Instr.build,Instr.fill];rfl
theorem w4 (E:World)(hE:E.drawn=0)(g:PH)(s:Own)(v tv:Value)(l:List Cl)(T:List (List Int))(hv:am g v l)(hf:cZ l)(hw:∀ c∈l,gz c.id)(ht:aF g tv T)(hT:T.length<1099511627776)(hTl:∀ t∈T,t.length<1099511627776) :
  Ctr Tryz.prog E 20 #[.agg #[v],tv] g s (fun x g' s'=>s=s'∧Le g g'∧∃ u,x = .agg #[u]∧am g' u (iG l T)):=by
 obtain ⟨vp,vc,rfl⟩:=hv.form;refine za9 (args:=[.agg #[.slice vp l.length vc],tv]) func20 I ntmps20 (bE I) ?_;refine rZ (bW (bO I) fun b2=>?_);refine bW (aL zl4) fun b4=>?_;refine tZ (rZ (lK (qV 1 bq aw I I I) (lM I (lW (cL call35 I (oH E hE g _ _ tv l T hv hf hw ht hT hTl)) ?_))));rintro _ g1 _ ⟨rfl,hle1,pv,rfl,hcov⟩;refine lM I (yX I (yX I (lA I (aT I (sQ (sW I (lU (nQ I I) (tZ ?_))))))));refine iP I (fun hop=>?_) (fun hop=>?_)
 ·have hb:iG l T=[]:=by unfold iG; rw[zf7 (.inl hop)]
  refine rZ (lU (za1 I buildN30) (oZ (sK 0 aw I I I I I ⟨I,trivial⟩) (tZ (rE (tR ?_)))));exact ST.retCD 0 s (.inl I) results20 I bq aw I I uR ⟨I,hle1,_,I,by rw[hb]; exact Fq _⟩
 ·have hop0:eO l T=0:=zg6 hop;have hcov:=hcov hop0;obtain ⟨hok,hT6⟩:=kN hop0;have hRt:=m5 hok;have hLt:ab l=aa l:=bA hRt.asc;have hRt:Rt (ab l):=by rw[hLt]; exact hRt
  have hBf:=cJ (o5 hRt hT6);refine kP (tN (sW I (lW (cL call36 I (pV E g1 _ pv (ab l) T hcov hRt hT6)) ?_)));rintro _ g2 _ ⟨rfl,hle2,u,rfl,hu⟩;obtain ⟨up,uc,rfl⟩:=hu.form;refine bW (aL zl4) fun b7=>?_;refine oZ (sK 0 aw I I I I I ⟨I,trivial⟩) (tZ (sQ (rZ (lK (qV 0 bq aw I I I) (lW (cL call37 I (j4 E g2 _ _ (dA (ab l) T) hu hBf)) ?_)))));rintro _ _ _ ⟨rfl,rfl,rfl⟩;refine lM I (yX I (yX I (lA I (aT I (sW I (lU (nQ I I) (tZ ?_)))))));refine iP I (fun hbl=>?_) (fun hbl=>?_)
  ·have hb:iG l T=[]:=by unfold iG; rw[zf7 (.inr hbl)]
   refine rZ (lU (za1 I buildN30) (oZ (sK 1 aw I I I I I ⟨I,trivial⟩) (tZ (rE (tR ?_)))));exact ST.retCD 1 s (.inl I) results20 I bq aw I I uR ⟨I,hle1.trans hle2,_,I,by rw[hb]; exact Fq _⟩
  ·have hb:iG l T=dA (ab l) T:=by unfold iG; rw[zf6]; rintro (h | h); exact hop h; exact hbl h
   refine kP (tN (rZ (lK (qV 0 bq aw I I I) (oZ (sK 1 aw I I I I I ⟨I,trivial⟩) (tZ (rE ?_))))));exact ST.retCD 1 s (.inl I) results20 I bq aw I I uR ⟨I,hle1.trans hle2,_,I,by rw[hb]; exact hu⟩
set_option maxHeartbeats 2000000
theorem s8 (E:World)(g:PH)(s:Own)(v u:Value)(P Q:List (List Int))(hv:aF g v P)(hu:aF g u Q)(hP:P.length<1099511627776)(hPl:∀ x∈P,x.length<1099511627776)(hQ:Q.length<1099511627776) :
  Ctr Tryz.prog E 52 #[v,u] g s (fun r g' s'=>r=vb (decide (P=Q))∧g=g'∧s=s'):=by
 obtain ⟨rs,hrs,hallr⟩:=hv;obtain ⟨qs,hqs,hallq⟩:=hu;have hlr:=hallr.length;have hlq:=hallq.length;obtain ⟨rp,rc,rfl⟩:=za2 hrs;obtain ⟨qp,qc,rfl⟩:=za2 hqs;refine za9 (args:=[.slice rp rs.length rc,.slice qp qs.length qc]) func52 I ntmps52 (bE I) ?_;refine rZ (aT I (sQ (sW I (lU (eN bH I) (lM I (lU (eN bH I) (lU (nQ I I) (tZ ?_))))))));refine iP I (fun hne=>?_) (fun hne=>?_)
 ·refine rZ (aT I (rE (tR ?_)));have h0:decide (P=Q)=false:=zf4 fun e=>hne (by rw[← hlr,← hlq,e]);exact za6 (.inl I) results52 I ⟨by rw[h0],I,I⟩
 ·have hlen:rs.length=qs.length:=oM;refine kP (tN (sQ (rZ (aT I (bK ?_)))));refine oP (ι:=Nat) (fun k=>[(0,.slice rp rs.length rc),(1,.slice qp qs.length qc),(5,vi k)]) (fun _=>g) (fun _=>s) (fun k=>k≤rs.length∧P.take k=Q.take k) (fun k=>rs.length - k) 0 sB I I ⟨zf3 _,I⟩ ?_;rintro k ⟨hk,heq⟩;refine sQ (sW I (lM I (lU (eN bH I) (yL I (tZ ?_)))));refine iP I (fun hlt=>?_) (fun hlt=>?_)
  ·have hkr:k<rs.length:=oM;have hkq:k<qs.length:=oM;have hkP:k<P.length:=oM;have hkQ:k<Q.length:=oM;have hb1:=za4 hrs oM;have hb2:=za4 hqs oM;have hgr:rs[((k:Nat):Int).toNat]?=some rs[k]:=gE hkr;have hgq:qs[((k:Nat):Int).toNat]?=some qs[k]:=gE hkq;have hR:=hallr.get (gE hkP) (gE hkr);have hQ':=hallq.get (gE hkQ) (gE hkq);have h1:P.take (k+1)=P.take k++[P[k]]:=tS hkP;have h2:Q.take (k+1)=Q.take k++[Q[k]]:=tS hkQ;have hpl:=hPl _ (gM hkP);have hdiff:P[k]≠Q[k]→decide (P=Q)=false:=fun h=>zf4 fun e=>h (by subst e; rfl);generalize P[k]=x at *;generalize Q[k]=y at *;generalize rs[k]=r at *;generalize qs[k]=q at *;obtain ⟨ap,an,ac⟩:=r;obtain ⟨bp,bn,bc⟩:=q;refine kP (tN (sQ (bK (sQ ?_))));refine dW [] [(0,2),(1,2),(2,2),(3,1),(4,2),(5,2),(6,2),(7,1),(8,0),(9,2)] zd9 kR ?_;refine yM I (yM I (pU I (iA bH bZ I I hb1 oM sL) (pK I (eB (u:=.slice ap an ac) dx I (za5 hrs) hgr I) (yM I (yM I (pU I (iA bH bZ I I hb2 oM sL) (pK I (eB (u:=.slice bp bn bc) dx I (za5 hqs) hgq I) (SP.o I (cL call12 I (uf E g s (.slice ap an ac) (.slice bp bn bc) x y hR hQ' oM)) dC (.inr iR) ?_))))))));rintro _ _ _ ⟨rfl,rfl,rfl⟩;refine pU I (aS I) (pN (tN (sW I (lU (SU.notP I) (tZ ?_)))));refine iQ I (fun hxy=>?_) (fun hxy=>?_)
   ·have hxy':x≠y:=by simpa using hxy
    refine rZ (aT I (rE (bR (tR (tR (bR (tR ?_)))))));exact za6 (.inl I) results52 I ⟨by rw[hdiff hxy'],I,I⟩
   ·have hxy':x=y:=by simpa using hxy
    refine kP (bN (tN (rG (lM I (yD I (lA I (nL ?_)))))));exact gA (k+1) sB I I ⟨oM,by rw[h1,h2,heq,hxy']⟩ oM
  ·have hkk:k=rs.length:=oM;subst hkk;rw[tL oM,tL oM] at heq;refine xI (tX (tX (bX (tN (rZ (aT I (rE ?_)))))));have h0:decide (P=Q)=true:=zf5 heq;exact za6 (.inl I) results52 I ⟨by rw[h0],I,I⟩
theorem kx (E:World)(g:PH)(s:Own)(v u:Value)(P Q:List (List (List Int)))(hv:Pgs g v P)(hu:Pgs g u Q)(hP:P.length<1099511627776)(hPl:∀ A∈P,A.length<1099511627776∧∀ x∈A,x.length<1099511627776)(hQ:Q.length<1099511627776)(hQl:∀ A∈Q,A.length<1099511627776) :
  Ctr Tryz.prog E 18 #[v,u] g s (fun r g' s'=>r=vb (decide (P=Q))∧g=g'∧s=s'):=by
 obtain ⟨rs,hrs,hallr⟩:=hv;obtain ⟨qs,hqs,hallq⟩:=hu;have hlr:=hallr.length;have hlq:=hallq.length;obtain ⟨rp,rc,rfl⟩:=za2 hrs;obtain ⟨qp,qc,rfl⟩:=za2 hqs;refine za9 (args:=[.slice rp rs.length rc,.slice qp qs.length qc]) func18 I ntmps18 (bE I) ?_;refine rZ (aT I (sQ (sW I (lU (eN nS I) (lM I (lU (eN nS I) (lU (nQ I I) (tZ ?_))))))));refine iP I (fun hne=>?_) (fun hne=>?_)
 ·refine rZ (aT I (rE (tR ?_)));have h0:decide (P=Q)=false:=zf4 fun e=>hne (by rw[← hlr,← hlq,e]);exact za6 (.inl I) results18 I ⟨by rw[h0],I,I⟩
 ·have hlen:rs.length=qs.length:=oM;refine kP (tN (sQ (rZ (aT I (bK ?_)))));refine oP (ι:=Nat) (fun k=>[(0,.slice rp rs.length rc),(1,.slice qp qs.length qc),(5,vi k)]) (fun _=>g) (fun _=>s) (fun k=>k≤rs.length∧P.take k=Q.take k) (fun k=>rs.length - k) 0 sB I I ⟨zf3 _,I⟩ ?_;rintro k ⟨hk,heq⟩;refine sQ (sW I (lM I (lU (eN nS I) (yL I (tZ ?_)))));refine iP I (fun hlt=>?_) (fun hlt=>?_)
  ·have hkr:k<rs.length:=oM;have hkq:k<qs.length:=oM;have hkP:k<P.length:=oM;have hkQ:k<Q.length:=oM;have hb1:=za4 hrs oM;have hb2:=za4 hqs oM;have hgr:rs[((k:Nat):Int).toNat]?=some rs[k]:=gE hkr;have hgq:qs[((k:Nat):Int).toNat]?=some qs[k]:=gE hkq;have hR:=hallr.get (gE hkP) (gE hkr);have hQ':=hallq.get (gE hkQ) (gE hkq);have h1:P.take (k+1)=P.take k++[P[k]]:=tS hkP;have h2:Q.take (k+1)=Q.take k++[Q[k]]:=tS hkQ;have hpl:=hPl _ (gM hkP);have hql:=hQl _ (gM hkQ);have hdiff:P[k]≠Q[k]→decide (P=Q)=false:=fun h=>zf4 fun e=>h (by subst e; rfl);generalize P[k]=x at *;generalize Q[k]=y at *;generalize rs[k]=r at *;generalize qs[k]=q at *;obtain ⟨ap,an,ac⟩:=r;obtain ⟨bp,bn,bc⟩:=q;refine kP (tN (sQ (bK (sQ ?_))));refine dW [] [(0,2),(1,2),(2,2),(3,1),(4,2),(5,2),(6,2),(7,1),(8,0),(9,2)] zd9 kR ?_;refine yM I (yM I (pU I (iA nS sV I I hb1 oM sL) (pK I (eB (u:=.slice ap an ac) isAgg22 I (za5 hrs) hgr I) (yM I (yM I (pU I (iA nS sV I I hb2 oM sL) (pK I (eB (u:=.slice bp bn bc) isAgg22 I (za5 hqs) hgq I) (SP.o I (cL call52 I (s8 E g s (.slice ap an ac) (.slice bp bn bc) x y hR hQ' hpl.1 hpl.2 hql)) dC (.inr iR) ?_))))))));rintro _ _ _ ⟨rfl,rfl,rfl⟩;refine pU I (aS I) (pN (tN (sW I (lU (SU.notP I) (tZ ?_)))));refine iQ I (fun hxy=>?_) (fun hxy=>?_)
   ·have hxy':x≠y:=by simpa using hxy
    refine rZ (aT I (rE (bR (tR (tR (bR (tR ?_)))))));exact za6 (.inl I) results18 I ⟨by rw[hdiff hxy'],I,I⟩
   ·have hxy':x=y:=by simpa using hxy
    refine kP (bN (tN (rG (lM I (yD I (lA I (nL ?_)))))));exact gA (k+1) sB I I ⟨oM,by rw[h1,h2,heq,hxy']⟩ oM
  ·have hkk:k=rs.length:=oM;subst hkk;rw[tL oM,tL oM] at heq;refine xI (tX (tX (bX (tN (rZ (aT I (rE ?_)))))));have h0:decide (P=Q)=true:=zf5 heq;exact za6 (.inl I) results18 I ⟨by rw[h0],I,I⟩
def qH:List Cl:=[⟨1,0,[]⟩,⟨2,0,[]⟩,⟨3,0,[]⟩,⟨4,1,[⟨1,-1⟩,⟨2,1⟩]⟩,⟨5,1,[⟨1,-1⟩,⟨3,1⟩]⟩,⟨6,1,[⟨2,-1⟩,⟨3,1⟩]⟩]
theorem F3:ce [1,2]=[1,2]:=by
 unfold ce;rw[jG dC];rfl
theorem F4:ce [0,2]=[0,2]:=by
 unfold ce;rw[jG dC];rfl
theorem DD:bQ [[0,1],[1,2],[0,2]]=qH:=by
 simp only[bQ,aG,F5,F3,F4];rfl
theorem nN:cZ qH:=Ex dC dC
theorem rT:∀ c∈qH,gz c.id:=by unfold gz; decide
theorem EF:eO qH [[4,6],[5]]=0:=by kernel_rfl
theorem GC:eO qH [[4],[5]]=45:=by kernel_rfl
theorem CU:(bg (dA (ab qH) [[4,6],[5]])).2=0:=by kernel_rfl
theorem CV:(iG qH [[4,6],[5]]).length=10:=by
 unfold iG;rw[zf6 (by rintro (h | h); exact h EF; exact h CU)]
 kernel_rfl
theorem mO:dF qH [[4,6],[5]] 2=0:=by kernel_rfl
theorem F9:rkP 2=fun C R=>rkF C R d4:=funext fun C=>funext fun R=>G8 C R d4
theorem uy:cQ qH [[4,6],[5]] 2=[[[2,0],[2,0]],[[1,0],[1,0]]]:=by
 unfold cQ;rw[zf6 (by rw[mO]; simp),F9]
 kernel_rfl
theorem CW:jV qH [[4,6],[5]] 2=[1,1]:=by
 unfold jV;rw[uy]
 kernel_rfl
theorem wY (E:World)(g:PH)(s:Own):Ctr Tryz.prog E 21 #[] g s (fun r g' s'=>s=s'∧Le g g'∧∃ u,r = .agg #[u]∧am g' u qH):=by
 refine za9 (args:=[]) func21 I ntmps21 (bE I) ?_;refine rZ (bW (aL zl4) fun b0=>?_);refine tZ (rZ (lW (bS sty25 I I I (ae sB) dC) ?_));rintro _ _ _ ⟨b1,rfl,rfl,rfl⟩;refine zb3 fun g1 hle1 hb1=>?_;refine lW (bS sty25 I I I (ae sB) dC) ?_;rintro _ _ _ ⟨b2,rfl,rfl,rfl⟩;refine zb3 fun g2 hle2 hb2=>?_;refine lW (bS sty25 I I I (ae sB) dC) ?_;rintro _ _ _ ⟨b3,rfl,rfl,rfl⟩;refine zb3 fun g3 hle3 hb3=>?_;refine lW (bS sty22 I I I (ae sB) dC) ?_;rintro _ _ _ ⟨b4,rfl,rfl,rfl⟩;refine zb3 fun g4 hle4 hb4=>?_;have hlit:aF g4 (.slice (some ⟨b4,0,none⟩) 3 3) [[0,1],[1,2],[0,2]]:=⟨[eI (.slice (some ⟨b1,0,none⟩) 2 2),eI (.slice (some ⟨b2,0,none⟩) 2 2),eI (.slice (some ⟨b3,0,none⟩) 2 2)],SlA.lit hb4 rfl rfl,⟨SlA.lit ((hle2.trans (hle3.trans hle4)) _ _ hb1) rfl rfl,SlA.lit ((hle3.trans hle4) _ _ hb2) rfl rfl,SlA.lit (hle4 _ _ hb3) rfl rfl,trivial⟩⟩;refine lW (cL call55 I (qf E g4 _ _ _ hlit dC dC)) ?_;rintro _ g5 _ ⟨rfl,hle5,u,rfl,hu⟩;rw[DD] at hu;obtain ⟨q,d,rfl⟩:=hu.form;refine oZ (sK 0 aw I I I I I sB) ?_;refine tZ (rE ?_);exact ST.retCD 0 s (.inl I) results21 I bq aw I I uR ⟨I,hle1.trans (hle2.trans (hle3.trans (hle4.trans hle5))),_,I,hu⟩
theorem s6 (E:World)(hE:E.drawn=0)(g:PH)(s:Own):Ctr Tryz.prog E 6 #[] g s (fun r g' s'=>r=vb true∧s=s'∧Le g g'):=by
 refine za9 (args:=[]) func6 I ntmps6 (bE I) ?_;refine rZ (aT I (rZ (lW (cL call21 I (wY E g s)) ?_)));rintro _ g1 _ ⟨rfl,hle1,u,rfl,hu⟩;obtain ⟨q,d,rfl⟩:=hu.form;refine bW (aL zl4) fun b1=>?_;refine oZ (sK 0 aw I I I I I ⟨I,trivial⟩) (tZ (rZ (lW (bS sty25 I I I (ae sB) dC) ?_)));rintro _ _ _ ⟨b10,rfl,rfl,rfl⟩;refine zb3 fun g2 hle2 hb10=>?_;refine lW (bS sty25 I I I (ae ⟨I,trivial⟩) dC) ?_;rintro _ _ _ ⟨b11,rfl,rfl,rfl⟩;refine zb3 fun g3 hle3 hb11=>?_;refine lW (bS sty22 I I I (ae sB) dC) ?_;rintro _ _ _ ⟨b12,rfl,rfl,rfl⟩;refine zb3 fun g4 hle4 hb12=>?_;have hT:aF g4 (.slice (some ⟨b12,0,none⟩) 2 2) [[4,6],[5]]:=⟨[eI (.slice (some ⟨b10,0,none⟩) 2 2),eI (.slice (some ⟨b11,0,none⟩) 1 1)],SlA.lit hb12 rfl rfl,⟨SlA.lit ((hle3.trans hle4) _ _ hb10) rfl rfl,SlA.lit (hle4 _ _ hb11) rfl rfl,trivial⟩⟩;have hu4:=hu.mono (hle2.trans (hle3.trans hle4));refine aT I (rZ (lK (qV 0 bq aw I I I) (lM I (lW (cL call20 I (w4 E hE g4 _ _ _ qH [[4,6],[5]] hu4 nN rT hT dC dC)) ?_))));rintro _ g5 _ ⟨rfl,hle5,u5,rfl,hu5⟩;obtain ⟨q5,d5,rfl⟩:=hu5.form;rw[CV];have hu5':=hu4.mono hle5;have hT5:=hT.mono hle5;refine bW (aL zl4) fun b3=>?_;refine oZ (sK 0 aw I I I I I ⟨I,trivial⟩) (tZ (rZ (lK (qV 1 bq aw I I I) (lM I (lW (cL call13 I (mD E hE g5 _ _ _ qH [[4,6],[5]] 2 hu5' nN rT hT5 dC dC dC dC)) ?_)))));rintro _ g6 _ ⟨rfl,hle6,u6,rfl,hP⟩;rw[mO];rw[uy] at hP;have hu6:=hu5'.mono hle6;have hT6:=hT5.mono hle6;refine lM I (yX I (yX I (lA I (aT I (rZ (lK (qV 1 bq aw I I I) (lM I (lW (cL call9 I (Af E hE g6 _ _ _ qH [[4,6],[5]] 2 hu6 nN rT hT6 dC dC dC dC)) ?_))))))));rintro _ g7 _ ⟨rfl,hle7,u7,rfl,hB⟩;rw[mO];rw[CW] at hB;have hu7:=hu6.mono hle7;have hP7:=hP.mono hle7;refine lM I (yX I (yX I (lA I (aT I (rZ (lW (bS sty25 I I I (ae sB) dC) ?_))))));rintro _ _ _ ⟨b28,rfl,rfl,rfl⟩;refine zb3 fun g8 hle8 hb28=>?_;refine lW (bS sty25 I I I (ae sB) dC) ?_;rintro _ _ _ ⟨b29,rfl,rfl,rfl⟩;refine zb3 fun g9 hle9 hb29=>?_;refine lW (bS sty22 I I I (ae sB) dC) ?_;rintro _ _ _ ⟨b30,rfl,rfl,rfl⟩;refine zb3 fun g10 hle10 hb30=>?_;have h30:aF g10 (.slice (some ⟨b30,0,none⟩) 2 2) [[2,0],[2,0]]:=⟨[eI (.slice (some ⟨b28,0,none⟩) 2 2),eI (.slice (some ⟨b29,0,none⟩) 2 2)],SlA.lit hb30 rfl rfl,⟨SlA.lit ((hle9.trans hle10) _ _ hb28) rfl rfl,SlA.lit (hle10 _ _ hb29) rfl rfl,trivial⟩⟩;refine lW (bS sty25 I I I (ae sB) dC) ?_;rintro _ _ _ ⟨b31,rfl,rfl,rfl⟩;refine zb3 fun g11 hle11 hb31=>?_;refine lW (bS sty25 I I I (ae sB) dC) ?_;rintro _ _ _ ⟨b32,rfl,rfl,rfl⟩;refine zb3 fun g12 hle12 hb32=>?_;refine lW (bS sty22 I I I (ae sB) dC) ?_;rintro _ _ _ ⟨b33,rfl,rfl,rfl⟩;refine zb3 fun g13 hle13 hb33=>?_;have h33:aF g13 (.slice (some ⟨b33,0,none⟩) 2 2) [[1,0],[1,0]]:=⟨[eI (.slice (some ⟨b31,0,none⟩) 2 2),eI (.slice (some ⟨b32,0,none⟩) 2 2)],SlA.lit hb33 rfl rfl,⟨SlA.lit ((hle12.trans hle13) _ _ hb31) rfl rfl,SlA.lit (hle13 _ _ hb32) rfl rfl,trivial⟩⟩;refine lW (bS sty40 I I I (ae sB) dC) ?_;rintro _ _ _ ⟨b34,rfl,rfl,rfl⟩;refine zb3 fun g14 hle14 hb34=>?_;have hW:Pgs g14 (.slice (some ⟨b34,0,none⟩) 2 2) [[[2,0],[2,0]],[[1,0],[1,0]]]:=⟨[eI (.slice (some ⟨b30,0,none⟩) 2 2),eI (.slice (some ⟨b33,0,none⟩) 2 2)],SlA.lit hb34 rfl rfl,⟨h30.mono (hle11.trans (hle12.trans (hle13.trans hle14))),h33.mono hle14,trivial⟩⟩;have hl14:=hle8.trans (hle9.trans (hle10.trans (hle11.trans (hle12.trans (hle13.trans hle14)))));have hP14:=hP7.mono hl14;have hB14:=za3 hB hl14;have hu14:=hu7.mono hl14;refine aT I (rZ (lU (fA fq I ek I) (lK (qL (v:=.slice q5 10 d5) ii I (cO 0 I I)) (lU (eN aO I) (yE I (lM I (yC I (lY I I I (eQ I I) (yP I (lM I (yC I (yC I (zd7 (gT I I I dC) (cL call18 I (kx E g14 _ _ _ _ _ hP14 hW dC dC dC dC)) dC ?_)))))))))))));rintro _ _ _ ⟨rfl,rfl,rfl⟩;rw[show decide (([[[2,0],[2,0]],[[1,0],[1,0]]]:List (List (List Int)))=[[[2,0],[2,0]],[[1,0],[1,0]]])=true from zf5 rfl];refine yP I (lM I (yC I (lY I I I (eQ I I) (yP I (lM I (yC I (zd7 (gT I I I dC) (bS sty25 I I I (ae sB) dC) dC ?_)))))));rintro _ _ _ ⟨b54,rfl,rfl,rfl⟩;refine zb3 fun g15 hle15 hb54=>?_;have hW54:bT g15 (.slice (some ⟨b54,0,none⟩) 2 2) [1,1]:=SlA.lit hb54 rfl rfl;have hB15:=za3 hB14 hle15;refine zd7 (gT I I I dC) (cL call12 I (uf E g15 _ _ _ _ _ hB15 hW54 dC)) dC ?_;rintro _ _ _ ⟨rfl,rfl,rfl⟩;rw[show decide (([1,1]:List Int)=[1,1])=true from zf5 rfl];refine yP I (lM I (SL.gq (gT I I I dC) (qV 1 bq aw I I I) dC (zd7 (gT I I I dC) (bS sty25 I I I (ae ⟨I,trivial⟩) dC) dC ?_)));rintro _ _ _ ⟨b59,rfl,rfl,rfl⟩;refine zb3 fun g16 hle16 hb59=>?_;refine zd7 (gT I I I dC) (bS sty25 I I I (ae ⟨I,trivial⟩) dC) dC ?_;rintro _ _ _ ⟨b60,rfl,rfl,rfl⟩;refine zb3 fun g17 hle17 hb60=>?_;refine zd7 (gT I I I dC) (bS sty22 I I I (ae sB) dC) dC ?_;rintro _ _ _ ⟨b61,rfl,rfl,rfl⟩;refine zb3 fun g18 hle18 hb61=>?_;have hT2:aF g18 (.slice (some ⟨b61,0,none⟩) 2 2) [[4],[5]]:=⟨[eI (.slice (some ⟨b59,0,none⟩) 1 1),eI (.slice (some ⟨b60,0,none⟩) 1 1)],SlA.lit hb61 rfl rfl,⟨SlA.lit ((hle17.trans hle18) _ _ hb59) rfl rfl,SlA.lit (hle18 _ _ hb60) rfl rfl,trivial⟩⟩;have hu18:=hu14.mono (hle15.trans (hle16.trans (hle17.trans hle18)));refine zd7 (gT I I I dC) (cL call22 I (qB E hE g18 _ _ _ qH [[4],[5]] hu18 nN rT hT2 dC dC)) dC ?_;rintro _ g19 _ ⟨rfl,hle19,rfl⟩;rw[GC];refine lY I I I (eQ I I) (yP I (aT I (rE (dR (s':=s) uR ?_))));exact za6 (.inl I) results6 I ⟨I,I,hle1.trans (hle2.trans (hle3.trans (hle4.trans (hle5.trans (hle6.trans (hle7.trans (hl14.trans (hle15.trans (hle16.trans (hle17.trans (hle18.trans hle19)))))))))))⟩
def Dh (y:Int):Int:=if bU y 2=0 then 4 else 5
theorem xz (y:Int):([4,5]:List Int)[(bU y 2).toNat]?=some (Dh y):=by
 have:=aV y 2 dC dC;unfold Dh
 rcases (by omega:bU y 2=0∨bU y 2=1) with e | e
 ·rw[e]; rfl
 ·rw[e]; rfl
def fu (kd:Int)(ls:List (List Int))(y:Int):List Cl:=if (j8 kd ls y).length>20 then j8 (Dh y) [] (bU y 8) else j8 kd ls y
def jg (kd:Int)(ls:List (List Int))(y:Int):List Cl:=if (fu kd ls y).length>20 then bQ [[0,1,2],[1,2,3],[0,3]] else fu kd ls y
theorem Tryz.buildK24 (a b:Int)(w:World):(Instr.build 24 #[(0,vi a),(2,vi b)]).run Tryz.prog w = .ok (.agg #[vi a,.slice none 0 0,vi b]) w:=by
 have h1:∀ n,(vi n).cells = #[vi n]:=fun _=>rfl;simp[Instr.build,Instr.fill,h1];rfl
theorem zq (E:World)(g:PH)(s:Own)(v:Value)(kd y:Int)(ls:List (List Int))(hv:aF g v ls) :
  Ctr Tryz.prog E 7 #[.agg #[vi kd,v,vi y]] g s (fun r g' s'=>s=s'∧Le g g'∧∃ u,r = .agg #[u]∧am g' u (jg kd ls y)):=by
 obtain ⟨p,n,c,rfl⟩:∃ p n c,v = .slice p n c:=by
  obtain ⟨rs0,hrs0,_⟩:=hv;obtain ⟨p,c,rfl⟩:=za2 hrs0;exact⟨_,_,_,I⟩
 have hy:=aV y 2 dC dC;have hf1:=(mL kd ls y).1;have hf2:=(mL (Dh y) [] (bU y 8)).1;refine za9 (args:=[.agg #[vi kd,.slice p n c,vi y]]) func7 I ntmps7 (bE I) ?_;refine rZ (bW (bO I) fun b1=>?_);refine bW (aL zl4) fun b2=>?_;refine tZ (rZ (lK (qV 1 isAgg24 sizeOf24 I I I) (lW (cL call23 I (ud E g _ _ kd y ls hv)) ?_)));rintro _ g1 _ ⟨rfl,hle1,u1,rfl,hu1⟩;obtain ⟨q1,d1,rfl⟩:=hu1.form;refine bW (aL zl4) fun b3=>?_;refine oZ (sK 0 aw I I I I I ⟨I,trivial⟩) (tZ ?_);refine SC.cut (ι:=PH×Option Addr×Nat) (fun i=>[(2,pp b2 0),(3,pp b3 0)]) (fun i=>i.1) (fun i=>pt b3 (.cells #[.slice i.2.1 (fu kd ls y).length i.2.2] 30 (0,0))::pt b2 (.cells #[.slice none 0 0] 30 (0,0))::pt b1 (.cells #[vi kd,.slice p n c,vi y] 24 (0,0))::s) (fun i=>Le g1 i.1∧am i.1 (.slice i.2.1 (fu kd ls y).length i.2.2) (fu kd ls y)) ?_ ?_
 ·refine rZ (lU (fA fq I ek I) (lK (qL (v:=.slice q1 (j8 kd ls y).length d1) ii I (cO 0 I I)) (lU (eN aO I) (lU (gR I I) (tZ ?_)))));refine iP I (fun h20=>?_) (fun h20=>?_)
  ·have hs2:fu kd ls y=j8 (Dh y) [] (bU y 8):=by unfold fu; rw[zf7 oM]
   rw[hs2];refine SC.drawX [11] zd9 kR ?_;refine SX.u (i:=1) I kR (fA kZ I zT3 I) dC (SX.q (i:=2) I kR (qL (v:=vi y) iT3 I (cO 2 I I)) dC (SX.u (i:=6) I kR (fA kZ I zT3 I) dC (SX.q (i:=7) I kR (qL (v:=vi y) iT3 I (cO 2 I I)) dC ?_)))
   repeat' (first
    | (refine SB.o (i:=0) I (bS sty25 I I I (ae sB) dC) dC (.inr iR) ?_; rintro _ _ _ ⟨b10,rfl,rfl,rfl⟩; refine SX.freeze fun g2 hle2 hb10=>?_; have h10:SlA encInt g2 (.slice (some ⟨b10,0,none⟩) 2 2) [4,5]:=SlA.lit hb10 rfl rfl; refine SX.u (i:=4) I kD (iA ak zT3 I I I oM (show bU y 2<((2:Nat):Int) by omega)) dC ?_)
    | (refine SB.o (i:=0) I (bS sty25 I I I (ae sB) dC) dC (.inr iR) ?_; rintro _ _ _ ⟨b10,rfl,rfl,rfl⟩; refine SX.freeze fun g2 hle2 hb10=>?_; have h10:SlA encInt g2 (.slice (some ⟨b10,0,none⟩) 2 2) [4,5]:=SlA.lit hb10 rfl rfl)
    | (refine SB.o (i:=3) I (cL kT8 I (aW E _ _ y 2 dC)) dC (.inr iR) ?_; rintro _ _ _ ⟨rfl,rfl,rfl⟩; refine SX.u (i:=4) I kD (iA ak zT3 I I I oM (show bU y 2<((2:Nat):Int) by omega)) dC ?_)
    | (refine SB.o (i:=3) I (cL kT8 I (aW E _ _ y 2 dC)) dC (.inr iR) ?_; rintro _ _ _ ⟨rfl,rfl,rfl⟩)
    | (refine SB.o (i:=5) I (SQ.sof (eB iT3 I (za5 h10) (xz y) I)) dC (.inr iR) ?_; rintro _ _ _ ⟨rfl,rfl,rfl⟩; refine SX.u (i:=9) I kD (za1 I (buildK24 _ _)) dC ?_)
    | (refine SB.o (i:=5) I (SQ.sof (eB iT3 I (za5 h10) (xz y) I)) dC (.inr iR) ?_; rintro _ _ _ ⟨rfl,rfl,rfl⟩)
    | (refine SB.o (i:=8) I (cL kT8 I (aW E _ _ y 8 dC)) dC (.inr iR) ?_; rintro _ _ _ ⟨rfl,rfl,rfl⟩; refine SX.u (i:=9) I kD (za1 I (buildK24 _ _)) dC ?_)
    | (refine SB.o (i:=8) I (cL kT8 I (aW E _ _ y 8 dC)) dC (.inr iR) ?_; rintro _ _ _ ⟨rfl,rfl,rfl⟩)
    | (refine SB.o (i:=8) I (cL kT8 I (aW E _ _ y 8 dC)) dC (.inr iR) ?_; rintro _ _ _ ⟨rfl,rfl,rfl⟩)
    | (refine SB.o (i:=10) rfl (cL call23 rfl (ud E g2 _ _ (Dh y) (bU y 8) [] ⟨[],zb8 _ _,trivial⟩)) dC (.inr (by rintro _ g3 _ ⟨rfl,hle3,u3,rfl,hu3⟩; exact⟨by exact Le.trans (by assumption) (by assumption),(by exact .refl _)⟩)) ?_; rintro _ g3 _ ⟨rfl,hle3,u3,rfl,hu3⟩; obtain ⟨q3,d3,rfl⟩:=hu3.form)
    | (refine SB.on (i:=11) I (sK 0 aw I I I I I ⟨I,trivial⟩) (.inl dC) ?_; rintro _ _ _ ⟨rfl,rfl⟩)
    | refine zd3 0 3 kD ?_ ?_
    | refine zd2 3 kD ?_
    | refine zd3 5 8 kD ?_ ?_
    | refine zd2 8 kD ?_
    | refine zd2 10 kD ?_
    | refine zd2 11 kD ?_
    | refine zd2 5 kD ?_
    | refine zd3 0 8 kD ?_ ?_
    | refine zd2 0 kD ?_
    | (refine SX.nil kD ?_; exact za7 (g3,q3,d3) sB I I ⟨hle2.trans hle3,hu3⟩))
  ·have hs2:fu kd ls y=j8 kd ls y:=by unfold fu; rw[zf6 oM]
   rw[hs2];refine kP ?_;exact za7 (g1,q1,d1) sB I I ⟨zb7 _,hu1⟩
 rintro ⟨g3,q3,d3⟩ ⟨hle3,hu3⟩;dsimp only at hle3 hu3 ⊢;have hf2:(fu kd ls y).length<1099511627776:=by
  have h2:=(mL (Dh y) [] (bU y 8)).1;unfold fu;split <;> omega
 refine sQ (rZ (lU (fA fq I ek I) (lK (qL (v:=.slice q3 (fu kd ls y).length d3) ii I (cO 0 I I)) (lU (eN aO I) (lU (gR I I) (tZ ?_))))));refine iP I (fun h21=>?_) (fun h21=>?_)
 ·have hs:jg kd ls y=bQ [[0,1,2],[1,2,3],[0,3]]:=by unfold jg; rw[zf7 oM]
  refine rG (lW (bS sty25 I I I (ae sB) dC) ?_);rintro _ _ _ ⟨b25,rfl,rfl,rfl⟩;refine zb3 fun g4 hle4 hb25=>?_;refine lW (bS sty25 I I I (ae sB) dC) ?_;rintro _ _ _ ⟨b26,rfl,rfl,rfl⟩;refine zb3 fun g5 hle5 hb26=>?_;refine lW (bS sty25 I I I (ae sB) dC) ?_;rintro _ _ _ ⟨b27,rfl,rfl,rfl⟩;refine zb3 fun g6 hle6 hb27=>?_;refine lW (bS sty22 I I I (ae sB) dC) ?_;rintro _ _ _ ⟨b28,rfl,rfl,rfl⟩;refine zb3 fun g7 hle7 hb28=>?_;have hlit:aF g7 (.slice (some ⟨b28,0,none⟩) 3 3) [[0,1,2],[1,2,3],[0,3]]:=⟨[eI (.slice (some ⟨b25,0,none⟩) 3 3),eI (.slice (some ⟨b26,0,none⟩) 3 3),eI (.slice (some ⟨b27,0,none⟩) 2 2)],SlA.lit hb28 rfl rfl,⟨SlA.lit ((hle5.trans (hle6.trans hle7)) _ _ hb25) rfl rfl,SlA.lit ((hle6.trans hle7) _ _ hb26) rfl rfl,SlA.lit (hle7 _ _ hb27) rfl rfl,trivial⟩⟩;refine lW (cL call24 I (aI E g7 _ _ _ hlit dC dC)) ?_;rintro _ g8 _ ⟨rfl,hle8,u8,rfl,hu8⟩;obtain ⟨q8,d8,rfl⟩:=hu8.form;refine oZ (sK 0 aw I I I I I ⟨I,trivial⟩) (tZ (rZ (lK (qV 0 bq aw I I I) (oZ (sK 1 aw I I I I I ⟨I,trivial⟩) (tZ (rE ?_))))));exact ST.retCD 1 s (.inl I) results7 I bq aw I I uR ⟨I,hle1.trans (hle3.trans (hle4.trans (hle5.trans (hle6.trans (hle7.trans hle8))))),_,I,by rw[hs]; exact hu8⟩
 ·have hs:jg kd ls y=fu kd ls y:=by unfold jg; rw[zf6 oM]
  refine kP (tN (rZ (lK (qV 0 bq aw I I I) (oZ (sK 1 aw I I I I I ⟨I,trivial⟩) (tZ (rE ?_))))));exact ST.retCD 1 s (.inl I) results7 I bq aw I I uR ⟨I,hle1.trans hle3,_,I,by rw[hs]; exact hu3⟩
structure Sml (l:List Cl):Prop where
 rt:Rt l
 few:l.length≤20
 ids:∀ c∈l,gz c.id
theorem GS:bQ [[0,1,2],[1,2,3],[0,3]]=[⟨1,0,[]⟩,⟨2,0,[]⟩,⟨3,0,[]⟩,⟨4,0,[]⟩,⟨5,1,[⟨1,-1⟩,⟨2,1⟩]⟩,⟨6,1,[⟨1,-1⟩,⟨3,1⟩]⟩,⟨7,1,[⟨1,-1⟩,⟨4,1⟩]⟩,⟨8,1,[⟨2,-1⟩,⟨3,1⟩]⟩,⟨9,1,[⟨2,-1⟩,⟨4,1⟩]⟩,⟨10,1,[⟨3,-1⟩,⟨4,1⟩]⟩,⟨11,2,[⟨5,1⟩,⟨6,-1⟩,⟨8,1⟩]⟩,⟨12,2,[⟨8,1⟩,⟨9,-1⟩,⟨10,1⟩]⟩]:=by
 have h123:ce [1,2,3]=[1,2,3]:=by
  unfold ce;rw[jG dC];rfl
 have h03:ce [0,3]=[0,3]:=by
  unfold ce;rw[jG dC];rfl
 simp only[bQ,aG,DJ,h123,h03];rfl
theorem BQ (kd:Int)(ls:List (List Int))(y:Int):Sml (jg kd ls y):=by
 have key:∀ k m z,(j8 k m z).length≤20→Sml (j8 k m z):=fun k m z h=>⟨re k m z,h,Ei k m z⟩;unfold jg;split
 ·have hr:=py [[0,1,2],[1,2,3],[0,3]];rw[GS] at hr ⊢;have h0:=m5 (zd8 Prod.snd hr);rw[show aa _=_ from by kernel_rfl] at h0;exact⟨h0,by decide,by unfold gz; decide⟩
 ·rename_i h;unfold fu at h ⊢;split
  ·rename_i h1;rw[zf7 h1] at h;exact key _ _ _ oM
  ·rename_i h1;exact key _ _ _ oM
open Go.ChangeShapes Go.WideShapes Go.ChangeAt Go.RowKit
set_option maxRecDepth 100000
section
variable {H:Type}{enc:TypeId×Value→H}{W:World}{base:Nat}{spare:Nat→Bool}{hd:Bool}
theorem Eo {v:Value}{d:DataW H}{p:List MemPlace}(h:DataW.Trod enc Tryz.prog W base spare hd 25 v d p)(hv:v.cells = #[v]):∃ l:List Int,bT (xm W) v l:=by
 obtain ⟨fuel,hf⟩:=h;rw[hv] at hf;obtain ⟨l,r,-,hl⟩:=Bh hf;exact⟨l,hl⟩
end
open Go.ChangeShapes Go.WideShapes Go.ChangeAt Go.RowKit
set_option maxRecDepth 100000
section
variable {H:Type}{enc:TypeId×Value→H}{W:World}{base:Nat}{spare:Nat→Bool}{hd:Bool}
theorem Tryz.cells26:Tryz.prog.cellsOf 26=2:=by kernel_rfl
theorem GH {r:Reach}{b0:Nat}{v:Value}{d:DataW H}{p:List MemPlace}(hv:Value.okWide Tryz.prog W r b0 26 v)(h:DataW.Trod enc Tryz.prog W base spare hd 26 v d p) :
  ∃ a b:Int,v = .agg #[vi a,vi b]∧gz a∧gz b:=by
 obtain ⟨cs,rfl,hsz⟩:=vh underlying26 hv;rw[cells26] at hsz;obtain ⟨l⟩:=cs
 match l,hsz with
 | [c0,c1],_ =>
  obtain ⟨fuel,hf⟩:=h;obtain ⟨xs,m,_,_,_,hl,hel⟩:=DataW.trod_array underlying26 (show DataW.trod enc Tryz.prog W base spare hd fuel 26 [c0,c1]=some (d,p) by simpa [Value.cells] using hf);have h0:=hel 0 dC;have h1:=hel 1 dC;rw[cells3,gE oM] at h0 h1;obtain ⟨a,e0,_,w0⟩:=DataW.trod_int uT3 h0;obtain ⟨b,e1,_,w1⟩:=DataW.trod_int uT3 h1;simp at e0 e1;subst e0 e1;exact⟨a,b,I,Fg w0,Fg w1⟩
end
abbrev Rws:=List (Sv×List Int)
def cg (ts:Rws):Own:=ts.map fun t=>rowA encInt 3 (.slice t.1.p t.1.n t.1.c) t.2
theorem my {ts:Rws}{j:Nat}{v:Sv}{l:List Int}(h:ts[j]?=some (v,l))(s:Own):(cg ts++s)[j]?=some (rowA encInt 3 (.slice v.p v.n v.c) l):=by
 have hj:=(zf2.1 h).1;rw[zg8 (by simpa [cg] using hj)];simp[cg,h]
theorem qQ {ts:Rws}{j:Nat}{v v':Sv}{l l':List Int}(h:ts[j]?=some (v,l))(s:Own):(cg ts++s).set j (rowA encInt 3 (.slice v'.p v'.n v'.c) l')=cg (ts.set j (v',l'))++s:=by
 have hj:=(zf2.1 h).1;rw[List.set_append_left _ _ (by simpa [cg] using hj)];simp[cg,List.map_set]
theorem qR {E:World}{g:PH}{w:World}(hd:Own):∀ (n:Nat) (s:Own),At E g (hd++s) w→At E g (hd++(cg (List.replicate n (⟨none,0,0⟩,[]))++s)) w
 | 0,s,h=>h
 | n+1,s,h=>by
  have h1:=(qR hd n s h).nilRow 3 1;rw[List.replicate_succ];exact h1.perm List.perm_middle.symm
theorem freezeTs {E:World}{w:World}:∀ (ts:Rws) (g:PH) (s:Own),At E g (cg ts++s) w→∃ g',Le g g'∧At E g' s w∧aB (bJ g') (ts.map Prod.snd) (ts.map Prod.fst)
 | [],g,s,h=>⟨g,zb7 g,h,trivial⟩
 | (v,l)::r,g,s,h=>by
  have h':At E g (row 3 1 (.slice v.p v.n v.c) l.length (l.flatMap encInt.enc)::(cg r++s)) w:=h;obtain ⟨g1,hl1,h1,h2⟩:=h'.freezeRow;obtain ⟨g2,hl2,h3,h4⟩:=freezeTs r g1 s h1;exact⟨g2,hl1.trans hl2,h3,Sl.mono h2 hl2,h4⟩
theorem SC.freezeTs {P:Program}{N:Nat}{E:World}{c:Code}{Q:Exit→Act→World→Prop}{f:Fr}{g:PH}{s:Own}{ts:Rws}(h:∀ g',Le g g'→aB (bJ g') (ts.map Prod.snd) (ts.map Prod.fst)→SC P N E c Q f g' s):SC P N E c Q f g (cg ts++s):=fun a w ha hw=>by
 obtain ⟨g',h1,h2,h3⟩:=Go.Proofs.YtkbagdedfdfjhaaGreatDoor.freezeTs ts g s hw;exact h g' h1 h3 a w ha h2
theorem FM {ts:Rws}{j:Nat}{v:Sv}{l:List Int}(h:ts[j]?=some (v,l)){hd:Own}(s:Own){x:Ent}(hh:hd.length=2):((hd++(cg ts++s)).set (j+2) x)[j+2]?=some x:=by
 have hj:=(zf2.1 h).1;rw[List.getElem?_set_self];simp only[ze2,cg,ze3];omega
def TIn (ts:Rws)(x:Int):Prop:=∃ t∈ts,x∈t.2
theorem TIn.set {ts:Rws}{j:Nat}{v v':Sv}{l:List Int}(h:ts[j]?=some (v,l))(x:Int){y:Int}(hy:TIn ts y):TIn (ts.set j (v',l++[x])) y:=by
 obtain ⟨t,ht,h2⟩:=hy;have hj:=(zf2.1 h).1;obtain ⟨i,hi,e⟩:=List.mem_iff_getElem.1 ht;by_cases e2:j=i
 ·subst e2;refine⟨(v',l++[x]),List.mem_set hj _,?_⟩;obtain ⟨_,e3⟩:=zf2.1 h;rw[← e,e3] at h2;simp only[ze9];exact .inl h2
 ·refine⟨t,?_,h2⟩;have:(ts.set j (v',l++[x]))[i]?=some t:=by rw[List.getElem?_set_ne e2,gE hi,e]
  exact zf8 this
theorem TIn.new {ts:Rws}{j:Nat}{v v':Sv}{l:List Int}(h:ts[j]?=some (v,l))(x:Int):TIn (ts.set j (v',l++[x])) x :=
 ⟨(v',l++[x]),List.mem_set (zf2.1 h).1 _,by simp⟩
structure TOk (l:List Cl)(T:List (List Int)):Prop where
 pos:1≤T.length
 few:T.length≤4
 few3:l.length>12→T.length≤3
 mem:∀ t∈T,∀ x∈t,x∈iW l
 len:∀ t∈T,t.length≤4 * (iW l).length
 cov:∀ x∈iW l,∃ t∈T,x∈t
theorem GD {k n:Nat}(hk:k<n)(hn:n≤4):IntKind.i64.wrap (1 * 2 ^ min ((k:Nat):Int).toNat IntKind.i64.bits)=((2 ^ k:Nat):Int):=by
 have key:∀ k,k<5→IntKind.i64.wrap (1 * 2 ^ min ((k:Nat):Int).toNat IntKind.i64.bits)=((2 ^ k:Nat):Int):=by decide +kernel
 exact key k oM
theorem yN {n:Nat}(hn:n≤4):IntKind.i64.wrap (1 * 2 ^ min ((n:Nat):Int).toNat IntKind.i64.bits)=((2 ^ n:Nat):Int):=by
 have key:∀ k,k<5→IntKind.i64.wrap (1 * 2 ^ min ((k:Nat):Int).toNat IntKind.i64.bits)=((2 ^ k:Nat):Int):=by decide +kernel
 exact key n oM
theorem Bz {M k:Nat}(hM:M<16)(hk:k<4):IntKind.i64.wrap (BitVec.ofInt IntKind.i64.bits (((M:Nat):Int).fdiv (2 ^ min ((k:Nat):Int).toNat IntKind.i64.bits)) &&& BitVec.ofInt IntKind.i64.bits 1).toNat=if M.testBit k then 1 else 0:=by
 have key:∀ M,M<16→∀ k,k<4→IntKind.i64.wrap (BitVec.ofInt IntKind.i64.bits (((M:Nat):Int).fdiv (2 ^ min ((k:Nat):Int).toNat IntKind.i64.bits)) &&& BitVec.ofInt IntKind.i64.bits 1).toNat=if M.testBit k then 1 else 0:=by decide +kernel
 exact key M hM k hk
theorem EL {M n:Nat}(h0:1≤M)(h1:M<2 ^ n)(hn:n≤4):∃ k,k<n∧M.testBit k=true:=by
 have key:∀ n,n<5→∀ M,M<2 ^ n→1≤M→∃ k,k<n∧M.testBit k=true:=by decide +kernel
 exact key n oM M h1 h0
theorem DY {n:Nat}(hn:n≤4)(h0:1≤n):2≤2 ^ n∧2 ^ n≤16:=by
 have key:∀ n,n<5→1≤n→2≤2 ^ n∧2 ^ n≤16:=by decide
 exact key n oM h0
theorem zf (E:World)(g:PH)(s:Own)(v nv:Value)(l:List Cl)(sd:Int)(ns:List Int)(hv:am g v l)(hf:cZ l)(hl:(ab l).length≤1000)(hn:bT g nv ns) :
  Ctr Tryz.prog E 10 #[.agg #[v],vi sd,nv] g s (fun r g' s'=>s=s'∧Le g g'∧∃ T,aF g' r T∧TOk l T):=by
 obtain ⟨vp,vc,rfl⟩:=hv.form;obtain ⟨np,nc,rfl⟩:=za2 hn;have hll:=hf.1;have hm4:=aV sd 4 dC dC;have hm3:=aV sd 3 dC dC;have htl:(iW l).length≤1000:=by
  unfold iW;rw[ze3];exact zk6 (zc2 _ _) hl
 refine za9 (args:=[.agg #[.slice vp l.length vc],vi sd,.slice np ns.length nc]) func10 I ntmps10 (bE I) ?_;refine rZ (bW (bO I) fun b3=>?_);refine aT I (sW I (lW (cL kT8 I (aW E g _ sd 4 dC)) ?_));rintro _ _ _ ⟨rfl,rfl,rfl⟩;refine yD I (aT I ?_);refine SC.cut (ι:=Nat) (fun n=>[(2,.slice np ns.length nc),(3,pp b3 0),(7,vi n)]) (fun _=>g) (fun _=>pt b3 (.cells #[.slice vp l.length vc] 30 (0,0))::s) (fun n=>1≤n∧n≤4∧(l.length>12→n≤3)) ?_ ?_
 ·refine rZ (lU (fA fq I ek I) (lK (qL (v:=.slice vp l.length vc) ii I (cO 0 I I)) (lU (eN aO I) (lU (gR I I) (tZ ?_)))));refine iP I (fun h12=>?_) (fun h12=>?_)
  ·refine rG (lM I (lW (cL kT8 I (aW E g _ sd 3 dC)) ?_));rintro _ _ _ ⟨rfl,rfl,rfl⟩;refine lU (SU.eq (v':=vi (1+(bU sd 3).toNat:Nat)) (aD I I oM) (zd8 vi oM)) (lA I (nL ?_));exact za7 (1+(bU sd 3).toNat) sB I I ⟨oM,oM,fun _=>by omega⟩
  ·refine kP ?_;refine za7 (1+(bU sd 4).toNat) ⟨I,I,?_,trivial⟩ I I ⟨oM,oM,fun h=>by omega⟩;show some (vi (1+bU sd 4))=_;exact zd8 (fun x=>some (vi x)) oM
 rintro n ⟨hn1,hn4,hn3⟩;have hpw:=DY hn4 hn1;refine sW I (lW (mK encSv ⟨none,0,0⟩ sty22 I I I oM oM) ?_);rintro _ _ _ ⟨bt,rfl,rfl,rfl⟩;refine aT I (rZ (lK (qV 1 bq aw I I I) (lW (cL call25 I (u4 E g _ _ l hv hf)) ?_)));rintro _ g1 _ ⟨rfl,hle1,hA⟩;obtain ⟨ap,ac,rfl⟩:=za2 hA;refine aT I (sQ (rZ (aT I (bK ?_))));have hTok:∀ ts:Rws,ts.length=n→(∀ t∈ts,t.2.length≤4 * (iW l).length∧∀ x∈t.2,x∈iW l)→(∀ j<(iW l).length,∀ x,(iW l)[j]?=some x→TIn ts x)→TOk l (ts.map Prod.snd):=fun ts h1 h2 h3=>⟨by rw[ze3]; omega,by rw[ze3]; omega,fun h=>by rw[ze3]; have:=hn3 h; omega,fun t ht=>by
  obtain ⟨u,hu,rfl⟩:=ze8.1 ht;exact (h2 u hu).2,fun t ht=>by
  obtain ⟨u,hu,rfl⟩:=ze8.1 ht;exact (h2 u hu).1,fun x hx=>by
  obtain ⟨j,hj,e⟩:=List.mem_iff_getElem.1 hx;obtain ⟨t,ht,hxt⟩:=h3 j hj x (by rw[gE hj,e]);exact⟨t.2,ze8.2 ⟨t,ht,I⟩,hxt⟩⟩
 generalize iW l=A at *;refine SC.to (fun w hw=>qR [rowA encSv 25 (.slice (some ⟨bt,0,none⟩) n n) (List.replicate n ⟨none,0,0⟩),pt b3 (.cells #[.slice vp l.length vc] 30 (0,0))] n s hw) ?_;refine oP (ι:=Nat×Rws) (fun z=>[(2,.slice np ns.length nc),(7,vi n),(8,.slice (some ⟨bt,0,none⟩) n n),(9,.slice ap A.length ac),(10,vi z.1)]) (fun _=>g1) (fun z=>rowA encSv 25 (.slice (some ⟨bt,0,none⟩) n n) (z.2.map Prod.fst)::pt b3 (.cells #[.slice vp l.length vc] 30 (0,0))::(cg z.2++s)) (fun z=>z.1≤A.length∧z.2.length=n∧(∀ t∈z.2,t.2.length≤4 * z.1∧∀ x∈t.2,x∈A)∧∀ j<z.1,∀ x,A[j]?=some x→TIn z.2 x) (fun z=>A.length - z.1) (0,List.replicate n (⟨none,0,0⟩,[])) sB I (by dsimp only; rw[List.map_replicate]; rfl) ⟨zf3 _,by dsimp only; rw[List.length_replicate],fun t ht=>by rw[(List.mem_replicate.1 ht).2]; exact⟨zf3 _,by simp⟩,fun j hj=>absurd hj (Nat.not_lt_zero j)⟩ ?_;rintro ⟨i,ts⟩ ⟨hi,htn,htm,htc⟩;dsimp only at hi htn htm htc ⊢;refine sQ (sW I (lM I (lU (eN ak I) (yL I (tZ ?_)))));refine iP I (fun hlt=>?_) (fun hlt=>?_)
 ·have hiA:i<A.length:=oM;have hgi:A[((i:Nat):Int).toNat]?=some A[i]:=gE hiA;have hgi0:A[i]?=some A[i]:=gE hiA;have hAm:A[i]∈A:=gM hiA;have hbA:=za4 hA oM;generalize A[i]=x at *;have hk:i % n<n:=Nat.mod_lt _ oM;have hrem:((i:Nat):Int).tmod ((n:Nat):Int)=((i % n:Nat):Int):=(Int.ofNat_tmod i n).symm;refine kP (tN (sQ (bK (sW I (lM I (lU (SU.eq (v':=vi (i % n:Nat)) (zd4 I I oM) (zd8 vi hrem)) (lU (SU.eq (v':=vi (2 ^ (i % n):Nat)) (SU.shl I I oM) (zd8 vi (GD hk hn4))) (aT I ?_))))))));refine SC.cut (ι:=Int) (fun m=>[(2,.slice np ns.length nc),(7,vi n),(8,.slice (some ⟨bt,0,none⟩) n n),(9,.slice ap A.length ac),(10,vi i),(11,vi m)]) (fun _=>g1) (fun _=>rowA encSv 25 (.slice (some ⟨bt,0,none⟩) n n) (ts.map Prod.fst)::pt b3 (.cells #[.slice vp l.length vc] 30 (0,0))::(cg ts++s)) (fun _=>True) ?_ ?_
  ·refine sW I (lU (eN ak I) (lU (gR I I) (tZ ?_)));refine iP I (fun hns=>?_) (fun hns=>?_)
   ·have hnl:0<ns.length:=oM;have hr2:((i:Nat):Int).tmod ((ns.length:Nat):Int)=((i % ns.length:Nat):Int):=(Int.ofNat_tmod i _).symm;have hkl:i % ns.length<ns.length:=Nat.mod_lt _ hnl;have hgn:ns[((i % ns.length:Nat):Int).toNat]?=some ns[i % ns.length]:=gE hkl;have hbn:=za4 hn hnl;refine dW [] [(0,2),(1,2),(2,2),(3,2),(4,2),(5,2),(6,1),(7,2),(8,2),(9,2),(10,2),(11,2),(12,2)] zd9 kR ?_;refine yM I (yM I (yM I (pU I (eN ak I) (pU I (SU.eq (v':=vi (i % ns.length:Nat)) (zd4 I I oM) (zd8 vi hr2)) (pU I (iA ak zT3 I I hbn oM (show ((i % ns.length:Nat):Int)<((ns.length:Nat):Int) by omega)) ?_)))));refine pK I (eB iT3 I (za5 (za3 hn hle1)) hgn I) (yM I (yM I (pU I (eN ak I) (pU I (SU.quo I I oM) (pU I (zd6 I I) (pU I (aS I) (pN ?_)))))));exact za7 _ sB I I trivial
   ·refine kP ?_;exact za7 _ sB I I trivial
  rintro m -;have hmr:=aV m (2 ^ n:Nat) oM oM;refine sW I (lM I (lU (SU.eq (v':=vi (2 ^ n:Nat)) (SU.shl I I oM) (zd8 vi (yN hn4))) (lW (cL kT8 I (aW E g1 _ m (2 ^ n:Nat) oM)) ?_)));rintro _ _ _ ⟨rfl,rfl,rfl⟩;refine aT I ?_;refine SC.cut (ι:=Nat) (fun M=>[(2,.slice np ns.length nc),(7,vi n),(8,.slice (some ⟨bt,0,none⟩) n n),(9,.slice ap A.length ac),(10,vi i),(11,vi M)]) (fun _=>g1) (fun _=>rowA encSv 25 (.slice (some ⟨bt,0,none⟩) n n) (ts.map Prod.fst)::pt b3 (.cells #[.slice vp l.length vc] 30 (0,0))::(cg ts++s)) (fun M=>1≤M∧M<2 ^ n) ?_ ?_
  ·refine sW I (yE I (tZ ?_));refine iP I (fun hz=>?_) (fun hz=>?_)
   ·refine rG (lA I (nL ?_));exact za7 1 sB I I ⟨oM,oM⟩
   ·refine kP ?_;refine za7 (bU m (2 ^ n:Nat)).toNat ⟨I,I,I,I,I,?_,trivial⟩ I I ⟨oM,oM⟩;show some (vi (bU m (2 ^ n:Nat)))=_;exact zd8 (fun x=>some (vi x)) oM
  rintro M ⟨hM1,hM2⟩;refine rZ (aT I (bK ?_));refine oP (ι:=Nat×Rws) (fun z=>[(2,.slice np ns.length nc),(7,vi n),(8,.slice (some ⟨bt,0,none⟩) n n),(9,.slice ap A.length ac),(10,vi i),(11,vi M),(12,vi z.1)]) (fun _=>g1) (fun z=>rowA encSv 25 (.slice (some ⟨bt,0,none⟩) n n) (z.2.map Prod.fst)::pt b3 (.cells #[.slice vp l.length vc] 30 (0,0))::(cg z.2++s)) (fun z=>z.1≤n∧z.2.length=n∧(∀ t∈z.2,t.2.length≤4 * i+z.1∧∀ x∈t.2,x∈A)∧(∀ j<i,∀ x,A[j]?=some x→TIn z.2 x)∧∀ b<z.1,M.testBit b=true→TIn z.2 x) (fun z=>n - z.1) (0,ts) sB I I ⟨zf3 _,htn,fun t ht=>⟨(htm t ht).1,(htm t ht).2⟩,htc,fun b hb=>absurd hb (Nat.not_lt_zero b)⟩ ?_;clear htn htm htc;rintro ⟨k,us⟩ ⟨hk2,hun,hum,huc,hub⟩;dsimp only at hk2 hun hum huc hub ⊢;refine sQ (sW I (lM I (yL I (tZ ?_))));refine iP I (fun hlt2=>?_) (fun hlt2=>?_)
  ·have hkn:k<n:=oM;have hand:=Bz (M:=M) (k:=k) oM oM;refine kP (tN (sQ (bK (sW I (lM I (lU (SU.shr I I oM) (lU (SU.eq (v':=vi (if M.testBit k then 1 else 0)) (SU.and I I) (zd8 vi hand)) (yE I (tZ ?_)))))))));refine iP I (fun hbit=>?_) (fun hbit=>?_)
   ·have htb:M.testBit k=true:=by
     cases h:M.testBit k with
     | true=>rfl
     | false=>rw[h] at hbit; simp at hbit
    have hku:k<us.length:=oM;have hgk:us[k]?=some us[k]:=gE hku;have hgs:(us.map Prod.fst)[((k:Nat):Int).toNat]?=some us[k].1:=by
     rw[show ((k:Nat):Int).toNat=k from rfl,zh6,hgk];rfl
    have hum1:=hum _ (gM hku);generalize us[k]=u0 at *;obtain ⟨sv,lu⟩:=u0;dsimp only at hgs hum1;refine SC.drawT 2 [13] [(0,2),(1,2),(2,2),(3,2),(4,2),(5,1),(6,2),(7,2),(8,2),(9,1),(10,0),(11,0),(12,2),(13,0)] zd9 kR ?_;refine yM rfl (yM rfl (yM rfl (yM rfl (pU rfl (iA bH bZ rfl rfl rfl oM sL) (pK rfl (eB (u:=.slice sv.p sv.n sv.c) dx rfl (zb5 (e:=encSv) 0 rfl) hgs rfl) (yM rfl (yM rfl (pU rfl (iA ak zT3 rfl rfl hbA oM sL) (pK rfl (eB iT3 rfl (za5 hA) hgi rfl) (SP.o rfl (bS sty25 rfl rfl rfl (ae ⟨rfl,trivial⟩) dC) dC (.inr (by rintro _ _ _ ⟨b78,rfl,rfl,rfl⟩; exact⟨by exact zb7 _,(by exact .cons _ (List.take_sublist _ _))⟩)) ?_))))))))));rintro _ _ _ ⟨b78,rfl,rfl,rfl⟩;refine SP.o rfl (aP (e:=encInt) (l:=lu) (k+2) x sty25 rfl rfl rfl (my hgk s) rfl oM oM) dC (.inr (by rintro v79 _ _ ⟨rfl,rfl⟩; exact⟨by exact zb7 _,(by exact fh _ _ _ _)⟩)) ?_;rintro v79 _ _ ⟨rfl,rfl⟩;refine zc8 fun ⟨w0,hw0⟩=>?_;obtain ⟨q79,d79,rfl⟩:=ah (e:=encInt) (l:=lu++[x]) (i:=k+2) hw0 (FM (hd:=[rowA encSv 25 (.slice (some ⟨bt,0,none⟩) n n) (us.map Prod.fst),pt b3 (.cells #[.slice vp l.length vc] 30 (0,0))]) hgk s rfl);clear hw0 w0;refine pU I (SU.eq (v':=.pointer (some ⟨bt,0+k * 1,none⟩)) (iA bH bZ I I I oM sL) I) (SP.on I (sT (e:=encSv) (a:=⟨q79,(lu++[x]).length,d79⟩) (j:=k) 0 bZ I I I (by rw[ze3]; omega) I) (.inl dC) ?_);rintro _ _ _ ⟨rfl,rfl⟩;refine pN (bN (tN (rG (lM I (yD I (lA I (nL (dR (s':=rowA encSv 25 (.slice (some ⟨bt,0,none⟩) n n) ((us.set k (⟨q79,(lu++[x]).length,d79⟩,lu++[x])).map Prod.fst)::pt b3 (.cells #[.slice vp l.length vc] 30 (0,0))::(cg (us.set k (⟨q79,(lu++[x]).length,d79⟩,lu++[x]))++s)) (by rw[List.map_set,← qQ hgk s]; exact .refl _) ?_))))))));exact gA (k+1,(us.set k (⟨q79,(lu++[x]).length,d79⟩,lu++[x]))) sB I I ⟨by dsimp only; omega,by dsimp only; rw[zh9]; exact hun,fun t ht=>by
     dsimp only at ht ⊢
     rcases List.mem_or_eq_of_mem_set ht with h | h
     ·exact⟨by have:=(hum t h).1; omega,(hum t h).2⟩
     ·subst h;refine⟨by dsimp only; rw[ze2,ze4]; omega,fun y hy=>?_⟩
      rcases ze9.1 hy with h | h
      ·exact hum1.2 y h
      ·rw[zh4.1 h]; exact hAm,fun j hj y hy=>TIn.set hgk x (huc j hj y hy),fun b hb hb2=>TIn.new hgk x⟩ (by dsimp only; omega)
   ·have htb:M.testBit k=false:=by
     cases h:M.testBit k with
     | false=>rfl
     | true=>rw[h] at hbit; simp at hbit
    refine kP (bN (tN (rG (lM I (yD I (lA I (nL ?_)))))));exact gA (k+1,us) sB I I ⟨by dsimp only; omega,hun,fun t ht=>⟨by have:=(hum t ht).1; dsimp only; omega,(hum t ht).2⟩,huc,fun b hb hb2=>by
     dsimp only at hb;by_cases e:b=k
     ·rw[e,htb] at hb2; cases hb2
     ·exact hub b oM hb2⟩ (by dsimp only; omega)
  ·have hke:k=n:=oM;subst hke;obtain ⟨b,hb1,hb2⟩:=EL hM1 hM2 hn4;have hx:=hub b hb1 hb2;refine xI (tX (tX (bX (bN (tN (rG (lM I (yD I (lA I (nL ?_))))))))));exact gA (i+1,us) sB I I ⟨by dsimp only; omega,hun,fun t ht=>⟨by have:=(hum t ht).1; dsimp only; omega,(hum t ht).2⟩,fun j hj y hy=>by
    dsimp only at hj;by_cases e:j=i
    ·subst e;rw[hgi0] at hy;injection hy with hy
     rw[← hy];exact hx
    ·exact huc j oM y hy⟩ (by dsimp only; omega)
 ·have hie:i=A.length:=oM;subst hie;have hok:=hTok ts htn htm htc;have hsl:(ts.map Prod.fst).length=n:=by rw[ze3]; exact htn
  refine fS fun g2 hle2 hs2=>?_;refine SC.drop (.cons _ (.refl _)) (SC.freezeTs fun g3 hle3 hall=>?_);refine xI (tX (tX (bX (tN (sW I (aT I (rE ?_)))))));exact za6 (.inl I) results10 I ⟨I,hle1.trans (hle2.trans hle3),ts.map Prod.snd,⟨ts.map Prod.fst,Sl.mono hs2 hle3,hall⟩,hok⟩
theorem iw {l:List Cl}{d:Int}(h:∀ c∈l,c.dim≤d):∀ c∈aa l,c.dim≤d:=fun c hc=>by
 obtain ⟨x,hx,rfl⟩:=ze8.1 hc;exact h x ((dh _ _).1 hx)
theorem DI (x:List Int):(ce x).length≤x.length:=by
 unfold ce;exact zk6 (iZ _ _) (by rw[fj]; exact lR _)
theorem kH {n:Nat}:∀ {ls all out:List (List Int)},(∀ x∈all,x.length≤n)→(∀ x∈ls,x.length≤n)→aG all ls=some out→∀ x∈out,x.length≤n
 | [],all,out,h1,_,h=>by
  simp only[aG,zg4] at h;subst h;exact h1
 | s::r,all,out,h1,h2,h=>by
  have hr:∀ x∈r,x.length≤n:=fun x hx=>h2 x (by simp[hx]);unfold aG at h;split at h
  ·exact kH h1 hr h
  ·split at h
   ·cases h
   ·refine kH (fun x hx=>?_) hr h
    rcases (gr _ _ _).1 hx with k | k
    ·exact h1 x k
    ·have k1:=((gD _ _).1 k).1.length_le;have k2:=DI s;have k3:=h2 s (by simp);omega
theorem fX {ls:List (List Int)}{n:Nat}(h:∀ x∈ls,x.length≤n):∀ c∈bQ ls,c.dim≤(n:Int) - 1:=by
 unfold bQ;cases hs:aG [] ls with
 | none=>intro c hc; cases hc
 | some all =>
  refine iw fun c hc=>?_;obtain ⟨p,hp,rfl⟩:=ze8.1 hc;have:=kH (n:=n) (by simp) h hs p.1 (List.fst_mem_of_mem_zipIdx hp);show (p.1.length:Int) - 1≤_;omega
theorem gG {a b:List Cl}{m n:Int}(ha:∀ c∈a,c.dim≤m)(hb:∀ c∈b,c.dim≤n):∀ c∈bM a b,c.dim≤m+n:=by
 unfold bM;split
 ·intro c hc; cases hc
 ·split
  ·refine iw fun c hc=>?_;obtain ⟨x,hx,hc⟩:=List.mem_flatMap.1 hc;obtain ⟨z,hz,rfl⟩:=ze8.1 hc;have h1:=iw ha x hx;have h2:=iw hb z hz;show x.dim+z.dim≤_;omega
  ·intro c hc; cases hc
theorem B8 (n:Nat):∀ c∈uP n,c.dim≤2:=by
 refine iw fun c hc=>?_;unfold dP at hc
 rcases ze9.1 hc with hc | hc
 ·rcases ze9.1 hc with hc | hc
  ·rcases ze9.1 hc with hc | hc
   ·obtain ⟨i,-,rfl⟩:=ze8.1 hc;exact (by decide:(0:Int)≤2)
   ·obtain ⟨i,-,rfl⟩:=ze8.1 hc;exact (by decide:(1:Int)≤2)
  ·rw[zh4.1 hc];exact Int.le_refl _
 ·split at hc
  ·rw[zh4.1 hc];exact Int.le_refl _
  ·cases hc
theorem xK (ls:List (List Int)):∀ x∈m3 ls,x.length≤4:=fun x hx=>by
 obtain ⟨l,-,rfl⟩:=ze8.1 hx;rw[ze3,ze1];omega
theorem C6 (m:Int)(ls:List (List Int))(y:Int):∀ c∈oA m ls y,c.dim≤3:=by
 have up:∀ {l:List Cl} {d:Int},(∀ c∈l,c.dim≤d)→d≤3→∀ c∈l,c.dim≤3:=fun h1 h2 c hc=>by
  have:=h1 c hc;omega
 have hsf:=(qM y).2.2;have e1:∀ c∈bQ [[0,1]],c.dim≤((2:Nat):Int) - 1:=fX dC;unfold oA;split
 ·exact up (fX hsf) dC
 ·split
  ·exact up (gG (fX (eU _).2) (fX (eU _).2)) dC
  ·split
   ·exact up (B8 _) dC
   ·split
    ·exact up (gG (gG e1 e1) e1) dC
    ·split
     ·refine up (fX (n:=4) fun x hx=>?_) dC
      rcases ze9.1 hx with h | h
      ·exact xK ls x h
      ·have:=hsf x (List.mem_of_mem_take h);omega
     ·exact up (fX (xK ls)) dC
theorem ue (kd:Int)(ls:List (List Int))(y:Int):∀ c∈j8 kd ls y,c.dim≤3:=fun c hc=>by
 obtain ⟨a,ha,rfl⟩:=oc (Fy y) hc;show a.dim≤3;unfold qI at ha;split at ha
 ·have e1:∀ c∈bQ [[0,1],[1,2],[0,2]],c.dim≤((2:Nat):Int) - 1:=fX dC;have:=gG e1 e1 a ha;omega
 ·exact C6 _ _ _ a ha
theorem zr (kd:Int)(ls:List (List Int))(y:Int):∀ c∈jg kd ls y,c.dim≤3:=by
 unfold jg;split
 ·rw[GS];decide
 ·unfold fu;split
  ·exact ue _ _ _
  ·exact ue _ _ _
theorem tQ {l:List Cl}(h:Rt l){c:Cl}(hc:c∈l):c.sides.length≤l.length:=by
 have hf:=h.form c hc;have hn:(c.sides.map ai.cell).Nodup:=by
  rw[List.Nodup,zk1];exact hf.asc.imp fun h=>by omega
 have:=nE (m:=l.map Cl.id) hn fun x hx=>by
  obtain ⟨q,hq,rfl⟩:=ze8.1 hx;obtain ⟨d,hd,-⟩:=hf.found q hq;obtain ⟨h1,h2⟩:=bF hd;exact ze8.2 ⟨d,h1,h2⟩
 rwa [ze3,ze3] at this
theorem AO (L:List Cl)(id:Int):∀ (T:List (List Int)) (k:Nat),(∃ t∈T,id∈cu L t)→tlB L k T id≠0
 | [],_,h=>by obtain ⟨t,ht,_⟩:=h; cases ht
 | t::T,k,h=>by
  unfold tlB;by_cases e:id∈cu L t
  ·rw[zf7 (by simpa using e)];have:=Nat.two_pow_pos k;omega
  ·have:tlB L (k+1) T id≠0:=AO L id T (k+1) (by
    obtain ⟨u,hu,h2⟩:=h
    rcases ze7.1 hu with rfl | hu
    ·exact absurd h2 e
    ·exact⟨u,hu,h2⟩)
   omega
theorem FN {l:List Cl}(h:Rt l){T:List (List Int)}(hT:TOk l T):∀ k:Nat,∀ c∈l,9≤c.dim+k→∃ t∈T,c.id∈cu l t:=by
 intro k;induction k with
 | zero =>
  intro c hc hk;have:=(h.form c hc).dim.2;omega
 | succ k ih =>
  intro c hc hk;by_cases e:jh l c.id=true
  ·unfold jh at e;obtain ⟨d,hd,h2⟩:=zj5.1 e;obtain ⟨x,hx,h3⟩:=zj5.1 h2;have h3:x.cell=c.id:=zf9 h3;obtain ⟨c',hf,hdim⟩:=(h.form d hd).found x hx;rw[h3,h.find hc] at hf;injection hf with hf
   subst hf;obtain ⟨t,ht,hm⟩:=ih d hd oM;refine⟨t,ht,?_⟩;have:=i6 h t d hd (by simpa using hm) x hx;rw[h3] at this;simpa using this
  ·have hm:c.id∈iW l:=by
    unfold iW;rw[h.tab];refine ze8.2 ⟨c,zh1.2 ⟨hc,?_⟩,I⟩;simpa using e
   obtain ⟨t,ht,hx⟩:=hT.cov _ hm;refine⟨t,ht,(ia l t c.id).2 ⟨c.id,hx,.refl _ ?_⟩⟩;unfold ju;rw[h.find hc];simp
theorem Du {l:List Cl}(h:Rt l){T:List (List Int)}(hT:TOk l T):eO l T=0:=by
 have h4:=hT.few;have hf:(T.any fun t=>t.any fun id=>(az (ab l) id).isNone)=false:=by
  rw[zk2];intro t ht;rw[zj4,zk2];intro x hx;have:=hT.mem t ht x hx;unfold iW at this;obtain ⟨c,hc,rfl⟩:=ze8.1 this;rw[h.tab] at hc ⊢;rw[h.find (zh1.1 hc).1];simp
 have hz:((ab l).any fun c=>decide (tlB (ab l) 0 T c.id=0))=false:=by
  rw[h.tab,zk2];intro c hc;have hd:=(h.form c hc).dim;obtain ⟨t,ht,hm⟩:=FN h hT (9 - c.dim).toNat c hc oM;have:=AO l c.id T 0 ⟨t,ht,hm⟩;simpa using this
 unfold eO;rw[h.check,zf6 (by simp),zf6 oM,hf,zf6 (by simp),hz,zf6 (by simp)]
theorem Dz (n b:Nat)(hn:n≤4)(hb:b<2 ^ n):(bC b).length≤2 ^ n - 1:=by
 have key:∀ n,n<5→∀ b,b<2 ^ n→(bC b).length≤2 ^ n - 1:=by decide +kernel
 exact key n oM b hb
theorem yj {α β:Type}{f:α→List β}{m:Nat}:∀ {q:List α},(∀ x∈q,(f x).length≤m)→(q.flatMap f).length≤q.length * m
 | [],_=>by simp
 | x::q,h=>by
  have h1:=h x (by simp);have h2:=yj (q:=q) fun z hz=>h z (by simp[hz]);rw[zh2,ze2,ze5,Nat.succ_mul];omega
structure Sm3 (l:List Cl):Prop extends Sml l where
 dims:∀ c∈l,c.dim≤3
theorem BR (kd:Int)(ls:List (List Int))(y:Int):Sm3 (jg kd ls y):=⟨BQ kd ls y,zr kd ls y⟩
theorem EG {l:List Cl}(h:Sm3 l){T:List (List Int)}(hT:TOk l T):(dA l T).length≤200:=by
 have h1:(dA l T).length=(qj l T).length:=aq _;have h2:(qj l T).length≤l.zipIdx.length * (2 ^ T.length - 1):=yj fun q _=>by
  rw[ze3];exact Dz _ _ hT.few (rJ l q.1.id T)
 rw[List.length_zipIdx] at h2;have h3:=h.few;have h4:=hT.few;have h5:=hT.few3;have h6:=hT.pos;rw[h1];refine zk6 h2 ?_;by_cases e:l.length>12
 ·have h7:=h5 e
  rcases (by omega:T.length=1∨T.length=2∨T.length=3) with k | k | k <;> rw[k] <;> omega
 ·rcases (by omega:T.length=1∨T.length=2∨T.length=3∨T.length=4) with k | k | k | k <;> rw[k] <;> omega
theorem AQ {l:List Cl}(h:Sm3 l){T:List (List Int)}(hT:TOk l T):Cov l (tlB l 0 T) T.length :=
 uu h.rt hT.few (by have:=h.few; omega) (fun c hc=>by have:=h.dims c hc; omega) fun c hc=>by have:=tQ h.rt hc; have:=h.few; omega
theorem tE {l:List Cl}(h:Sm3 l){T:List (List Int)}(hT:TOk l T){p:Int}(hp:gg p=true):dF l T p=0:=by
 have hr:Rt (dA l T):=z8 h.rt hT.few (by have:=h.few; omega) (fun c hc=>by have:=h.dims c hc; omega) fun c hc=>by have:=tQ h.rt hc; have:=h.few; omega
 have hm:sS (dA l T)=false:=Be fun d=>zk6 (zc2 _ _) (EG h hT);unfold dF;rw[zf6 (by rw[hp]; simp),Du h.rt hT,zf6 (by simp),h.rt.tab,hr.check,hm,zf6 (by simp)]
theorem tB {α:Type}[DecidableEq α]:∀ l:List α,∃ q,l=q++j7 l
 | []=>⟨[],rfl⟩
 | [_]=>⟨[],rfl⟩
 | a::b::l=>by
  unfold j7;split
  ·obtain ⟨q,h⟩:=tB (b::l);exact⟨a::q,by rw[List.cons_append,← h]⟩
  ·exact⟨[],I⟩
theorem BK {α:Type}[DecidableEq α]{l:List α}{k:Nat}(h:k<(gv l).length):(gv l)[k]?=l[k]?:=by
 obtain ⟨q,hq⟩:=tB l.reverse;have e:l=gv l++q.reverse:=by
  unfold gv;rw[← List.reverse_append,← hq,List.reverse_reverse]
 conv=>rhs; rw[e]
 rw[zg8 h]
theorem rP:∀ (q:List Cl) (m:Int),m≤nW q m∧∀ c∈q,c.dim≤nW q m
 | [],m=>⟨Int.le_refl _,by simp⟩
 | c::q,m=>by
  obtain ⟨h1,h2⟩:=rP q (max m c.dim);have e:nW (c::q) m=nW q (max m c.dim):=rfl;rw[e];refine⟨oM,fun d hd=>?_⟩
  rcases ze7.1 hd with rfl | hd
  ·omega
  ·exact h2 d hd
theorem Hm {l:List Cl}(h:Rt l):∀ c∈l,c.dim<((dimN l:Nat):Int):=fun c hc=>by
 have h1:=(rP (ab l) (-1)).2 c (by rw[h.tab]; exact hc);unfold dimN;omega
def pgN (f:Nat→Nat→Nat→Int)(n D k:Nat):List (List Int):=(List.range n).map fun a=>(List.range D).map fun b=>f k a b
structure Nums (P:List (List (List Int)))(n D:Nat)(e:Int)(f:Nat→Nat→Nat→Int):Prop where
 few:P.length≤n
 n4:n≤4
 d9:D≤9
 page:∀ k,k<P.length→P[k]?=some (pgN f n D k)
 pos:∀ k a b,a<n→0≤f k a b
 less:∀ k a b,a<n→f (k+1) a b≤f k a b
 bd:∀ k a b,(f k a b).natAbs≤800
 sum:∀ k,k<n→(aA (List.range n) fun a=>aA (List.range D) fun b=>f k a b * sgP ((a:Int)+b))=e
theorem wn (hd:Own)(ts:Rws)(v:Sv)(l:List Int)(s:Own):(rowA encInt 3 (.slice v.p v.n v.c) l::(hd++(cg ts++s))).Perm (hd++(cg (ts++[(v,l)])++s)):=by
 have e:cg (ts++[(v,l)])++s=cg ts++(rowA encInt 3 (.slice v.p v.n v.c) l::s):=by simp[cg]
 rw[e,← zg5,← zg5];exact List.perm_middle.symm
theorem SC.freezeTsH {P:Program}{N:Nat}{E:World}{c:Code}{Q:Exit→Act→World→Prop}{f:Fr}{g:PH}{hd s:Own}{ts:Rws}(h:∀ g',Le g g'→aB (bJ g') (ts.map Prod.snd) (ts.map Prod.fst)→SC P N E c Q f g' (hd++s)):SC P N E c Q f g (hd++(cg ts++s)) :=
 cP (List.perm_append_comm_assoc _ _ _) (SC.freezeTs h)
theorem Dr {ts:Rws}{T:List (List Int)}(h:ts.map Prod.snd=T){g:PH}(ha:aB (bJ g) (ts.map Prod.snd) (ts.map Prod.fst)):aB (bJ g) T (ts.map Prod.fst):=h ▸ ha
def dV (X:List Cl)(d:Int):List Cl:=X.filter fun c=>decide (c.dim=d)
theorem lh {X:List Cl}{d:Int}{c:Cl}:c∈dV X d↔c∈X∧c.dim=d:=by
 unfold dV;rw[zh1,zj2]
noncomputable def rkD (p:Int) (X:List Cl) (d:Int):Nat:=rkP p (dV X d) (dV X (d - 1))
noncomputable def ko (p:Int) (X:List Cl) (d:Int):Int:=(dV X d).length - (rkD p X d:Int) - (rkD p X (d+1):Int)
section
variable {p:Int}(hp:Fld p){n:Nat}{B:List Cl}(hdeg:∀ c∈B,0≤jt n c.id∧jt n c.id≤(n:Int) - 1)
include hdeg
include hp
end
section
variable {L:List Cl}{f:Int→Nat}{n:Nat}(h:Cov L f n)
include h
theorem Cov.ent {d:Cl}(hd:d∈L){u:Nat}(hu:u∈bC (f d.id)){e:Cl}(he:e∈L){t:Nat}(ht:t∈bC (f e.id)) :
  d4 (ay (aY L n (ixB L d.id) d u)) (ay (aY L n (ixB L e.id) e t))=(if t=u then d4 d e else 0)+(if e=d then iB u t d.dim else 0):=by
 have h1:=h.inner hd hu he ht 1;unfold Go.Proofs.YtkbagdedfdfjhaaGreatDoor.inner ao at h1;rw[h.find hd hu] at h1;rw[Int.one_mul] at h1;rw[← h1];unfold d4;show _=((ay (aY L n (ixB L d.id) d u)).sides.map fun q=>if q.cell=bId n (ixB L e.id) t then 1 * q.sign else 0).sum;congr 1;refine zc5 fun q _=>?_;rw[Int.one_mul];rfl
end
theorem A7 {p:Int}(hp:Fld p){α β α' β':Type}(R:List α)(C:List β)(g:α→α')(k:β→β')(e:α'→β'→Int)(e':α→β→Int)(he:∀ r∈R,∀ c∈C,e (g r) (k c)=e' r c):rkL p (R.map g) (C.map k) e=rkL p R C e':=by
 unfold rkL;rw[ze3,ze3];refine fy hp fun i hi j hj=>?_;rw[nm (r:=g R[i]) (c:=k C[j]) (by rw[zh6,gE hi]; rfl) (by rw[zh6,gE hj]; rfl),nm (gE hi) (gE hj),he _ (gM hi) _ (gM hj)];exact .refl _
section
variable {L:List Cl}{f:Int→Nat}{n:Nat}(h:Cov L f n)(h1:∀ c∈L,f c.id=1)
include h h1
end
theorem vG {M:Int}:∀ (q:List Cl) (m:Int),m≤M→(∀ c∈q,c.dim≤M)→nW q m≤M
 | [],m,h,_=>h
 | c::q,m,h,hq=>vG q (max m c.dim) (by have:=hq c (by simp); omega) fun d hd=>hq d (by simp[hd])
theorem Eu {α β:Type}(L:List α)(F:α→List β):L.flatMap F=L.zipIdx.flatMap fun q=>F q.1:=by
 conv=>lhs; rw[← List.zipIdx_map_fst 0 L]
 rw[List.flatMap_map]
def aR (L:List Cl)(f:Int→Nat):List (Cl×Nat):=L.flatMap fun c=>(bC (f c.id)).map fun s=>(c,s)
def dmP (q:Cl×Nat):Int:=q.1.dim+onesB q.2 - 1
def entP (q r:Cl×Nat):Int:=(if r.2=q.2 then d4 q.1 r.1 else 0)+if r.1=q.1 then iB q.2 r.2 q.1.dim else 0
theorem hZ {L:List Cl}{f:Int→Nat}{q:Cl×Nat}:q∈aR L f↔q.1∈L∧q.2∈bC (f q.1.id):=by
 unfold aR;rw[List.mem_flatMap];constructor
 ·rintro ⟨c,hc,h⟩;obtain ⟨s,hs,rfl⟩:=ze8.1 h;exact⟨hc,hs⟩
 ·rintro ⟨h1,h2⟩;exact⟨q.1,h1,ze8.2 ⟨q.2,h2,I⟩⟩
section
variable {L:List Cl}{f:Int→Nat}{n:Nat}(h:Cov L f n)
include h
theorem Cov.pairs_blow:bD L f n=(aR L f).map fun q=>aY L n (ixB L q.1.id) q.1 q.2:=by
 unfold aR;rw[List.map_flatMap];have e:L.flatMap (fun c=>((bC (f c.id)).map fun s=>(c,s)).map fun q=>aY L n (ixB L q.1.id) q.1 q.2)=L.zipIdx.flatMap fun q=>(bC (f q.1.id)).map (aY L n (ixB L q.1.id) q.1):=by
  rw[Eu];congr 1;funext q;rw[zi2];rfl
 rw[e];unfold bD;have key:∀ (l:List (Cl×Nat)),(∀ q∈l,ixB L q.1.id=q.2)→(l.flatMap fun q=>(bC (f q.1.id)).map (aY L n q.2 q.1))=l.flatMap fun q=>(bC (f q.1.id)).map (aY L n (ixB L q.1.id) q.1):=by
  intro l;induction l with
  | nil=>intro _; rfl
  | cons a l ih =>
   intro hl;rw[zh2,zh2,ih fun q hq=>hl q (by simp[hq]),hl a (by simp)]
 exact key _ fun q hq=>h.rt.ix (List.mem_zipIdx_iff_getElem?.1 hq)
theorem Cov.pairs_perm:(aa (bD L f n)).Perm ((aR L f).map fun q=>ay (aY L n (ixB L q.1.id) q.1 q.2)):=by
 unfold aa;have:=(gn (key:=Cl.id) (bD L f n)).map ay;refine this.trans ?_;rw[h.pairs_blow,zi2];exact .refl _
theorem Cov.entP {q r:Cl×Nat}(hq:q∈aR L f)(hr:r∈aR L f):d4 (ay (aY L n (ixB L q.1.id) q.1 q.2)) (ay (aY L n (ixB L r.1.id) r.1 r.2))=Go.Proofs.YtkbagdedfdfjhaaGreatDoor.entP q r:=by
 obtain ⟨h1,h2⟩:=hZ.1 hq;obtain ⟨h3,h4⟩:=hZ.1 hr;rw[h.ent h1 h2 h3 h4];rfl
theorem Cov.inB {q:Cl×Nat}(hq:q∈aR L f):ay (aY L n (ixB L q.1.id) q.1 q.2)∈aa (bD L f n):=h.pairs_perm.mem_iff.2 (ze8.2 ⟨q,hq,rfl⟩)
theorem Cov.cx (p:Int):Cx p (aR L f) dmP Go.Proofs.YtkbagdedfdfjhaaGreatDoor.entP:=by
 refine⟨?_,fun x hx y hy hne=>?_,fun x hx z hz=>?_⟩
 ·have h1:=h.ids;rw[h.pairs_blow,zi2] at h1;exact List.Pairwise.of_map _ (fun a b hab e=>hab (zd8 _ e)) h1
 ·rw[← h.entP hx hy];exact .of (Gy h.right (h.inB hx) (h.inB hy) hne)
 ·have h1:=Ez h.right (h.inB hx) (h.inB hz);rw[fY (h.pairs_perm.map _),zi2] at h1;refine Eqm.of ((zd8 List.sum (zc5 fun y hy=>?_)).trans h1);show _=d4 _ _ * d4 _ _;rw[h.entP hy hz,h.entP hx hy,Int.mul_comm]
end
section
variable {L:List Cl}{f:Int→Nat}{n:Nat}(h:Cov L f n)(hpos:∀ c∈L,0<f c.id)
include h
include hpos
end
end Go.Proofs.YtkbagdedfdfjhaaGreatDoor
