/- 15 -/
import Derived.Test.YtcfkpajlakidbaaGreatDoorTm14
import Derived.Test.YtcfkpajlakidbaaGreatDoorTm10
import Derived.Test.YtcfkpajlakidbaaGreatDoorTm09
import Derived.Test.YtcfkpajlakidbaaGreatDoorTm11
import Derived.Test.YtcfkpajlakidbaaGreatDoorTm06
import Derived.Test.YtcfkpajlakidbaaGreatDoorTm08
import Derived.Test.YtcfkpajlakidbaaGreatDoorTm07
import Derived.Test.YtcfkpajlakidbaaGreatDoorTm13
import Derived.Test.YtcfkpajlakidbaaGreatDoorTm12
set_option linter.unusedSimpArgs false
set_option linter.unusedVariables false
namespace Go.Proofs.YtcfkpajlakidbaaGreatDoor
open _root_.Go.Proofs.Tryz _root_.Go.Proofs.YtcfkpajlakidbaaGreatDoor.Tryz
open Go Go.Sy Go.Pl Go.Proofs
set_option maxRecDepth 100000
set_option maxHeartbeats 4000000
def Pgs (g:PH)(v:Value)(P:List (List (List Int))):Prop:=∃ rs,SlA aY g v rs∧aA (fun (Q:List (List Int)) (r:Sv)=>aM g (.slice r.p r.n r.c) Q) P rs
theorem Pgs.mono {g g':PH}{v:Value}{P:List (List (List Int))}(h:Pgs g v P)(hl:Le g g'):Pgs g' v P:=by
 obtain ⟨rs,h1,h2⟩:=h;exact⟨rs,za3 h1 hl,h2.mono fun _ _ h=>h.mono hl⟩
theorem Pgs.nil (g:PH):Pgs g (.slice none 0 0) []:=⟨[],zb8 g _,trivial⟩
theorem AO {α:Type}[DecidableEq α]{P:List α}{n:Nat}(h1:1<n)(hn:n≤P.length):jV (P.take n)=if P[n - 1]'oM=P[n - 2]'oM then jV (P.take (n - 1)) else P.take n:=by
 have e1:P.take n=P.take (n - 2)++[P[n - 2]'oM]++[P[n - 1]'oM]:=by
  have a1:=tS (l:=P) (i:=n - 1) oM;have a2:=tS (l:=P) (i:=n - 2) oM;rw[show n - 2+1=n - 1 by omega] at a2;rw[show n - 1+1=n by omega] at a1;rw[a1,a2]
 have e2:P.take (n - 1)=P.take (n - 2)++[P[n - 2]'oM]:=by
  have a2:=tS (l:=P) (i:=n - 2) oM;rwa [show n - 2+1=n - 1 by omega] at a2
 rw[e1,e2];generalize P.take (n - 2)=q;generalize P[n - 2]'oM=a;generalize P[n - 1]'oM=b;unfold jV;rw[List.reverse_append,List.reverse_append];show (py (b::a::q.reverse)).reverse=if b=a then (py (a::q.reverse)).reverse else q++[a]++[b]
 conv=>lhs; unfold py
 split
 ·rfl
 ·simp
theorem CF {α:Type}[DecidableEq α]{P:List α}{n:Nat}(h:¬ 1<n):jV (P.take n)=P.take n:=by
 have hl:(P.take n).length≤1:=by rw[zd8]; omega
 generalize P.take n=q at hl
 match q,hl with
 | [],_=>rfl
 | [a],_=>rfl
theorem rq {L:List Cl}(hL:Rt L){T:List (List Int)}(hT:T.length≤6):∀ c∈dM L T,c.id<4611686018427387904:=fun z hz=>by
 obtain ⟨d,hd,rfl⟩:=ze6.1 hz;have hd:=(cU _ _).1 hd;rw[ru] at hd;obtain ⟨c,hc,s,hs,rfl⟩:=(lm hL).1 hd;have h1:=sub_le (cH.1 hs).2;have h2:=FG L c.id hT;have h3:=(ze9.1 (hL.ix_get hc)).1;have h4:=hL.few;have h5:=Eh (i:=ixB L c.id) (s:=s) hT oM oM;show bId T.length (ixB L c.id) s<_;omega
theorem Aq {l:List Cl}(h:(aN l).2=0) : -1≤zw l∧zw l≤8:=by
 have hr:=fJ h;have ht:ae l=aa l:=aR hr.asc;have key:∀ (q:List Cl) (m:Int),(∀ c∈q,c.dim≤8) → -1≤m→m≤8 → -1≤uT q m∧uT q m≤8:=by
  intro q;induction q with
  | nil=>exact fun m _ h1 h2=>⟨h1,h2⟩
  | cons c q ih =>
   intro m hq h1 h2;have hc:=hq c (by simp);exact ih (max m c.dim) (fun d hd=>hq d (by simp[hd])) oM oM
 unfold zw;rw[ht];exact key _ _ (fun c hc=>(hr.form c hc).dim.2) dC dC
theorem Ac {B:List Cl}{c:Cl}(hc:c∈B)(h:200<(B.filter fun x=>decide (x.dim=c.dim)).length):uq B=true:=zj1.2 ⟨c,hc,zf3 h⟩
theorem E3 {B:List Cl}(h:∀ d:Int,(B.filter fun x=>decide (x.dim=d)).length≤200):uq B=false:=by
 rw[Bool.eq_false_iff];intro k;obtain ⟨c,hc,h2⟩:=zj1.1 k;have:=h c.dim;simp at h2;omega
theorem Tryz.build107 (b mb mk:Nat)(p:Int)(w:World):(Instr.build 107 #[(0,pp b 0),(1,vi p),(2,.map (some mb)),(3,.map (some mk))]).run Tryz.prog w = .ok (.agg #[pp b 0,vi p,.map (some mb),.map (some mk)]) w:=by
 have h1:∀ n,(vi n).cells = #[vi n]:=fun _=>rfl;have h2:(pp b 0).cells = #[pp b 0]:=rfl;have h3:∀ m:Nat,(Value.map (some m)).cells = #[.map (some m)]:=fun _=>rfl;simp[Instr.build,Instr.fill,h1,h2,h3];rfl
theorem tu {rf:List Cl→List Cl→Nat}{n:Nat}{B:List Cl}{D:Nat}{r:Int}:(Cp rf n B D r).length=n:=by
 unfold Cp;rw[ze1,zh8]
theorem md {α:Type}(f:Nat→α)(k:Nat):(List.range (k+1)).map f=(List.range k).map f++[f k]:=by
 rw[List.range_succ,zf9];rfl
theorem EH {ms:Mk}{j:Nat}{k:Int}{v:Value}{l:List Rc}(h:ms[j]?=some (k,v,l)){hd:Own}(s:Own){x:Ent}(hh:hd.length=6):((hd++(fK ms++s)).set (j+6) x)[j+6]?=some x:=by
 have hj:=(ze9.1 h).1;rw[List.getElem?_set_self];simp only[zd9,fK,ze1];omega
theorem qw {rf:List Cl→List Cl→Nat}{n:Nat}{B:List Cl}{D:Nat}:(ko rf n B D).length=n:=by
 unfold ko;rw[ze1,zh8]
theorem uG {rf:List Cl→List Cl→Nat}{n:Nat}{B:List Cl}{D:Nat}:∀ Q∈ko rf n B D,Q.length=n∧∀ x∈Q,x.length=D:=fun Q h=>by
 obtain ⟨r,-,rfl⟩:=ze6.1 h;refine⟨tu,fun x hx=>?_⟩;obtain ⟨a,-,rfl⟩:=ze6.1 hx;rw[ze1,zh8]
theorem Tryz.sty51:STy Tryz.prog 51 22 1 24 (.slice none 0 0):=⟨underlying51,⟨t22,by kernel_rfl,by kernel_rfl,by kernel_rfl,by kernel_rfl⟩,rfl,by decide⟩
theorem qv (E:World)(hE:E.drawn=0)(g:PH)(s:Own)(v tv:Value)(l:List Cl)(T:List (List Int))(p:Int)(hv:am g v l)(hf:dg l)(hw:∀ c∈l,dn c.id)(ht:aM g tv T)(hT:T.length<1099511627776)(hTl:∀ t∈T,t.length<1099511627776)(hp2:2≤p)(hp9:p<9) :
  Ctr Tryz.prog E 18 #[.agg #[v],tv,vi p] g s (fun x g' s'=>s=s'∧Le g g'∧∃ u,x = .tuple #[u,vi (em l T p)]∧Pgs g' u (dj l T p)):=by
 obtain ⟨vp,vc,rfl⟩:=hv.form;have hnone:em l T p≠0→dj l T p=[]:=fun h=>by unfold dj; rw[zf5 h]
 refine za9 (args:=[.agg #[.slice vp l.length vc],tv,vi p]) func18 I ntmps18 (bE I) ?_;refine rZ (bW (bO I) fun b3=>?_);refine lA I (aT I (sQ (sW I (lW (cL call51 I (qq E g _ p hp2 hp9)) ?_))));rintro _ _ _ ⟨rfl,rfl,rfl⟩;refine lU (SU.not I) (tZ ?_);refine iQ I (fun hpr=>?_) (fun hpr=>?_)
 ·have hpr:kh p=false:=by simpa using hpr
  refine rZ (lA I (aT I (rE (tR ?_))));have he:em l T p=46:=by unfold em; rw[zf5 hpr]
  refine dR (s':=s) uR ?_;exact ST.ret2 (.inl I) results18 I I ⟨I,zb7 g,_,by rw[he],by rw[hnone (by rw[he]; decide)]; exact Pgs.nil g⟩
 ·have hpr:kh p=true:=by simpa using hpr
  have hp:=im.1 hpr;refine kP (tN (rZ (lK (qV 0 ba au I I I) (lM I (lW (cL call32 I (lk E hE g _ _ tv l T hv hf hw ht hT hTl)) ?_)))));rintro _ g1 _ ⟨rfl,hle1,pv,rfl,hcov⟩;refine lM I (yX I (yX I (lA I (aT I (sQ (sW I (lU (nQ I I) (tZ ?_))))))));refine iP I (fun hop=>?_) (fun hop=>?_)
  ·refine sW I (lA I (aT I (rE (tR ?_))));have he:em l T p=ee l T:=by unfold em; rw[zf4 (by rw[hpr]; simp),zf5 hop]
   refine dR (s':=s) uR ?_;exact ST.ret2 (.inl I) results18 I I ⟨I,hle1,_,by rw[he]; rfl,by rw[hnone (by rw[he]; exact hop)]; exact Pgs.nil _⟩
  ·have hop0:ee l T=0:=zg4 hop;have hcov:=hcov hop0;obtain ⟨hok,hT6⟩:=gx hop0;have hRt:=fJ hok;have hLt:ae l=aa l:=aR hRt.asc;have hRt:Rt (ae l):=by rw[hLt]; exact hRt
   have hBf:=bH (lr hRt hT6);have hBlt:=rq hRt hT6;have hdim:=Aq hok;refine kP (tN (sW I (lW (cL call33 I (pd E g1 _ pv (ae l) T hcov hRt hT6)) ?_)));rintro _ g2 _ ⟨rfl,hle2,u,rfl,hu⟩;obtain ⟨up,uc,rfl⟩:=hu.form;refine bW (aL zk7) fun b10=>?_;refine oZ (sK 0 au I I I I I ⟨I,trivial⟩) (tZ (sQ (rZ (lK (qV 0 ba au I I I) (lW (cL call13 I (ir E g2 _ _ (dM (ae l) T) hu hBf)) ?_)))));rintro _ _ _ ⟨rfl,rfl,rfl⟩;refine lM I (yX I (yX I (lA I (aT I (sW I (lU (nQ I I) (tZ ?_)))))));refine iP I (fun hbl=>?_) (fun hbl=>?_)
   ·refine rZ (lA I (aT I (rE (tR ?_))));have he:em l T p=2:=by unfold em; rw[zf4 (by rw[hpr]; simp),zf4 hop,zf5 (.inl hbl)]
    refine dR (s':=s) uR ?_;exact ST.ret2 (.inl I) results18 I I ⟨I,hle1.trans hle2,_,by rw[he],by rw[hnone (by rw[he]; decide)]; exact Pgs.nil _⟩
   ·have hBR:Rt (dM (ae l) T):=by
     have:=fJ (zg4 hbl);unfold dM at this ⊢;rwa [gz] at this
    generalize hBd:dM (ae l) T=B at *;obtain ⟨us,hus,hallu⟩:=hu;have hul:=hallu.length;obtain ⟨bc,mc,cv,iv,rfl,hbc,-⟩:=id hcov;refine kP (tN (sW I (lM I (lW (SO.mkMap) ?_))));rintro _ _ _ ⟨b46,rfl,rfl,rfl⟩;refine lW (SO.mkKn (F:=fun a low dim=>gI (rkP p) T.length B a low dim)) ?_;rintro _ _ _ ⟨b47,rfl,rfl,rfl⟩;refine lU (za1 I (build107 _ _ _ _)) (bW (bO I) fun b49=>?_);refine aT I (sQ (rZ (lU (fA eU I dN I) (lK (qL (v:=.slice up B.length uc) fD I (cO 3 I I)) (lU (eN aK I) (lM I (tZ (bK ?_))))))));refine oP (ι:=Nat×Mk) (fun z=>[(3,pp b3 0),(8,pp bc 0),(10,pp b10 0),(13,pp b49 0),(51,.slice up B.length uc),(52,vi B.length),(53,vi z.1)]) (fun _=>g2) (fun z=>pt b49 (.cells #[pp bc 0,vi p,.map (some b46),.map (some b47)] 107 (0,0))::knE b47 (fun a low dim=>gI (rkP p) T.length B a low dim)::mp b46 (pk z.2)::pt b10 (.cells #[.slice up B.length uc] 31 (0,0))::pt b3 (.cells #[.slice vp l.length vc] 31 (0,0))::(fK z.2++s)) (fun z=>z.1≤us.length∧(∀ d,ny (pL z.2) d=(us.take z.1).filter fun r=>decide (r.dim=d))∧∀ d:Int,((us.take z.1).filter fun r=>decide (r.dim=d)).length≤200) (fun z=>us.length - z.1) (0,[]) sB I I ⟨zf1 _,fun _=>I,fun _=>by simp⟩ ?_;rintro ⟨k,ms⟩ ⟨hk,hcon,hcnt⟩;dsimp only at hk hcon hcnt ⊢;refine rZ (yL I (tZ (sQ ?_)));refine iP I (fun hlt=>?_) (fun hlt=>?_)
    ·have hkr:k<us.length:=oM;have hkB:k<B.length:=oM;have hb1:=za4 hus oM;have hgr:us[((k:Nat):Int).toNat]?=some us[k]:=gE hkr;have hsn:=BH hkr;have hR:=hallu.get (gE hkB) (gE hkr);have hmB:B[k]∈B:=gM hkB;have hfB:=(nu hallu B[k].dim).length;have hsub:∀ d:Int,((us.take (k+1)).filter fun r=>decide (r.dim=d)).length≤(us.filter fun r=>decide (r.dim=d)).length:=fun d=>((List.take_sublist _ _).filter _).length_le;have hlB:=hBR.few;generalize us[k]=x at *;generalize B[k]=y at *;obtain ⟨xi,xd,xp,xn,xc⟩:=x;obtain ⟨-,hyd,-⟩:=hR;dsimp only at hyd hsn;obtain ⟨ms1,j0,v0,l0,hp0,hp1,hp2,hp3,hp4,-,hp5⟩:=Gp ms xd;have hl0:l0.length≤200:=by rw[← hp0,hcon]; exact hcnt _
     have hl1:((us.take (k+1)).filter fun r=>decide (r.dim=xd))=l0++[⟨xi,xd,⟨xp,xn,xc⟩⟩]:=by rw[hsn,zf5 rfl,← hp0,hcon]
     refine kP (tN (sQ (bK (rZ (lU (iA aK ax I I hb1 oM sL) (lK (eA fB ax I (za5 hus) hgr) (bW (aL zk5) fun b15=>?_)))))));refine oZ (sK 0 ax I I I I I sB) (tZ (sQ ?_));refine SC.to (fun w hw=>hp5 E g2 [pt b15 (.cells #[vi xi,vi xd,.slice xp xn xc] 64 (0,0)),pt b49 (.cells #[pp bc 0,vi p,.map (some b46),.map (some b47)] 107 (0,0)),knE b47 (fun a low dim=>gI (rkP p) T.length B a low dim),mp b46 (pk ms),pt b10 (.cells #[.slice up B.length uc] 31 (0,0)),pt b3 (.cells #[.slice vp l.length vc] 31 (0,0))] s w hw) ?_;refine SC.drawT 6 [16] [(0,2),(1,2),(2,2),(3,1),(4,2),(5,1),(6,2),(7,2),(8,2),(9,1),(10,2),(11,1),(12,1),(13,1),(14,0),(15,0),(16,0)] zd7 kR ?_;refine yM rfl (pU rfl (nC rfl) (pU rfl (fA mF rfl sizeOf104 rfl) (pK rfl (qL (v:=.map (some b46)) isAgg104 rfl (cO 1 rfl rfl)) (pU rfl (fA ao rfl zT3 rfl) (pK rfl (qL (v:=vi xd) iT3 rfl (cO 0 rfl rfl)) (yM rfl (pU rfl (nC rfl) (pU rfl (fA mF rfl sizeOf104 rfl) (pK rfl (qL (v:=.map (some b46)) isAgg104 rfl (cO 1 rfl rfl)) (pU rfl (fA ao rfl zT3 rfl) (pK rfl (qL (v:=vi xd) iT3 rfl (cO 0 rfl rfl)) (pK rfl (SQ.eq (v':=v0) (SQ.lookup mty104 rfl rfl (ce.own 3 rfl)) hp2) (pK rfl (qV 0 fB ax rfl rfl rfl) (SP.o rfl (bS sty29 rfl rfl rfl (ab ⟨rfl,trivial⟩) dC) dC (.inr (by rintro _ _ _ ⟨b71,rfl,rfl,rfl⟩; exact⟨by exact zb7 _,(by exact .cons _ (List.take_sublist _ _))⟩)) ?_))))))))))))));rintro _ _ _ ⟨b71,rfl,rfl,rfl⟩;refine SP.o rfl (aP (e:=encCell) (l:=l0) (j0+6) ⟨xi,xd,⟨xp,xn,xc⟩⟩ sty29 rfl rfl rfl (Ba hp1 s) rfl oM oM) dC (.inr (by rintro v72 _ _ ⟨rfl,rfl⟩; exact⟨by exact zb7 _,(by exact fo _ _ _ _)⟩)) ?_;rintro v72 _ _ ⟨rfl,rfl⟩;refine zc8 fun ⟨w0,hw0⟩=>?_;obtain ⟨q72,d72,rfl⟩:=ag (e:=encCell) (l:=l0++[⟨xi,xd,⟨xp,xn,xc⟩⟩]) (i:=j0+6) hw0 (EH hp1 s rfl);clear hw0 w0;refine SP.on I (SO.mapUpdate 3 mty104 I I I I) (.inl dC) ?_;rintro _ _ _ ⟨rfl,rfl⟩;refine pN (tN (sQ (SC.drop (s':=pt b15 (.cells #[vi xi,vi xd,.slice xp xn xc] 64 (0,0))::pt b49 (.cells #[pp bc 0,vi p,.map (some b46),.map (some b47)] 107 (0,0))::knE b47 (fun a low dim=>gI (rkP p) T.length B a low dim)::mp b46 (pk (ms1.set j0 (xd,Value.slice q72 (l0++[(⟨xi,xd,⟨xp,xn,xc⟩⟩:Rc)]).length d72,l0++[(⟨xi,xd,⟨xp,xn,xc⟩⟩:Rc)])))::pt b10 (.cells #[.slice up B.length uc] 31 (0,0))::pt b3 (.cells #[.slice vp l.length vc] 31 (0,0))::(fK (ms1.set j0 (xd,Value.slice q72 (l0++[(⟨xi,xd,⟨xp,xn,xc⟩⟩:Rc)]).length d72,l0++[(⟨xi,xd,⟨xp,xn,xc⟩⟩:Rc)]))++s)) (by rw[← hp3,← A9 hp1 s]; exact .refl _) ?_)));refine dW [] [(0,2),(1,2),(2,2),(3,1),(4,2),(5,1),(6,1),(7,2),(8,2)] zd7 kR ?_;refine yM I (pU I (nC I) (pU I (fA mF I sizeOf104 I) (pK I (qL (v:=.map (some b46)) isAgg104 I (cO 1 I I)) (pU I (fA ao I zT3 I) (pK I (qL (v:=vi xd) iT3 I (cO 0 I I)) (pK I (SQ.eq (v':=Value.slice q72 (l0++[(⟨xi,xd,⟨xp,xn,xc⟩⟩:Rc)]).length d72) (SQ.lookup mty104 I I (ce.own 3 I)) (by rw[← hp3,nY,zf5 I]; rfl)) ?_))))));refine pU I (eN aK I) (pU I (gR I I) (pN (tN ?_)));refine iP I (fun hbig=>?_) (fun hbig=>?_)
     ·have hmany:uq B=true:=Ac hmB (by
       rw[hfB,← hyd];have:=hsub xd;rw[hl1] at this;omega)
      have he:em l T p=2:=by unfold em; rw[zf4 (by rw[hpr]; simp),zf4 hop,hBd,zf5 (.inr hmany)]
      refine rZ (lA I (aT I (rE (bR (tR (tR (bR (tR (dR (s':=s) (.cons _ (.cons _ (.cons _ (.cons _ (.cons _ (.cons _ (List.sublist_append_right _ _))))))) ?_)))))))));exact ST.ret2 (.inl I) results18 I I ⟨I,hle1.trans hle2,_,by rw[he],by rw[hnone (by rw[he]; decide)]; exact Pgs.nil _⟩
     ·refine kP (bN (tN (rG (yD I (lM I (nL (dR (.cons _ (.refl _)) ?_)))))));exact ST.again (k+1,(ms1.set j0 (xd,Value.slice q72 (l0++[(⟨xi,xd,⟨xp,xn,xc⟩⟩:Rc)]).length d72,l0++[(⟨xi,xd,⟨xp,xn,xc⟩⟩:Rc)]))) sB I I ⟨by dsimp only; omega,fun d=>by
       dsimp only;rw[hp4,xe,hcon,hcon,hsn];by_cases e:d=xd
       ·subst e; rfl
       ·rw[zf4 e,zf4 e],fun d=>by
       dsimp only;by_cases e:d=xd
       ·rw[e,hl1]; omega
       ·rw[hsn,zf4 e]; exact hcnt d⟩ (by dsimp only; omega)
    ·have hke:k=us.length:=oM;subst hke;rw[List.take_length] at hcon hcnt;refine xI (tX (tX (bX (tN (sQ (SC.freeze fun g3 hl3 hb49=>?_))))));refine cP (s':=mp b46 (pk ms)::pt b10 (.cells #[.slice up B.length uc] 31 (0,0))::pt b3 (.cells #[.slice vp l.length vc] 31 (0,0))::(fK ms++knE b47 (fun a low dim=>gI (rkP p) T.length B a low dim)::s)) (List.perm_middle (a:=knE b47 (fun a low dim=>gI (rkP p) T.length B a low dim)) (l₁:=mp b46 (pk ms)::pt b10 (.cells #[.slice up B.length uc] 31 (0,0))::pt b3 (.cells #[.slice vp l.length vc] 31 (0,0))::fK ms) (l₂:=s)).symm ?_;refine SC.freezeMap fun g4 hl4 hmp=>?_;refine SC.freeze fun g5 hl5 hb10=>?_;refine SC.freeze fun g6 hl6 hb3=>?_;refine SC.freezeKs fun g7 hl7 hks=>?_;refine rG (aT I (sQ (sW I (lU (nC I) (lU (fA mY I zT3 I) (lK (qL (v:=vi T.length) iT3 I (cK ((hle2.trans (hl3.trans (hl4.trans (hl5.trans (hl6.trans hl7))))) _ _ hbc) I)) (lM I (tZ (bK ?_)))))))));have hcnt':∀ d:Int,(B.filter fun c=>decide (c.dim=d)).length≤200:=fun d=>by
      rw[(nu hallu d).length];exact hcnt d
     have hno:uq B=false:=E3 hcnt';have hl57:=hl5.trans (hl6.trans hl7);have hl37:=hl4.trans hl57;have hl27:=hl3.trans hl37;have hspec:ws g7 (pp b49 0) (ae l) T p B b47:=⟨b49,b46,pp bc 0,rfl,hl37 _ _ hb49,hcov.mono (hle2.trans hl27),Gb (hmp.mono hl57) hks (hallu.mono fun _ _=>ay.mono hl27) hcon⟩;have hbc7:=(hle2.trans hl27) _ _ hbc;have hb37:=hl7 _ _ hb3;have hv7:=hv.mono (hle1.trans (hle2.trans hl27));have hBok:Bok T.length B:=⟨hBR,hBlt,hcnt'⟩;have hD:zw l+1=((dimN l:Nat):Int):=by unfold dimN zw at *; omega
     have hD9:dimN l≤9:=oM;have he:em l T p=0:=by unfold em; rw[zf4 (by rw[hpr]; simp),zf4 hop,hBd,zf4]; rw[hno]; rintro (h | h); exact hbl h; cases h
     have hC:dj l T p=jV (ko (rkP p) T.length B (dimN l)):=by unfold dj; rw[zf4 (by rw[he]; simp),hBd]
     generalize dimN l=D at *;refine zb4 22 1 ?_;refine oP (ι:=PH×Nat×Value×List Sv) (fun z=>[(3,pp b3 0),(8,pp bc 0),(13,pp b49 0),(16,z.2.2.1),(86,vi T.length),(87,vi z.2.1)]) (fun z=>z.1) (fun z=>rowA aY 22 z.2.2.1 z.2.2.2::knE b47 (fun a low dim=>gI (rkP p) T.length B a low dim)::s) (fun z=>Le g7 z.1∧z.2.1≤T.length∧aA (fun (Q:List (List Int)) (r:Sv)=>aM z.1 (.slice r.p r.n r.c) Q) ((List.range z.2.1).map fun r:Nat=>Cp (rkP p) T.length B D ((r:Int)+1)) z.2.2.2) (fun z=>T.length - z.2.1) (g7,0,.slice none 0 0,[]) sB I I ⟨zb7 _,zf1 _,trivial⟩ ?_;rintro ⟨g8,k2,ov,os⟩ ⟨hle8,hk2,hacc⟩;dsimp only at hle8 hk2 hacc ⊢;have hol:=hacc.length;rw[ze1,zh8] at hol;refine rZ (yL I (tZ (sQ ?_)));refine iP I (fun hlt=>?_) (fun hlt=>?_)
     ·refine kP (tN (sQ (bK (sW I (aT I (rZ (aT I (sQ (sW I (lU (nC I) (lU (fA mY I zT3 I) (lK (qL (v:=vi T.length) iT3 I (cK (hle8 _ _ hbc7) I)) (lM I (tZ (bK (zb4 25 1 ?_))))))))))))))));refine oP (ι:=PH×Nat×Value×List Sv) (fun z=>[(3,pp b3 0),(8,pp bc 0),(13,pp b49 0),(16,ov),(17,vi k2),(18,z.2.2.1),(86,vi T.length),(87,vi k2),(93,vi T.length),(94,vi z.2.1)]) (fun z=>z.1) (fun z=>rowA aY 25 z.2.2.1 z.2.2.2::rowA aY 22 ov os::knE b47 (fun a low dim=>gI (rkP p) T.length B a low dim)::s) (fun z=>Le g8 z.1∧z.2.1≤T.length∧aA (cz z.1) ((List.range z.2.1).map fun a:Nat=>(List.range D).map fun b:Nat=>zr (rkP p) T.length B ((k2:Int)+1) a b) z.2.2.2) (fun z=>T.length - z.2.1) (g8,0,.slice none 0 0,[]) sB I I ⟨zb7 _,zf1 _,trivial⟩ ?_;rintro ⟨g9,k3,pv,ps⟩ ⟨hle9,hk3,hac2⟩;dsimp only at hle9 hk3 hac2 ⊢;have hpl:=hac2.length;rw[ze1,zh8] at hpl;have hle79:=hle8.trans hle9;refine rZ (yL I (tZ (sQ ?_)));refine iP I (fun hlt3=>?_) (fun hlt3=>?_)
      ·refine kP (tN (sQ (bK (sW I (aT I (rZ (aT I (sQ (rZ (lK (SQ.loadOne ba au I (cK (hle79 _ _ hb37) I)) (lW (cL call52 I (xm E g9 _ (.slice vp l.length vc) l (hv7.mono hle79) hf)) ?_)))))))))));rintro _ g10 _ ⟨rfl,rfl,hle10⟩;refine lU (SU.eq (v':=vi D) (aD I I oM) (zd6 vi hD)) (lM I (tZ (bK (zb4 3 1 ?_))));refine oP (ι:=PH×Nat×Value) (fun z=>[(3,pp b3 0),(8,pp bc 0),(13,pp b49 0),(16,ov),(17,vi k2),(18,pv),(19,vi k3),(20,z.2.2),(86,vi T.length),(87,vi k2),(93,vi T.length),(94,vi k3),(99,vi D),(100,vi z.2.1)]) (fun z=>z.1) (fun z=>rowA encInt 3 z.2.2 ((List.range z.2.1).map fun b:Nat=>zr (rkP p) T.length B ((k2:Int)+1) k3 b)::rowA aY 25 pv ps::rowA aY 22 ov os::knE b47 (fun a low dim=>gI (rkP p) T.length B a low dim)::s) (fun z=>Le g10 z.1∧z.2.1≤D) (fun z=>D - z.2.1) (g10,0,.slice none 0 0) sB I I ⟨zb7 _,zf1 _⟩ ?_;rintro ⟨g11,k4,iv⟩ ⟨hle11,hk4⟩;dsimp only at hle11 hk4 ⊢;have hle711:=hle79.trans (hle10.trans hle11);have hil:((List.range k4).map fun b:Nat=>zr (rkP p) T.length B ((k2:Int)+1) k3 b).length=k4:=by rw[ze1,zh8]
       refine rZ (yL I (tZ (sQ ?_)));refine iP I (fun hlt4=>?_) (fun hlt4=>?_)
       ·refine kP (tN (sQ (bK (sW I (aT I (rG (lM I (lM I (lM I (yD I (lM I (lM I (lW (cL call53 I (vO E g11 _ (pp b49 0) (ae l) T p hp B b47 3 ((k2:Int)+1) k3 k4 (hspec.mono hle711) hBok hT6 I oM oM oM)) ?_)))))))))))));rintro _ g12 _ ⟨rfl,rfl,hle12⟩;refine lW (bS sty25 I I I (ab ⟨I,trivial⟩) dC) ?_;rintro _ _ _ ⟨b110,rfl,rfl,rfl⟩;refine lW (aP (e:=encInt) (l:=(List.range k4).map fun b:Nat=>zr (rkP p) T.length B ((k2:Int)+1) k3 b) 0 (zr (rkP p) T.length B ((k2:Int)+1) k3 k4) sty25 I I I I I oM oM) ?_;rintro v111 _ _ ⟨rfl,rfl⟩;refine lA I (nL (bN (tN (rG (yD I (lM I (nL ?_)))))));exact ST.again (g12,k4+1,v111) sB I (by dsimp only; rw[md]; rfl) ⟨hle11.trans hle12,by dsimp only; omega⟩ (by dsimp only; omega)
       ·have hke4:k4=D:=oM;subst hke4;refine fS fun g12 hle12 hs12=>?_;obtain ⟨q12,c12,rfl⟩:=Sl.form hs12;rw[hil] at hs12 ⊢;refine xI (tX (tX (bX (tN (rG (lM I (lM I (lW (bS sty22 I I I (ab ⟨I,trivial⟩) dC) ?_))))))));rintro _ _ _ ⟨b115,rfl,rfl,rfl⟩;refine lW (aP (e:=aY) (l:=ps) 0 ⟨q12,k4,c12⟩ sty22 I I I I I oM oM) ?_;rintro v116 _ _ ⟨rfl,rfl⟩;refine lA I (nL (bN (tN (rG (yD I (lM I (nL ?_)))))));exact ST.again (g12,k3+1,v116,ps++[⟨q12,k4,c12⟩]) sB I I ⟨hle9.trans (hle10.trans (hle11.trans hle12)),by dsimp only; omega,by
         dsimp only;rw[md];refine (hac2.mono fun _ _=>cz.mono (hle10.trans (hle11.trans hle12))).append ⟨?_,trivial⟩;show Sl _ _ _ _ _;rw[hil];exact hs12⟩ (by dsimp only; omega)
      ·have hke3:k3=T.length:=oM;subst hke3;refine fS fun g10 hle10 hs10=>?_;obtain ⟨q10,c10,rfl⟩:=Sl.form hs10;refine xI (tX (tX (bX (tN (rG (lM I (lM I (lW (bS sty51 I I I (ab ⟨I,trivial⟩) dC) ?_))))))));rintro _ _ _ ⟨b120,rfl,rfl,rfl⟩;refine lW (aP (e:=aY) (l:=os) 0 ⟨q10,ps.length,c10⟩ sty51 I I I I I oM oM) ?_;rintro v121 _ _ ⟨rfl,rfl⟩;refine lA I (nL (bN (tN (rG (yD I (lM I (nL ?_)))))));exact ST.again (g10,k2+1,v121,os++[⟨q10,ps.length,c10⟩]) sB I I ⟨hle8.trans (hle9.trans hle10),by dsimp only; omega,by
        dsimp only;rw[md];exact (hacc.mono fun _ _ h=>h.mono (hle9.trans hle10)).append ⟨⟨ps,hs10,hac2.mono fun _ _=>cz.mono hle10⟩,trivial⟩⟩ (by dsimp only; omega)
     ·have hke2:k2=T.length:=oM;subst hke2;have hacc:aA (fun (Q:List (List Int)) (r:Sv)=>aM g8 (.slice r.p r.n r.c) Q) (ko (rkP p) T.length B D) os:=hacc;have hPAl:=qw (rf:=rkP p) (n:=T.length) (B:=B) (D:=D);have hPAs:=uG (rf:=rkP p) (n:=T.length) (B:=B) (D:=D);rw[hC];generalize ko (rkP p) T.length B D=PA at *;refine fS fun g9 hle9 hs9=>?_;obtain ⟨q9,c9,rfl⟩:=Sl.form hs9;have hacc:=hacc.mono fun _ _ h=>aM.mono h hle9;refine xI (tX (tX (bX (tN (rZ (aT I (sQ (bK ?_))))))));refine oP (ι:=Nat×Option Addr×Nat) (fun z=>[(16,.slice z.2.1 z.1 z.2.2),(22,.func (.func 54) #[] #[])]) (fun _=>g9) (fun _=>knE b47 (fun a low dim=>gI (rkP p) T.length B a low dim)::s) (fun z=>z.1≤os.length∧SlA aY g9 (.slice z.2.1 z.1 z.2.2) (os.take z.1)∧jV (PA.take z.1)=jV PA) (fun z=>z.1) (os.length,q9,c9) sB I I ⟨lR _,by dsimp only; rw[List.take_length]; exact hs9,by dsimp only; rw[← hol,← hPAl,List.take_length]⟩ ?_;rintro ⟨m,q,c⟩ ⟨hm,hsm,htr⟩;dsimp only at hm hsm htr ⊢;by_cases h1:1<m
      ·have hst:=AO (P:=PA) h1 oM;have hP1:PA[m - 1]'oM∈PA:=gM _;have hP2:PA[m - 2]'oM∈PA:=gM _;have hL1:=hacc.get (gE (i:=m - 1) oM) (gE (i:=m - 1) oM);have hL2:=hacc.get (gE (i:=m - 2) oM) (gE (i:=m - 2) oM);have hg1:(os.take m)[((m:Int) - 1).toNat]?=some (os[m - 1]'oM):=by
        rw[show ((m:Int) - 1).toNat=m - 1 by omega,zh5,zf5 oM];exact gE _
       have hg2:(os.take m)[((m:Int) - 2).toNat]?=some (os[m - 2]'oM):=by
        rw[show ((m:Int) - 2).toNat=m - 2 by omega,zh5,zf5 oM];exact gE _
       generalize PA[m - 1]'oM=Q1 at *;generalize PA[m - 2]'oM=Q2 at *;generalize os[m - 1]'oM=r1 at *;generalize os[m - 2]'oM=r2 at *;obtain ⟨p1,n1,c1⟩:=r1;obtain ⟨p2,n2,c2⟩:=r2;have hbm:=za4 hsm (by rw[zd8]; omega);have hmc:=(SlA.cap hsm).2;rw[zd8,Nat.min_eq_left hm] at hmc;have hcut:=SlA.cut (l:=0) (m:=m - 1) (k:=1) (e:=aY) (xs:=os.take m) (p:=q) (c:=c) (g:=g9) (by rw[zd8,Nat.min_eq_left hm]; exact hsm) (zf1 _) (by rw[zd8]; omega);rw[List.drop_zero,Nat.sub_zero,List.take_take,Nat.min_eq_left oM] at hcut;obtain ⟨q',c',hq'⟩:=za2 hcut;rw[zd8,Nat.min_eq_left oM] at hq';rw[hq'] at hcut;refine sQ (sQ ?_);refine dW [] [(0,2),(1,2),(2,2),(3,2),(4,2),(5,2),(6,2),(7,2),(8,2),(9,2),(10,1),(11,2),(12,2),(13,2),(14,2),(15,2),(16,1),(17,0),(18,2)] zd7 kR ?_;refine yM I (pU I (eN pH I) (pU I (SU.eq (v':=vb true) (gR I I) (zd6 vb (zf3 oM))) (yM I (yJ I (yJ I (yJ I (zb1 I (gT I I I dC) (eN pH I) dC (zb1 I (gT I I I dC) (sU I I oM) dC (zb1 I (gT I I I dC) (iA pH sO I I hbm oM sL) dC (SP.gq I (gT I I I dC) (eB (u:=.slice p1 n1 c1) isAgg22 I (za5 hsm) hg1 I) dC (yJ I (yJ I (zb1 I (gT I I I dC) (eN pH I) dC (zb1 I (gT I I I dC) (sU I I oM) dC (zb1 I (gT I I I dC) (iA pH sO I I hbm oM sL) dC (SP.gq I (gT I I I dC) (eB (u:=.slice p2 n2 c2) isAgg22 I (za5 hsm) hg2 I) dC (SP.go I (gT I I I dC) (SO.callV I I (cX.mk (cap:=[]) call54 (uF E g9 _ (.slice p1 n1 c1) (.slice p2 n2 c2) Q1 Q2 hL1 hL2 (by rw[(hPAs _ hP1).1]; omega) (fun x hx=>by rw[(hPAs _ hP1).2 x hx]; omega) (by rw[(hPAs _ hP2).1]; omega)))) dC (.inr iR) ?_)))))))))))))))));rintro _ _ _ ⟨rfl,rfl,rfl⟩;refine pU I (wT I I) (pN (tN ?_));refine iQ I (fun heq=>?_) (fun heq=>?_)
       ·rw[zf5 (by simpa using heq)] at hst;refine kP (tN (bK (rG (lM I (lM I (lU (eN pH I) (lU (sU I I oM) (lU (SU.eq (v':=.slice q' (m - 1) c') (SU.sliceH pH sO I I oM oM) (by rw[show ((m:Int) - 1).toNat=m - 1 by omega]; exact hq')) ?_))))))));refine lA I (nL (bN ?_));exact ST.again (m - 1,q',c') sB I I ⟨by dsimp only; omega,hcut,by dsimp only; rw[← hst]; exact htr⟩ (by dsimp only; omega)
       ·rw[zf4 (by simpa using heq)] at hst;refine xI (tX (tX (bX (tN (sW I (lA I (aT I (rE (dR (s':=s) uR ?_)))))))));exact ST.ret2 (.inl I) results18 I I ⟨I,hle1.trans (hle2.trans (hl27.trans (hle8.trans hle9))),_,by rw[he],by rw[← htr,hst]; exact⟨os.take m,hsm,aA.take m hacc⟩⟩
      ·have hst:=CF (P:=PA) h1;refine sQ (sQ ?_);refine dW [] [(0,2),(1,2),(2,2),(3,2),(4,2),(5,2),(6,2),(7,2),(8,2),(9,2),(10,1),(11,2),(12,2),(13,2),(14,2),(15,2),(16,1),(17,0),(18,2)] zd7 kR ?_;refine yM I (pU I (eN pH I) (pU I (SU.eq (v':=vb false) (gR I I) (zd6 vb (zf2 oM))) (yM I (yG I (yG I (yG I (yG I (yG I (yG I (yI I (yG I (yG I (yG I (yG I (yG I (yI I (fO I (gZ I I I dC) dC ⟨by exact zb7 _,(by exact .refl _)⟩ ?_)))))))))))))))));refine pU I (wF I I) (pN (tN (cF I (xI (tX (tX (bX (tN (sW I (lA I (aT I (rE (dR (s':=s) uR ?_)))))))))))));exact ST.ret2 (.inl I) results18 I I ⟨I,hle1.trans (hle2.trans (hl27.trans (hle8.trans hle9))),_,by rw[he],by rw[← htr,hst]; exact⟨os.take m,hsm,aA.take m hacc⟩⟩
structure PgOk (l:List Cl)(T:List (List Int))(p:Int):Prop where
 fp:Fp p
 opn:ee l T=0
 few:T.length≤6
 bok:Bok T.length (dM (ae l) T)
 dim:zw l+1=((dimN l:Nat):Int)
 dims:dimN l≤9
 eq:dj l T p=jV (ko (rkP p) T.length (dM (ae l) T) (dimN l))
theorem wh {B:List Cl}(h:uq B=false)(d:Int):(B.filter fun c=>decide (c.dim=d)).length≤200:=by
 cases hd:B.filter (fun c=>decide (c.dim=d)) with
 | nil=>simp
 | cons c q =>
  have hc:c∈B.filter fun c=>decide (c.dim=d):=by rw[hd]; simp
  obtain ⟨h1,h2⟩:=zg8.1 hc;have h2:c.dim=d:=zf7 h2;subst h2;rw[← hd];refine Nat.le_of_not_lt fun h3=>?_;rw[Ac h1 h3] at h;cases h
theorem wS {l:List Cl}{T:List (List Int)}{p:Int}(h:em l T p=0):PgOk l T p:=by
 have hC:dj l T p=jV (ko (rkP p) T.length (dM (ae l) T) (dimN l)):=by unfold dj; rw[zf4 (by rw[h]; simp)]
 unfold em at h;split at h
 ·cases h
 ·rename_i hpr;split at h
  ·rename_i hop; exact absurd h hop
  ·rename_i hop;have hop:=zg4 hop;split at h
   ·cases h
   ·rename_i hbl;have hbl1:(aN (dM (ae l) T)).2=0:=zg4 fun k=>hbl (.inl k);have hmany:uq (dM (ae l) T)=false:=Bool.eq_false_iff.2 fun k=>hbl (.inr k);obtain ⟨hok,hT6⟩:=gx hop;have hRt:=fJ hok;have hLt:ae l=aa l:=aR hRt.asc;have hRt:Rt (ae l):=by rw[hLt]; exact hRt
    have hBR:Rt (dM (ae l) T):=by
     have:=fJ hbl1;unfold dM at this ⊢;rwa [gz] at this
    have hdim:=Aq hok;have hD:zw l+1=((dimN l:Nat):Int):=by unfold dimN zw at *; omega
    exact⟨im.1 (by simpa using hpr),hop,hT6,⟨hBR,rq hRt hT6,wh hmany⟩,hD,oM,hC⟩
theorem s4 {α:Type}[DecidableEq α]:∀ {l:List α} {x:α},x∈py l→x∈l
 | [],_,h=>h
 | [_],_,h=>h
 | a::b::l,x,h=>by
  unfold py at h;split at h
  ·exact List.mem_cons_of_mem _ (s4 h)
  ·exact h
theorem AP {α:Type}[DecidableEq α]{l:List α}{x:α}(h:x∈jV l):x∈l:=by
 unfold jV at h;rw[List.mem_reverse] at h;have:=s4 h;rwa [List.mem_reverse] at this
theorem s5 {α:Type}[DecidableEq α]:∀ {l:List α},(py l).length≤l.length
 | []=>lR _
 | [_]=>lR _
 | a::b::l=>by
  unfold py;split
  ·exact zj8 s5 (Nat.le_succ _)
  ·exact lR _
theorem AQ {α:Type}[DecidableEq α]{l:List α}:(jV l).length≤l.length:=by
 unfold jV;rw[List.length_reverse];have:=s5 (l:=l.reverse);rwa [List.length_reverse] at this
theorem EZ {p:Int}(hp:Fp p){n:Nat}{B:List Cl}(hB:Bok n B)(r a b:Int):(zr (rkP p) n B r a b).natAbs≤800:=by
 have hbd:=wI hp hB;have b1:=hbd a (a - r) (a+b);have b2:=hbd (a - 1) (a - r) (a+b);have b3:=hbd (a+r - 1) a (a+b+1);have b4:=hbd (a+r - 1) (a - 1) (a+b+1);unfold zr;omega
theorem Db {l:List Cl}{T:List (List Int)}{p:Int}(h:em l T p=0):∀ Q∈dj l T p,Q.length=T.length∧∀ x∈Q,x.length=dimN l∧∀ y∈x,y.natAbs≤800:=fun Q hQ=>by
 have ho:=wS h;rw[ho.eq] at hQ;obtain ⟨r,-,rfl⟩:=ze6.1 (AP hQ);refine⟨tu,fun x hx=>?_⟩;obtain ⟨a,-,rfl⟩:=ze6.1 hx;refine⟨by rw[ze1,zh8],fun y hy=>?_⟩;obtain ⟨b,-,rfl⟩:=ze6.1 hy;exact EZ ho.fp ho.bok _ _ _
theorem Bi {l:List Cl}{T:List (List Int)}{p:Int}:(dj l T p).length≤T.length:=by
 unfold dj;split
 ·exact zf1 _
 ·refine zj8 AQ ?_;rw[qw];exact lR _
def uU (P:List (List Int))(d:Nat):Int:=((P.zipIdx.map fun q=>if q.2≤d then q.1.getD (d - q.2) 0 else 0)).sum
theorem gh (D:Nat)(P:List (List Int)):gv D P=(List.range D).map (uU P):=rfl
theorem lv (P:List (List Int))(x:List Int)(d:Nat):uU (P++[x]) d=uU P d+if P.length≤d then x.getD (d - P.length) 0 else 0:=by
 unfold uU;rw[List.zipIdx_append,zf9,List.sum_append];simp
theorem DI (P:List (List Int))(d:Nat):uU (P++[[]]) d=uU P d:=by rw[lv]; simp
theorem qf {m:Nat}:∀ {q:List Int},(∀ y∈q,y.natAbs≤m)→q.sum.natAbs≤q.length * m
 | [],_=>by simp
 | y::q,h=>by
  have h1:=h y (by simp);have h2:=qf (q:=q) fun z hz=>h z (by simp[hz]);rw[List.sum_cons,ze3,Nat.succ_mul];omega
theorem Fj {m:Nat}{P:List (List Int)}(h:∀ x∈P,∀ y∈x,y.natAbs≤m)(d:Nat):(uU P d).natAbs≤P.length * m:=by
 have:=qf (m:=m) (q:=P.zipIdx.map fun q=>if q.2≤d then q.1.getD (d - q.2) 0 else 0) fun y hy=>by
  obtain ⟨q,hq,rfl⟩:=ze6.1 hy;split
  ·rw[zg5];cases hx:q.1[d - q.2]? with
   | none=>simp
   | some y=>exact h q.1 (List.fst_mem_of_mem_zipIdx hq) y (zf6 hx)
  ·simp
 rwa [ze1,List.length_zipIdx] at this
theorem xE (D:Nat)(P:List (List Int))(x:List Int)(j:Nat)(hj:j<x.length):gv D (P++[x.take (j+1)])=(gv D (P++[x.take j])).set (P.length+j) (uU (P++[x.take j]) (P.length+j)+x[j]):=by
 rw[gh,gh];refine List.ext_getElem? fun d=>?_;rw[List.getElem?_set,zh4,zh4,ze1,zh8];by_cases hd:d<D
 ·rw[List.getElem?_range hd];show some _=if P.length+j=d then (if P.length+j<D then some (uU (P++[x.take j]) (P.length+j)+x[j]) else none) else some (uU (P++[x.take j]) d)
  rw[lv,lv,lv];have e1:x.take (j+1)=x.take j++[x[j]]:=tS hj;by_cases e:P.length+j=d
  ·subst e;rw[zf5 rfl,zf5 hd,zf5 oM,zf5 oM,Nat.add_sub_cancel_left,e1];simp[zg5,Nat.le_of_lt hj,zg7,gE hj]
  ·rw[zf4 e];congr 2;by_cases e2:P.length≤d
   ·rw[zf5 e2,zf5 e2,zg5,zg5];congr 1;rw[zh5,zh5];split <;> split <;> first | rfl | omega | skip
   ·rw[zf4 e2,zf4 e2]
 ·rw[List.getElem?_eq_none (by rw[zh8]; omega)];split
  ·rw[zf4 oM]; rfl
  ·rfl
theorem Fi {D:Nat}{P:List (List Int)}{x:List Int}{j:Nat}(hj:j<x.length)(h:¬ P.length+j<D):gv D (P++[x.take (j+1)])=gv D (P++[x.take j]):=by
 rw[xE D P x j hj,List.set_eq_of_length_le];rw[gh,ze1,zh8];omega
theorem y9 (E:World)(hE:E.drawn=0)(g:PH)(s:Own)(v tv:Value)(l:List Cl)(T:List (List Int))(p:Int)(hv:am g v l)(hf:dg l)(hw:∀ c∈l,dn c.id)(ht:aM g tv T)(hT:T.length<1099511627776)(hTl:∀ t∈T,t.length<1099511627776)(hp2:2≤p)(hp9:p<9) :
  Ctr Tryz.prog E 19 #[.agg #[v],tv,vi p] g s (fun x g' s'=>s=s'∧Le g g'∧∃ u,x = .tuple #[u,vi (em l T p)]∧cj g' u (jM l T p)):=by
 obtain ⟨vp,vc,rfl⟩:=hv.form;refine za9 (args:=[.agg #[.slice vp l.length vc],tv,vi p]) func19 I ntmps19 (bE I) ?_;refine rZ (bW (bO I) fun b3=>?_);refine lA I (aT I (rZ (lK (qV 0 ba au I I I) (lM I (lM I (lW (cL call18 I (qv E hE g _ _ tv l T p hv hf hw ht hT hTl hp2 hp9)) ?_))))));rintro _ g1 _ ⟨rfl,hle1,u,rfl,us,hus,hall⟩;obtain ⟨up,uc,rfl⟩:=za2 hus;have hlen:=hall.length;by_cases he:em l T p=0
 ·refine lM I (yX I (yX I (lA I (aT I (sQ (sW I (lU (SU.eq (v':=vb false) (nQ I I) (zd6 vb (by rw[he]; rfl))) ?_)))))));refine lM I (yC I (lY I I I (eN pH I) (lY I I I (eQ I I) (yF I (tZ ?_)))));refine iP I (fun h0=>?_) (fun h0=>?_)
  ·refine sW I (lA I (aT I (rE (tR ?_))));have hb:jM l T p=[]:=by unfold jM; rw[zf5 oM]
   refine dR (s':=s) uR ?_;exact ST.ret2 (.inl I) results19 I I ⟨I,hle1,_,I,by rw[hb]; exact zb8 _ _⟩
  ·have ho:=wS he;have hbd:=Db he;obtain ⟨hfp,-,hT6,hbok,hD,hD9,-⟩:=ho;have hb:jM l T p=gv (dimN l) ((dj l T p).getLastD []):=by unfold jM; rw[zf4 oM]
   have hpf:=Bi (l:=l) (T:=T) (p:=p);have hPl:us.length - 1<(dj l T p).length:=oM;have hQ:(dj l T p)[us.length - 1]?=some ((dj l T p)[us.length - 1]):=gE hPl;have hlast:(dj l T p).getLastD []=(dj l T p)[us.length - 1]:=by
    rw[List.getLastD_eq_getLast?,List.getLast?_eq_getElem?,hlen,hQ];rfl
   have hQm:=gM hPl;have hQR:=hall.get hQ (gE (i:=us.length - 1) oM);have hgu:us[((us.length:Int) - 1).toNat]?=some (us[us.length - 1]'oM):=by
    rw[show ((us.length:Int) - 1).toNat=us.length - 1 by omega];exact gE _
   rw[hlast] at hb;have hb1:=za4 hus oM;generalize (dj l T p)[us.length - 1]=Q at *;generalize us[us.length - 1]'oM=r1 at *;obtain ⟨p1,n1,c1⟩:=r1;obtain ⟨hQl,hQx⟩:=hbd Q hQm;obtain ⟨rs,hrs,hallr⟩:=hQR;dsimp only at hrs;obtain ⟨rfl,-⟩:=SlA.cap hrs;have hrl:=hallr.length;refine kP (tN (rZ (lK (qV 0 ba au I I I) (lW (cL call52 I (xm E g1 _ (.slice vp l.length vc) l (hv.mono hle1) hf)) ?_))));rintro _ g2 _ ⟨rfl,rfl,hle2⟩;refine lU (SU.eq (v':=vi (dimN l)) (aD I I oM) (zd6 vi hD)) (lW (mK encInt 0 sty25 I I I oM oM) ?_);rintro _ _ _ ⟨bl,rfl,rfl,rfl⟩;refine aT I (sQ (sW I (lM I (lU (eN pH I) (lU (sU I I oM) (lU (iA pH sO I I hb1 oM (show ((us.length:Int) - 1)<((us.length:Nat):Int) by omega)) ?_))))));refine lK (eB (u:=.slice p1 rs.length c1) isAgg22 I (za5 (za3 hus hle2)) hgu I) (lU (eN ct I) (lM I (tZ (bK ?_))));generalize dimN l=D at *;have h00:gv D []=List.replicate D 0:=by
    rw[gh,List.eq_replicate_iff];exact⟨by simp,fun b hb=>by obtain ⟨d,_,rfl⟩:=ze6.1 hb; rfl⟩
   rw[← h00];have hrs2:=za3 hrs hle2;refine oP (ι:=Nat) (fun a=>[(10,.slice (some ⟨bl,0,none⟩) D D),(39,.slice p1 rs.length c1),(40,vi rs.length),(41,vi a)]) (fun _=>g2) (fun a=>rowA encInt 3 (.slice (some ⟨bl,0,none⟩) D D) (gv D (Q.take a))::pt b3 (.cells #[.slice vp l.length vc] 31 (0,0))::s) (fun a=>a≤rs.length) (fun a=>rs.length - a) 0 sB I I (zf1 _) ?_;rintro a ha;refine rZ (yL I (tZ (sQ ?_)));refine iP I (fun hlt=>?_) (fun hlt=>?_)
   ·have har:a<rs.length:=oM;have haQ:a<Q.length:=oM;have hgr:rs[((a:Nat):Int).toNat]?=some rs[a]:=gE har;have hR:=hallr.get (gE haQ) (gE har);have hb2:=za4 hrs oM;have hxm:=gM haQ;have htk:Q.take (a+1)=Q.take a++[Q[a]]:=tS haQ;have hQtl:(Q.take a).length=a:=by rw[zd8]; omega
    have hQtm:∀ y∈Q.take a,∀ z∈y,z.natAbs≤800:=fun y hy=>(hQx y (List.mem_of_mem_take hy)).2;generalize Q.take a=Qa at *;generalize Q[a]=x at *;generalize rs[a]=r at *;obtain ⟨p2,n2,c2⟩:=r;have hR:cj g1 (.slice p2 n2 c2) x:=hR;obtain ⟨rfl,-⟩:=SlA.cap hR;obtain ⟨hxl,hxb⟩:=hQx x hxm;have hR2:=za3 hR hle2;refine kP (tN (sQ (bK (sW I (lU (iA ct cR I I hb2 oM sL) (lK (eB (u:=.slice p2 x.length c2) eC I (za5 hrs2) hgr I) (lA I (aT I (sW I (lU (eN aj I) (lM I (tZ (bK ?_)))))))))))));refine oP (ι:=Nat) (fun j=>[(10,.slice (some ⟨bl,0,none⟩) D D),(11,vi a),(39,.slice p1 rs.length c1),(40,vi rs.length),(41,vi a),(46,.slice p2 x.length c2),(47,vi x.length),(48,vi j)]) (fun _=>g2) (fun j=>rowA encInt 3 (.slice (some ⟨bl,0,none⟩) D D) (gv D (Qa++[x.take j]))::pt b3 (.cells #[.slice vp l.length vc] 31 (0,0))::s) (fun j=>j≤x.length) (fun j=>x.length - j) 0 sB I (by rw[show gv D (Qa++[x.take 0])=gv D Qa from zc5 fun d _=>DI Qa d]) (zf1 _) ?_;rintro j hj;refine rZ (yL I (tZ (sQ ?_)));refine iP I (fun hlt2=>?_) (fun hlt2=>?_)
    ·have hjx:j<x.length:=oM;have hb3:=za4 hR oM;have hgx:x[((j:Nat):Int).toNat]?=some x[j]:=gE hjx;have hst:=xE D Qa x j hjx;have hou:=Fi (D:=D) (P:=Qa) hjx;have hyb:=hxb _ (gM hjx);rw[hQtl] at hst hou;refine kP (tN (sQ (bK (sW I (lU (iA aj zT3 I I hb3 oM sL) (lK (eB iT3 I (za5 hR2) hgx I) (lA I (aT I (sW I (lM I (yD I (lM I (lU (eN aj I) (yL I (tZ ?_)))))))))))))));refine iP I (fun hin=>?_) (fun hin=>?_)
     ·have hin':a+j<D:=oM;have hBb:=Fj (P:=Qa++[x.take j]) (m:=800) (fun y hy=>by
       rcases ze7.1 hy with h | h
       ·exact hQtm y h
       ·rw[zh2] at h;subst h;exact fun z hz=>hxb z (List.mem_of_mem_take hz)) (a+j)
      rw[zd9,ze2,hQtl] at hBb;have hBk:(gv D (Qa++[x.take j]))[((a:Int)+j).toNat]?=some (uU (Qa++[x.take j]) (a+j)):=by
       rw[show ((a:Int)+j).toNat=a+j by omega,gh,zh4,List.getElem?_range hin'];rfl
      have hBl:(gv D (Qa++[x.take j])).length=D:=by rw[gh,ze1,zh8]
      generalize uU (Qa++[x.take j]) (a+j)=y0 at *;refine rG (lM I (lM I (lM I (yD I (lU (iA aj zT3 I I I oM sL) (lK (eB iT3 I (zb5 (e:=encInt) 0 I) hBk I) (lM I (yD I (lU (SU.eq (v':=.pointer (some ⟨bl,0+(a+j) * 1,none⟩)) (iA aj zT3 I I I oM sL) (by rw[show ((a:Int)+j).toNat=a+j by omega]; rfl)) ?_)))))))));refine oZ (sT (e:=encInt) (a:=y0+x[j]) (j:=a+j) 0 zT3 I I I (by rw[hBl]; exact hin') I) ?_;rw[← hst];refine nL (bN (tN (rG (yD I (lM I (nL ?_))))));exact ST.again (j+1) sB I I oM oM
     ·rw[← hou oM];refine kP (bN (tN (rG (yD I (lM I (nL ?_))))));exact ST.again (j+1) sB I I oM oM
    ·have hje:j=x.length:=oM;subst hje;rw[List.take_length,← htk];refine xI (tX (tX (bX (bN (tN (rG (yD I (lM I (nL ?_)))))))));exact ST.again (a+1) sB I I oM oM
   ·have hae:a=rs.length:=oM;subst hae;rw[← hrl,List.take_length,← hb];refine xI (tX (tX (bX (tN (sW I (lA I (aT I (rE ?_))))))));have hlb:(jM l T p).length=D:=by rw[hb,gh,ze1,zh8]
    refine fT fun g3 hle3 hs3=>?_;refine dR (s':=s) uR ?_;exact ST.ret2 (.inl I) results19 I I ⟨I,hle1.trans (hle2.trans hle3),_,by rw[he],by unfold cj SlA; rw[← hlb] at hs3 ⊢; exact hs3⟩
 ·refine lM I (yX I (yX I (lA I (aT I (sQ (sW I (lU (SU.eq (v':=vb true) (nQ I I) (zd6 vb (zf3 he))) (lM I (yA I (yA I (yA I (yP I (tZ (cT I (sW I (lA I (aT I (rE (tR ?_)))))))))))))))))));have hb:jM l T p=[]:=by
   unfold jM;rw[zf5];unfold dj;rw[zf5 he];rfl
  refine dR (s':=s) uR ?_;exact ST.ret2 (.inl I) results19 I I ⟨I,hle1,_,I,by rw[hb]; exact zb8 _ _⟩
set_option maxHeartbeats 1000000
theorem Ee (g:PH):am g (.slice none 0 0) []:=⟨[],zb8 g _,trivial⟩
theorem pP (E:World)(hE:E.drawn=0)(g:PH)(s:Own)(v tv:Value)(l:List Cl)(T:List (List Int))(hv:am g v l)(hf:dg l)(hw:∀ c∈l,dn c.id)(ht:aM g tv T)(hT:T.length<1099511627776)(hTl:∀ t∈T,t.length<1099511627776) :
  Ctr Tryz.prog E 11 #[.agg #[v],tv] g s (fun x g' s'=>s=s'∧Le g g'∧x=vi (ee l T)):=by
 obtain ⟨vp,vc,rfl⟩:=hv.form;refine za9 (args:=[.agg #[.slice vp l.length vc],tv]) func11 I ntmps11 (bE I) ?_;refine rZ (bW (bO I) fun b2=>?_);refine aT I (rZ (lK (qV 0 ba au I I I) (lM I (lW (cL call32 I (lk E hE g _ _ tv l T hv hf hw ht hT hTl)) ?_))));rintro _ g1 _ ⟨rfl,hle1,pv,rfl,-⟩;refine lM I (yX I (yX I (lA I (aT I (sW I (aT I (rE (dR (s':=s) uR ?_))))))));exact za6 (.inl I) results11 I ⟨I,hle1,I⟩
theorem Tryz.buildN31 (w:World):(Instr.build 31 #[]).run Tryz.prog w = .ok (.agg #[.slice none 0 0]) w:=by
 simp[Instr.build,Instr.fill];rfl
theorem kI (E:World)(hE:E.drawn=0)(g:PH)(s:Own)(v tv:Value)(l:List Cl)(T:List (List Int))(hv:am g v l)(hf:dg l)(hw:∀ c∈l,dn c.id)(ht:aM g tv T)(hT:T.length<1099511627776)(hTl:∀ t∈T,t.length<1099511627776) :
  Ctr Tryz.prog E 12 #[.agg #[v],tv] g s (fun x g' s'=>s=s'∧Le g g'∧∃ u,x = .agg #[u]∧am g' u (bh l T)):=by
 obtain ⟨vp,vc,rfl⟩:=hv.form;refine za9 (args:=[.agg #[.slice vp l.length vc],tv]) func12 I ntmps12 (bE I) ?_;refine rZ (bW (bO I) fun b2=>?_);refine bW (aL zk7) fun b4=>?_;refine tZ (rZ (lK (qV 1 ba au I I I) (lM I (lW (cL call32 I (lk E hE g _ _ tv l T hv hf hw ht hT hTl)) ?_))));rintro _ g1 _ ⟨rfl,hle1,pv,rfl,hcov⟩;refine lM I (yX I (yX I (lA I (aT I (sQ (sW I (lU (nQ I I) (tZ ?_))))))));refine iP I (fun hop=>?_) (fun hop=>?_)
 ·have hb:bh l T=[]:=by unfold bh; rw[zf5 (.inl hop)]
  refine rZ (lU (za1 I buildN31) (oZ (sK 0 au I I I I I ⟨I,trivial⟩) (tZ (rE (tR ?_)))));exact ST.retCD 0 s (.inl I) results12 I ba au I I uR ⟨I,hle1,_,I,by rw[hb]; exact Ee _⟩
 ·have hop0:ee l T=0:=zg4 hop;have hcov:=hcov hop0;obtain ⟨hok,hT6⟩:=gx hop0;have hRt:=fJ hok;have hLt:ae l=aa l:=aR hRt.asc;have hRt:Rt (ae l):=by rw[hLt]; exact hRt
  have hBf:=bH (lr hRt hT6);refine kP (tN (sW I (lW (cL call33 I (pd E g1 _ pv (ae l) T hcov hRt hT6)) ?_)));rintro _ g2 _ ⟨rfl,hle2,u,rfl,hu⟩;obtain ⟨up,uc,rfl⟩:=hu.form;refine bW (aL zk7) fun b7=>?_;refine oZ (sK 0 au I I I I I ⟨I,trivial⟩) (tZ (sQ (rZ (lK (qV 0 ba au I I I) (lW (cL call13 I (ir E g2 _ _ (dM (ae l) T) hu hBf)) ?_)))));rintro _ _ _ ⟨rfl,rfl,rfl⟩;refine lM I (yX I (yX I (lA I (aT I (sW I (lU (nQ I I) (tZ ?_)))))));refine iP I (fun hbl=>?_) (fun hbl=>?_)
  ·have hb:bh l T=[]:=by unfold bh; rw[zf5 (.inr hbl)]
   refine rZ (lU (za1 I buildN31) (oZ (sK 1 au I I I I I ⟨I,trivial⟩) (tZ (rE (tR ?_)))));exact ST.retCD 1 s (.inl I) results12 I ba au I I uR ⟨I,hle1.trans hle2,_,I,by rw[hb]; exact Ee _⟩
  ·have hb:bh l T=dM (ae l) T:=by unfold bh; rw[zf4]; rintro (h | h); exact hop h; exact hbl h
   refine kP (tN (rZ (lK (qV 0 ba au I I I) (oZ (sK 1 au I I I I I ⟨I,trivial⟩) (tZ (rE ?_))))));exact ST.retCD 1 s (.inl I) results12 I ba au I I uR ⟨I,hle1.trans hle2,_,I,by rw[hb]; exact hu⟩
set_option maxHeartbeats 2000000
theorem sz (E:World)(g:PH)(s:Own)(v u:Value)(P Q:List (List Int))(hv:aM g v P)(hu:aM g u Q)(hP:P.length<1099511627776)(hPl:∀ x∈P,x.length<1099511627776)(hQ:Q.length<1099511627776) :
  Ctr Tryz.prog E 57 #[v,u] g s (fun r g' s'=>r=vb (decide (P=Q))∧g=g'∧s=s'):=by
 obtain ⟨rs,hrs,hallr⟩:=hv;obtain ⟨qs,hqs,hallq⟩:=hu;have hlr:=hallr.length;have hlq:=hallq.length;obtain ⟨rp,rc,rfl⟩:=za2 hrs;obtain ⟨qp,qc,rfl⟩:=za2 hqs;refine za9 (args:=[.slice rp rs.length rc,.slice qp qs.length qc]) func57 I ntmps57 (bE I) ?_;refine rZ (aT I (sQ (sW I (lU (eN ct I) (lM I (lU (eN ct I) (lU (nQ I I) (tZ ?_))))))));refine iP I (fun hne=>?_) (fun hne=>?_)
 ·refine rZ (aT I (rE (tR ?_)));have h0:decide (P=Q)=false:=zf2 fun e=>hne (by rw[← hlr,← hlq,e]);exact za6 (.inl I) results57 I ⟨by rw[h0],I,I⟩
 ·have hlen:rs.length=qs.length:=oM;refine kP (tN (sQ (rZ (aT I (bK ?_)))));refine oP (ι:=Nat) (fun k=>[(0,.slice rp rs.length rc),(1,.slice qp qs.length qc),(5,vi k)]) (fun _=>g) (fun _=>s) (fun k=>k≤rs.length∧P.take k=Q.take k) (fun k=>rs.length - k) 0 sB I I ⟨zf1 _,I⟩ ?_;rintro k ⟨hk,heq⟩;refine sQ (sW I (lM I (lU (eN ct I) (yL I (tZ ?_)))));refine iP I (fun hlt=>?_) (fun hlt=>?_)
  ·have hkr:k<rs.length:=oM;have hkq:k<qs.length:=oM;have hkP:k<P.length:=oM;have hkQ:k<Q.length:=oM;have hb1:=za4 hrs oM;have hb2:=za4 hqs oM;have hgr:rs[((k:Nat):Int).toNat]?=some rs[k]:=gE hkr;have hgq:qs[((k:Nat):Int).toNat]?=some qs[k]:=gE hkq;have hR:=hallr.get (gE hkP) (gE hkr);have hQ':=hallq.get (gE hkQ) (gE hkq);have h1:P.take (k+1)=P.take k++[P[k]]:=tS hkP;have h2:Q.take (k+1)=Q.take k++[Q[k]]:=tS hkQ;have hpl:=hPl _ (gM hkP);have hdiff:P[k]≠Q[k]→decide (P=Q)=false:=fun h=>zf2 fun e=>h (by subst e; rfl);generalize P[k]=x at *;generalize Q[k]=y at *;generalize rs[k]=r at *;generalize qs[k]=q at *;obtain ⟨ap,an,ac⟩:=r;obtain ⟨bp,bn,bc⟩:=q;refine kP (tN (sQ (bK (sQ ?_))));refine dW [] [(0,2),(1,2),(2,2),(3,1),(4,2),(5,2),(6,2),(7,1),(8,0),(9,2)] zd7 kR ?_;refine yM I (yM I (pU I (iA ct cR I I hb1 oM sL) (pK I (eB (u:=.slice ap an ac) eC I (za5 hrs) hgr I) (yM I (yM I (pU I (iA ct cR I I hb2 oM sL) (pK I (eB (u:=.slice bp bn bc) eC I (za5 hqs) hgq I) (SP.o I (cL call21 I (tC E g s (.slice ap an ac) (.slice bp bn bc) x y hR hQ' oM)) dC (.inr iR) ?_))))))));rintro _ _ _ ⟨rfl,rfl,rfl⟩;refine pU I (aS I) (pN (tN (sW I (lU (SU.notP I) (tZ ?_)))));refine iQ I (fun hxy=>?_) (fun hxy=>?_)
   ·have hxy':x≠y:=by simpa using hxy
    refine rZ (aT I (rE (bR (tR (tR (bR (tR ?_)))))));exact za6 (.inl I) results57 I ⟨by rw[hdiff hxy'],I,I⟩
   ·have hxy':x=y:=by simpa using hxy
    refine kP (bN (tN (rG (lM I (yD I (lA I (nL ?_)))))));exact ST.again (k+1) sB I I ⟨oM,by rw[h1,h2,heq,hxy']⟩ oM
  ·have hkk:k=rs.length:=oM;subst hkk;rw[tL oM,tL oM] at heq;refine xI (tX (tX (bX (tN (rZ (aT I (rE ?_)))))));have h0:decide (P=Q)=true:=zf3 heq;exact za6 (.inl I) results57 I ⟨by rw[h0],I,I⟩
theorem pS (E:World)(g:PH)(s:Own)(v u:Value)(P Q:List (List (List Int)))(hv:Pgs g v P)(hu:Pgs g u Q)(hP:P.length<1099511627776)(hPl:∀ A∈P,A.length<1099511627776∧∀ x∈A,x.length<1099511627776)(hQ:Q.length<1099511627776)(hQl:∀ A∈Q,A.length<1099511627776) :
  Ctr Tryz.prog E 20 #[v,u] g s (fun r g' s'=>r=vb (decide (P=Q))∧g=g'∧s=s'):=by
 obtain ⟨rs,hrs,hallr⟩:=hv;obtain ⟨qs,hqs,hallq⟩:=hu;have hlr:=hallr.length;have hlq:=hallq.length;obtain ⟨rp,rc,rfl⟩:=za2 hrs;obtain ⟨qp,qc,rfl⟩:=za2 hqs;refine za9 (args:=[.slice rp rs.length rc,.slice qp qs.length qc]) func20 I ntmps20 (bE I) ?_;refine rZ (aT I (sQ (sW I (lU (eN pH I) (lM I (lU (eN pH I) (lU (nQ I I) (tZ ?_))))))));refine iP I (fun hne=>?_) (fun hne=>?_)
 ·refine rZ (aT I (rE (tR ?_)));have h0:decide (P=Q)=false:=zf2 fun e=>hne (by rw[← hlr,← hlq,e]);exact za6 (.inl I) results20 I ⟨by rw[h0],I,I⟩
 ·have hlen:rs.length=qs.length:=oM;refine kP (tN (sQ (rZ (aT I (bK ?_)))));refine oP (ι:=Nat) (fun k=>[(0,.slice rp rs.length rc),(1,.slice qp qs.length qc),(5,vi k)]) (fun _=>g) (fun _=>s) (fun k=>k≤rs.length∧P.take k=Q.take k) (fun k=>rs.length - k) 0 sB I I ⟨zf1 _,I⟩ ?_;rintro k ⟨hk,heq⟩;refine sQ (sW I (lM I (lU (eN pH I) (yL I (tZ ?_)))));refine iP I (fun hlt=>?_) (fun hlt=>?_)
  ·have hkr:k<rs.length:=oM;have hkq:k<qs.length:=oM;have hkP:k<P.length:=oM;have hkQ:k<Q.length:=oM;have hb1:=za4 hrs oM;have hb2:=za4 hqs oM;have hgr:rs[((k:Nat):Int).toNat]?=some rs[k]:=gE hkr;have hgq:qs[((k:Nat):Int).toNat]?=some qs[k]:=gE hkq;have hR:=hallr.get (gE hkP) (gE hkr);have hQ':=hallq.get (gE hkQ) (gE hkq);have h1:P.take (k+1)=P.take k++[P[k]]:=tS hkP;have h2:Q.take (k+1)=Q.take k++[Q[k]]:=tS hkQ;have hpl:=hPl _ (gM hkP);have hql:=hQl _ (gM hkQ);have hdiff:P[k]≠Q[k]→decide (P=Q)=false:=fun h=>zf2 fun e=>h (by subst e; rfl);generalize P[k]=x at *;generalize Q[k]=y at *;generalize rs[k]=r at *;generalize qs[k]=q at *;obtain ⟨ap,an,ac⟩:=r;obtain ⟨bp,bn,bc⟩:=q;refine kP (tN (sQ (bK (sQ ?_))));refine dW [] [(0,2),(1,2),(2,2),(3,1),(4,2),(5,2),(6,2),(7,1),(8,0),(9,2)] zd7 kR ?_;refine yM I (yM I (pU I (iA pH sO I I hb1 oM sL) (pK I (eB (u:=.slice ap an ac) isAgg22 I (za5 hrs) hgr I) (yM I (yM I (pU I (iA pH sO I I hb2 oM sL) (pK I (eB (u:=.slice bp bn bc) isAgg22 I (za5 hqs) hgq I) (SP.o I (cL call57 I (sz E g s (.slice ap an ac) (.slice bp bn bc) x y hR hQ' hpl.1 hpl.2 hql)) dC (.inr iR) ?_))))))));rintro _ _ _ ⟨rfl,rfl,rfl⟩;refine pU I (aS I) (pN (tN (sW I (lU (SU.notP I) (tZ ?_)))));refine iQ I (fun hxy=>?_) (fun hxy=>?_)
   ·have hxy':x≠y:=by simpa using hxy
    refine rZ (aT I (rE (bR (tR (tR (bR (tR ?_)))))));exact za6 (.inl I) results20 I ⟨by rw[hdiff hxy'],I,I⟩
   ·have hxy':x=y:=by simpa using hxy
    refine kP (bN (tN (rG (lM I (yD I (lA I (nL ?_)))))));exact ST.again (k+1) sB I I ⟨oM,by rw[h1,h2,heq,hxy']⟩ oM
  ·have hkk:k=rs.length:=oM;subst hkk;rw[tL oM,tL oM] at heq;refine xI (tX (tX (bX (tN (rZ (aT I (rE ?_)))))));have h0:decide (P=Q)=true:=zf3 heq;exact za6 (.inl I) results20 I ⟨by rw[h0],I,I⟩
def pX:List Cl:=[⟨1,0,[]⟩,⟨2,0,[]⟩,⟨3,0,[]⟩,⟨4,1,[⟨1,-1⟩,⟨2,1⟩]⟩,⟨5,1,[⟨1,-1⟩,⟨3,1⟩]⟩,⟨6,1,[⟨2,-1⟩,⟨3,1⟩]⟩]
theorem EL:bI [1,2]=[1,2]:=by
 unfold bI;rw[jA dC];rfl
theorem EM:bI [0,2]=[0,2]:=by
 unfold bI;rw[jA dC];rfl
theorem CP:bF [[0,1],[1,2],[0,2]]=pX:=by
 simp only[bF,aC,EN,EL,EM];rfl
theorem nn:dg pX:=Dw dC dC
theorem rm:∀ c∈pX,dn c.id:=by unfold dn; decide
theorem DD:ee pX [[4,6],[5]]=0:=by kernel_rfl
theorem Fe:ee pX [[4],[5]]=45:=by kernel_rfl
theorem BO:(aN (dM (ae pX) [[4,6],[5]])).2=0:=by kernel_rfl
theorem BP:(bh pX [[4,6],[5]]).length=10:=by
 unfold bh;rw[zf4 (by rintro (h | h); exact h DD; exact h BO)]
 kernel_rfl
theorem mi:em pX [[4,6],[5]] 2=0:=by kernel_rfl
theorem EQ:rkP 2=fun C R=>rkF C R jY:=funext fun C=>funext fun R=>FR C R jY
theorem tO:dj pX [[4,6],[5]] 2=[[[2,0],[2,0]],[[1,0],[1,0]]]:=by
 unfold dj;rw[zf4 (by rw[mi]; simp),EQ]
 kernel_rfl
theorem BQ:jM pX [[4,6],[5]] 2=[1,1]:=by
 unfold jM;rw[tO]
 kernel_rfl
theorem wk (E:World)(g:PH)(s:Own):Ctr Tryz.prog E 17 #[] g s (fun r g' s'=>s=s'∧Le g g'∧∃ u,r = .agg #[u]∧am g' u pX):=by
 refine za9 (args:=[]) func17 I ntmps17 (bE I) ?_;refine rZ (bW (aL zk7) fun b0=>?_);refine tZ (rZ (lW (bS sty25 I I I (ab sB) dC) ?_));rintro _ _ _ ⟨b1,rfl,rfl,rfl⟩;refine zb3 fun g1 hle1 hb1=>?_;refine lW (bS sty25 I I I (ab sB) dC) ?_;rintro _ _ _ ⟨b2,rfl,rfl,rfl⟩;refine zb3 fun g2 hle2 hb2=>?_;refine lW (bS sty25 I I I (ab sB) dC) ?_;rintro _ _ _ ⟨b3,rfl,rfl,rfl⟩;refine zb3 fun g3 hle3 hb3=>?_;refine lW (bS sty22 I I I (ab sB) dC) ?_;rintro _ _ _ ⟨b4,rfl,rfl,rfl⟩;refine zb3 fun g4 hle4 hb4=>?_;have hlit:aM g4 (.slice (some ⟨b4,0,none⟩) 3 3) [[0,1],[1,2],[0,2]]:=⟨[eV (.slice (some ⟨b1,0,none⟩) 2 2),eV (.slice (some ⟨b2,0,none⟩) 2 2),eV (.slice (some ⟨b3,0,none⟩) 2 2)],SlA.lit hb4 rfl rfl,⟨SlA.lit ((hle2.trans (hle3.trans hle4)) _ _ hb1) rfl rfl,SlA.lit ((hle3.trans hle4) _ _ hb2) rfl rfl,SlA.lit (hle4 _ _ hb3) rfl rfl,trivial⟩⟩;refine lW (cL call50 I (pw E g4 _ _ _ hlit dC dC)) ?_;rintro _ g5 _ ⟨rfl,hle5,u,rfl,hu⟩;rw[CP] at hu;obtain ⟨q,d,rfl⟩:=hu.form;refine oZ (sK 0 au I I I I I sB) ?_;refine tZ (rE ?_);exact ST.retCD 0 s (.inl I) results17 I ba au I I uR ⟨I,hle1.trans (hle2.trans (hle3.trans (hle4.trans hle5))),_,I,hu⟩
theorem sw (E:World)(hE:E.drawn=0)(g:PH)(s:Own):Ctr Tryz.prog E 5 #[] g s (fun r g' s'=>r=vb true∧s=s'∧Le g g'):=by
 refine za9 (args:=[]) func5 I ntmps5 (bE I) ?_;refine rZ (aT I (rZ (lW (cL call17 I (wk E g s)) ?_)));rintro _ g1 _ ⟨rfl,hle1,u,rfl,hu⟩;obtain ⟨q,d,rfl⟩:=hu.form;refine bW (aL zk7) fun b1=>?_;refine oZ (sK 0 au I I I I I ⟨I,trivial⟩) (tZ (rZ (lW (bS sty25 I I I (ab sB) dC) ?_)));rintro _ _ _ ⟨b10,rfl,rfl,rfl⟩;refine zb3 fun g2 hle2 hb10=>?_;refine lW (bS sty25 I I I (ab ⟨I,trivial⟩) dC) ?_;rintro _ _ _ ⟨b11,rfl,rfl,rfl⟩;refine zb3 fun g3 hle3 hb11=>?_;refine lW (bS sty22 I I I (ab sB) dC) ?_;rintro _ _ _ ⟨b12,rfl,rfl,rfl⟩;refine zb3 fun g4 hle4 hb12=>?_;have hT:aM g4 (.slice (some ⟨b12,0,none⟩) 2 2) [[4,6],[5]]:=⟨[eV (.slice (some ⟨b10,0,none⟩) 2 2),eV (.slice (some ⟨b11,0,none⟩) 1 1)],SlA.lit hb12 rfl rfl,⟨SlA.lit ((hle3.trans hle4) _ _ hb10) rfl rfl,SlA.lit (hle4 _ _ hb11) rfl rfl,trivial⟩⟩;have hu4:=hu.mono (hle2.trans (hle3.trans hle4));refine aT I (rZ (lK (qV 0 ba au I I I) (lM I (lW (cL call12 I (kI E hE g4 _ _ _ pX [[4,6],[5]] hu4 nn rm hT dC dC)) ?_))));rintro _ g5 _ ⟨rfl,hle5,u5,rfl,hu5⟩;obtain ⟨q5,d5,rfl⟩:=hu5.form;rw[BP];have hu5':=hu4.mono hle5;have hT5:=hT.mono hle5;refine bW (aL zk7) fun b3=>?_;refine oZ (sK 0 au I I I I I ⟨I,trivial⟩) (tZ (rZ (lK (qV 1 ba au I I I) (lM I (lW (cL call18 I (qv E hE g5 _ _ _ pX [[4,6],[5]] 2 hu5' nn rm hT5 dC dC dC dC)) ?_)))));rintro _ g6 _ ⟨rfl,hle6,u6,rfl,hP⟩;rw[mi];rw[tO] at hP;have hu6:=hu5'.mono hle6;have hT6:=hT5.mono hle6;refine lM I (yX I (yX I (lA I (aT I (rZ (lK (qV 1 ba au I I I) (lM I (lW (cL call19 I (y9 E hE g6 _ _ _ pX [[4,6],[5]] 2 hu6 nn rm hT6 dC dC dC dC)) ?_))))))));rintro _ g7 _ ⟨rfl,hle7,u7,rfl,hB⟩;rw[mi];rw[BQ] at hB;have hu7:=hu6.mono hle7;have hP7:=hP.mono hle7;refine lM I (yX I (yX I (lA I (aT I (rZ (lW (bS sty25 I I I (ab sB) dC) ?_))))));rintro _ _ _ ⟨b28,rfl,rfl,rfl⟩;refine zb3 fun g8 hle8 hb28=>?_;refine lW (bS sty25 I I I (ab sB) dC) ?_;rintro _ _ _ ⟨b29,rfl,rfl,rfl⟩;refine zb3 fun g9 hle9 hb29=>?_;refine lW (bS sty22 I I I (ab sB) dC) ?_;rintro _ _ _ ⟨b30,rfl,rfl,rfl⟩;refine zb3 fun g10 hle10 hb30=>?_;have h30:aM g10 (.slice (some ⟨b30,0,none⟩) 2 2) [[2,0],[2,0]]:=⟨[eV (.slice (some ⟨b28,0,none⟩) 2 2),eV (.slice (some ⟨b29,0,none⟩) 2 2)],SlA.lit hb30 rfl rfl,⟨SlA.lit ((hle9.trans hle10) _ _ hb28) rfl rfl,SlA.lit (hle10 _ _ hb29) rfl rfl,trivial⟩⟩;refine lW (bS sty25 I I I (ab sB) dC) ?_;rintro _ _ _ ⟨b31,rfl,rfl,rfl⟩;refine zb3 fun g11 hle11 hb31=>?_;refine lW (bS sty25 I I I (ab sB) dC) ?_;rintro _ _ _ ⟨b32,rfl,rfl,rfl⟩;refine zb3 fun g12 hle12 hb32=>?_;refine lW (bS sty22 I I I (ab sB) dC) ?_;rintro _ _ _ ⟨b33,rfl,rfl,rfl⟩;refine zb3 fun g13 hle13 hb33=>?_;have h33:aM g13 (.slice (some ⟨b33,0,none⟩) 2 2) [[1,0],[1,0]]:=⟨[eV (.slice (some ⟨b31,0,none⟩) 2 2),eV (.slice (some ⟨b32,0,none⟩) 2 2)],SlA.lit hb33 rfl rfl,⟨SlA.lit ((hle12.trans hle13) _ _ hb31) rfl rfl,SlA.lit (hle13 _ _ hb32) rfl rfl,trivial⟩⟩;refine lW (bS sty51 I I I (ab sB) dC) ?_;rintro _ _ _ ⟨b34,rfl,rfl,rfl⟩;refine zb3 fun g14 hle14 hb34=>?_;have hW:Pgs g14 (.slice (some ⟨b34,0,none⟩) 2 2) [[[2,0],[2,0]],[[1,0],[1,0]]]:=⟨[eV (.slice (some ⟨b30,0,none⟩) 2 2),eV (.slice (some ⟨b33,0,none⟩) 2 2)],SlA.lit hb34 rfl rfl,⟨h30.mono (hle11.trans (hle12.trans (hle13.trans hle14))),h33.mono hle14,trivial⟩⟩;have hl14:=hle8.trans (hle9.trans (hle10.trans (hle11.trans (hle12.trans (hle13.trans hle14)))));have hP14:=hP7.mono hl14;have hB14:=za3 hB hl14;have hu14:=hu7.mono hl14;refine aT I (rZ (lU (fA eU I dN I) (lK (qL (v:=.slice q5 10 d5) fD I (cO 0 I I)) (lU (eN aK I) (yE I (lM I (yC I (lY I I I (eQ I I) (yP I (lM I (yC I (yC I (SL.go (gT I I I dC) (cL call20 I (pS E g14 _ _ _ _ _ hP14 hW dC dC dC dC)) dC ?_)))))))))))));rintro _ _ _ ⟨rfl,rfl,rfl⟩;rw[show decide (([[[2,0],[2,0]],[[1,0],[1,0]]]:List (List (List Int)))=[[[2,0],[2,0]],[[1,0],[1,0]]])=true from zf3 rfl];refine yP I (lM I (yC I (lY I I I (eQ I I) (yP I (lM I (yC I (SL.go (gT I I I dC) (bS sty25 I I I (ab sB) dC) dC ?_)))))));rintro _ _ _ ⟨b54,rfl,rfl,rfl⟩;refine zb3 fun g15 hle15 hb54=>?_;have hW54:cj g15 (.slice (some ⟨b54,0,none⟩) 2 2) [1,1]:=SlA.lit hb54 rfl rfl;have hB15:=za3 hB14 hle15;refine SL.go (gT I I I dC) (cL call21 I (tC E g15 _ _ _ _ _ hB15 hW54 dC)) dC ?_;rintro _ _ _ ⟨rfl,rfl,rfl⟩;rw[show decide (([1,1]:List Int)=[1,1])=true from zf3 rfl];refine yP I (lM I (SL.gq (gT I I I dC) (qV 1 ba au I I I) dC (SL.go (gT I I I dC) (bS sty25 I I I (ab ⟨I,trivial⟩) dC) dC ?_)));rintro _ _ _ ⟨b59,rfl,rfl,rfl⟩;refine zb3 fun g16 hle16 hb59=>?_;refine SL.go (gT I I I dC) (bS sty25 I I I (ab ⟨I,trivial⟩) dC) dC ?_;rintro _ _ _ ⟨b60,rfl,rfl,rfl⟩;refine zb3 fun g17 hle17 hb60=>?_;refine SL.go (gT I I I dC) (bS sty22 I I I (ab sB) dC) dC ?_;rintro _ _ _ ⟨b61,rfl,rfl,rfl⟩;refine zb3 fun g18 hle18 hb61=>?_;have hT2:aM g18 (.slice (some ⟨b61,0,none⟩) 2 2) [[4],[5]]:=⟨[eV (.slice (some ⟨b59,0,none⟩) 1 1),eV (.slice (some ⟨b60,0,none⟩) 1 1)],SlA.lit hb61 rfl rfl,⟨SlA.lit ((hle17.trans hle18) _ _ hb59) rfl rfl,SlA.lit (hle18 _ _ hb60) rfl rfl,trivial⟩⟩;have hu18:=hu14.mono (hle15.trans (hle16.trans (hle17.trans hle18)));refine SL.go (gT I I I dC) (cL call11 I (pP E hE g18 _ _ _ pX [[4],[5]] hu18 nn rm hT2 dC dC)) dC ?_;rintro _ g19 _ ⟨rfl,hle19,rfl⟩;rw[Fe];refine lY I I I (eQ I I) (yP I (aT I (rE (dR (s':=s) uR ?_))));exact za6 (.inl I) results5 I ⟨I,I,hle1.trans (hle2.trans (hle3.trans (hle4.trans (hle5.trans (hle6.trans (hle7.trans (hl14.trans (hle15.trans (hle16.trans (hle17.trans (hle18.trans hle19)))))))))))⟩
def Cu (y:Int):Int:=if cw y 2=0 then 4 else 5
theorem wB (y:Int):([4,5]:List Int)[(cw y 2).toNat]?=some (Cu y):=by
 have:=be y 2 dC dC;unfold Cu
 rcases (by omega:cw y 2=0∨cw y 2=1) with e | e
 ·rw[e]; rfl
 ·rw[e]; rfl
def fw (kd:Int)(ls:List (List Int))(y:Int):List Cl:=if (jW kd ls y).length>20 then jW (Cu y) [] (cw y 8) else jW kd ls y
def je (kd:Int)(ls:List (List Int))(y:Int):List Cl:=if (fw kd ls y).length>20 then bF [[0,1,2],[1,2,3],[0,3]] else fw kd ls y
theorem Tryz.buildK24 (a b:Int)(w:World):(Instr.build 24 #[(0,vi a),(2,vi b)]).run Tryz.prog w = .ok (.agg #[vi a,.slice none 0 0,vi b]) w:=by
 have h1:∀ n,(vi n).cells = #[vi n]:=fun _=>rfl;simp[Instr.build,Instr.fill,h1];rfl
theorem x5 (E:World)(g:PH)(s:Own)(v:Value)(kd y:Int)(ls:List (List Int))(hv:aM g v ls) :
  Ctr Tryz.prog E 6 #[.agg #[vi kd,v,vi y]] g s (fun r g' s'=>s=s'∧Le g g'∧∃ u,r = .agg #[u]∧am g' u (je kd ls y)):=by
 obtain ⟨p,n,c,rfl⟩:∃ p n c,v = .slice p n c:=by
  obtain ⟨rs0,hrs0,_⟩:=hv;obtain ⟨p,c,rfl⟩:=za2 hrs0;exact⟨_,_,_,I⟩
 have hy:=be y 2 dC dC;have hf1:=(mf kd ls y).1;have hf2:=(mf (Cu y) [] (cw y 8)).1;refine za9 (args:=[.agg #[vi kd,.slice p n c,vi y]]) func6 I ntmps6 (bE I) ?_;refine rZ (bW (bO I) fun b1=>?_);refine bW (aL zk7) fun b2=>?_;refine tZ (rZ (lK (qV 1 isAgg24 sizeOf24 I I I) (lW (cL call22 I (tA E g _ _ kd y ls hv)) ?_)));rintro _ g1 _ ⟨rfl,hle1,u1,rfl,hu1⟩;obtain ⟨q1,d1,rfl⟩:=hu1.form;refine bW (aL zk7) fun b3=>?_;refine oZ (sK 0 au I I I I I ⟨I,trivial⟩) (tZ ?_);refine SC.cut (ι:=PH×Option Addr×Nat) (fun i=>[(2,pp b2 0),(3,pp b3 0)]) (fun i=>i.1) (fun i=>pt b3 (.cells #[.slice i.2.1 (fw kd ls y).length i.2.2] 31 (0,0))::pt b2 (.cells #[.slice none 0 0] 31 (0,0))::pt b1 (.cells #[vi kd,.slice p n c,vi y] 24 (0,0))::s) (fun i=>Le g1 i.1∧am i.1 (.slice i.2.1 (fw kd ls y).length i.2.2) (fw kd ls y)) ?_ ?_
 ·refine rZ (lU (fA eU I dN I) (lK (qL (v:=.slice q1 (jW kd ls y).length d1) fD I (cO 0 I I)) (lU (eN aK I) (lU (gR I I) (tZ ?_)))));refine iP I (fun h20=>?_) (fun h20=>?_)
  ·have hs2:fw kd ls y=jW (Cu y) [] (cw y 8):=by unfold fw; rw[zf5 oM]
   rw[hs2];refine SC.drawX [11] zd7 kR ?_;refine SX.u (i:=1) I kR (fA kK I zT3 I) dC (SX.q (i:=2) I kR (qL (v:=vi y) iT3 I (cO 2 I I)) dC (SX.u (i:=6) I kR (fA kK I zT3 I) dC (SX.q (i:=7) I kR (qL (v:=vi y) iT3 I (cO 2 I I)) dC ?_)))
   repeat' (first
    | (refine SB.o (i:=0) I (bS sty25 I I I (ab sB) dC) dC (.inr iR) ?_; rintro _ _ _ ⟨b10,rfl,rfl,rfl⟩; refine SX.freeze fun g2 hle2 hb10=>?_; have h10:SlA encInt g2 (.slice (some ⟨b10,0,none⟩) 2 2) [4,5]:=SlA.lit hb10 rfl rfl; refine SX.u (i:=4) I kD (iA aj zT3 I I I oM (show cw y 2<((2:Nat):Int) by omega)) dC ?_)
    | (refine SB.o (i:=0) I (bS sty25 I I I (ab sB) dC) dC (.inr iR) ?_; rintro _ _ _ ⟨b10,rfl,rfl,rfl⟩; refine SX.freeze fun g2 hle2 hb10=>?_; have h10:SlA encInt g2 (.slice (some ⟨b10,0,none⟩) 2 2) [4,5]:=SlA.lit hb10 rfl rfl)
    | (refine SB.o (i:=3) I (cL jX I (a7 E _ _ y 2 dC)) dC (.inr iR) ?_; rintro _ _ _ ⟨rfl,rfl,rfl⟩; refine SX.u (i:=4) I kD (iA aj zT3 I I I oM (show cw y 2<((2:Nat):Int) by omega)) dC ?_)
    | (refine SB.o (i:=3) I (cL jX I (a7 E _ _ y 2 dC)) dC (.inr iR) ?_; rintro _ _ _ ⟨rfl,rfl,rfl⟩)
    | (refine SB.o (i:=5) I (SQ.sof (eB iT3 I (za5 h10) (wB y) I)) dC (.inr iR) ?_; rintro _ _ _ ⟨rfl,rfl,rfl⟩; refine SX.u (i:=9) I kD (za1 I (buildK24 _ _)) dC ?_)
    | (refine SB.o (i:=5) I (SQ.sof (eB iT3 I (za5 h10) (wB y) I)) dC (.inr iR) ?_; rintro _ _ _ ⟨rfl,rfl,rfl⟩)
    | (refine SB.o (i:=8) I (cL jX I (a7 E _ _ y 8 dC)) dC (.inr iR) ?_; rintro _ _ _ ⟨rfl,rfl,rfl⟩; refine SX.u (i:=9) I kD (za1 I (buildK24 _ _)) dC ?_)
    | (refine SB.o (i:=8) I (cL jX I (a7 E _ _ y 8 dC)) dC (.inr iR) ?_; rintro _ _ _ ⟨rfl,rfl,rfl⟩)
    | (refine SB.o (i:=8) I (cL jX I (a7 E _ _ y 8 dC)) dC (.inr iR) ?_; rintro _ _ _ ⟨rfl,rfl,rfl⟩)
    | (refine SB.o (i:=10) rfl (cL call22 rfl (tA E g2 _ _ (Cu y) (cw y 8) [] ⟨[],zb8 _ _,trivial⟩)) dC (.inr (by rintro _ g3 _ ⟨rfl,hle3,u3,rfl,hu3⟩; exact⟨by exact Le.trans (by assumption) (by assumption),(by exact .refl _)⟩)) ?_; rintro _ g3 _ ⟨rfl,hle3,u3,rfl,hu3⟩; obtain ⟨q3,d3,rfl⟩:=hu3.form)
    | (refine SB.on (i:=11) I (sK 0 au I I I I I ⟨I,trivial⟩) (.inl dC) ?_; rintro _ _ _ ⟨rfl,rfl⟩)
    | refine SX.br2 0 3 kD ?_ ?_
    | refine zd2 3 kD ?_
    | refine SX.br2 5 8 kD ?_ ?_
    | refine zd2 8 kD ?_
    | refine zd2 10 kD ?_
    | refine zd2 11 kD ?_
    | refine zd2 5 kD ?_
    | refine SX.br2 0 8 kD ?_ ?_
    | refine zd2 0 kD ?_
    | (refine SX.nil kD ?_; exact za7 (g3,q3,d3) sB I I ⟨hle2.trans hle3,hu3⟩))
  ·have hs2:fw kd ls y=jW kd ls y:=by unfold fw; rw[zf4 oM]
   rw[hs2];refine kP ?_;exact za7 (g1,q1,d1) sB I I ⟨zb7 _,hu1⟩
 rintro ⟨g3,q3,d3⟩ ⟨hle3,hu3⟩;dsimp only at hle3 hu3 ⊢;have hf2:(fw kd ls y).length<1099511627776:=by
  have h2:=(mf (Cu y) [] (cw y 8)).1;unfold fw;split <;> omega
 refine sQ (rZ (lU (fA eU I dN I) (lK (qL (v:=.slice q3 (fw kd ls y).length d3) fD I (cO 0 I I)) (lU (eN aK I) (lU (gR I I) (tZ ?_))))));refine iP I (fun h21=>?_) (fun h21=>?_)
 ·have hs:je kd ls y=bF [[0,1,2],[1,2,3],[0,3]]:=by unfold je; rw[zf5 oM]
  refine rG (lW (bS sty25 I I I (ab sB) dC) ?_);rintro _ _ _ ⟨b25,rfl,rfl,rfl⟩;refine zb3 fun g4 hle4 hb25=>?_;refine lW (bS sty25 I I I (ab sB) dC) ?_;rintro _ _ _ ⟨b26,rfl,rfl,rfl⟩;refine zb3 fun g5 hle5 hb26=>?_;refine lW (bS sty25 I I I (ab sB) dC) ?_;rintro _ _ _ ⟨b27,rfl,rfl,rfl⟩;refine zb3 fun g6 hle6 hb27=>?_;refine lW (bS sty22 I I I (ab sB) dC) ?_;rintro _ _ _ ⟨b28,rfl,rfl,rfl⟩;refine zb3 fun g7 hle7 hb28=>?_;have hlit:aM g7 (.slice (some ⟨b28,0,none⟩) 3 3) [[0,1,2],[1,2,3],[0,3]]:=⟨[eV (.slice (some ⟨b25,0,none⟩) 3 3),eV (.slice (some ⟨b26,0,none⟩) 3 3),eV (.slice (some ⟨b27,0,none⟩) 2 2)],SlA.lit hb28 rfl rfl,⟨SlA.lit ((hle5.trans (hle6.trans hle7)) _ _ hb25) rfl rfl,SlA.lit ((hle6.trans hle7) _ _ hb26) rfl rfl,SlA.lit (hle7 _ _ hb27) rfl rfl,trivial⟩⟩;refine lW (cL call24 I (aH E g7 _ _ _ hlit dC dC)) ?_;rintro _ g8 _ ⟨rfl,hle8,u8,rfl,hu8⟩;obtain ⟨q8,d8,rfl⟩:=hu8.form;refine oZ (sK 0 au I I I I I ⟨I,trivial⟩) (tZ (rZ (lK (qV 0 ba au I I I) (oZ (sK 1 au I I I I I ⟨I,trivial⟩) (tZ (rE ?_))))));exact ST.retCD 1 s (.inl I) results6 I ba au I I uR ⟨I,hle1.trans (hle3.trans (hle4.trans (hle5.trans (hle6.trans (hle7.trans hle8))))),_,I,by rw[hs]; exact hu8⟩
 ·have hs:je kd ls y=fw kd ls y:=by unfold je; rw[zf4 oM]
  refine kP (tN (rZ (lK (qV 0 ba au I I I) (oZ (sK 1 au I I I I I ⟨I,trivial⟩) (tZ (rE ?_))))));exact ST.retCD 1 s (.inl I) results6 I ba au I I uR ⟨I,hle1.trans hle3,_,I,by rw[hs]; exact hu3⟩
structure Sml (l:List Cl):Prop where
 rt:Rt l
 few:l.length≤20
 ids:∀ c∈l,dn c.id
theorem FA:bF [[0,1,2],[1,2,3],[0,3]]=[⟨1,0,[]⟩,⟨2,0,[]⟩,⟨3,0,[]⟩,⟨4,0,[]⟩,⟨5,1,[⟨1,-1⟩,⟨2,1⟩]⟩,⟨6,1,[⟨1,-1⟩,⟨3,1⟩]⟩,⟨7,1,[⟨1,-1⟩,⟨4,1⟩]⟩,⟨8,1,[⟨2,-1⟩,⟨3,1⟩]⟩,⟨9,1,[⟨2,-1⟩,⟨4,1⟩]⟩,⟨10,1,[⟨3,-1⟩,⟨4,1⟩]⟩,⟨11,2,[⟨5,1⟩,⟨6,-1⟩,⟨8,1⟩]⟩,⟨12,2,[⟨8,1⟩,⟨9,-1⟩,⟨10,1⟩]⟩]:=by
 have h123:bI [1,2,3]=[1,2,3]:=by
  unfold bI;rw[jA dC];rfl
 have h03:bI [0,3]=[0,3]:=by
  unfold bI;rw[jA dC];rfl
 simp only[bF,aC,CU,h123,h03];rfl
theorem AV (kd:Int)(ls:List (List Int))(y:Int):Sml (je kd ls y):=by
 have key:∀ k m z,(jW k m z).length≤20→Sml (jW k m z):=fun k m z h=>⟨qz k m z,h,Dj k m z⟩;unfold je;split
 ·have hr:=oL [[0,1,2],[1,2,3],[0,3]];rw[FA] at hr ⊢;have h0:=fJ (zd6 Prod.snd hr);rw[show aa _=_ from by kernel_rfl] at h0;exact⟨h0,by decide,by unfold dn; decide⟩
 ·rename_i h;unfold fw at h ⊢;split
  ·rename_i h1;rw[zf5 h1] at h;exact key _ _ _ oM
  ·rename_i h1;exact key _ _ _ oM
open Go.ChangeShapes Go.WideShapes Go.ChangeAt Go.RowKit
set_option maxRecDepth 100000
section
variable {H:Type}{enc:TypeId×Value→H}{W:World}{base:Nat}{spare:Nat→Bool}{hd:Bool}
theorem Dp {v:Value}{d:DataW H}{p:List MemPlace}(h:DataW.Trod enc Tryz.prog W base spare hd 25 v d p)(hv:v.cells = #[v]):∃ l:List Int,cj (wx W) v l:=by
 obtain ⟨fuel,hf⟩:=h;rw[hv] at hf;obtain ⟨l,r,-,hl⟩:=Af hf;exact⟨l,hl⟩
end
abbrev Rws:=List (Sv×List Int)
def eG (ts:Rws):Own:=ts.map fun t=>rowA encInt 3 (.slice t.1.p t.1.n t.1.c) t.2
theorem yg {ts:Rws}{j:Nat}{v:Sv}{l:List Int}(h:ts[j]?=some (v,l))(s:Own):(eG ts++s)[j]?=some (rowA encInt 3 (.slice v.p v.n v.c) l):=by
 have hj:=(ze9.1 h).1;rw[zg6 (by simpa [eG] using hj)];simp[eG,h]
theorem yf {ts:Rws}{j:Nat}{v v':Sv}{l l':List Int}(h:ts[j]?=some (v,l))(s:Own):(eG ts++s).set j (rowA encInt 3 (.slice v'.p v'.n v'.c) l')=eG (ts.set j (v',l'))++s:=by
 have hj:=(ze9.1 h).1;rw[List.set_append_left _ _ (by simpa [eG] using hj)];simp[eG,List.map_set]
theorem qi {E:World}{g:PH}{w:World}(hd:Own):∀ (n:Nat) (s:Own),At E g (hd++s) w→At E g (hd++(eG (List.replicate n (⟨none,0,0⟩,[]))++s)) w
 | 0,s,h=>h
 | n+1,s,h=>by
  have h1:=(qi hd n s h).nilRow 3 1;rw[List.replicate_succ];exact h1.perm List.perm_middle.symm
theorem freezeTs {E:World}{w:World}:∀ (ts:Rws) (g:PH) (s:Own),At E g (eG ts++s) w→∃ g',Le g g'∧At E g' s w∧aA (cz g') (ts.map Prod.snd) (ts.map Prod.fst)
 | [],g,s,h=>⟨g,zb7 g,h,trivial⟩
 | (v,l)::r,g,s,h=>by
  have h':At E g (row 3 1 (.slice v.p v.n v.c) l.length (l.flatMap encInt.enc)::(eG r++s)) w:=h;obtain ⟨g1,hl1,h1,h2⟩:=h'.freezeRow;obtain ⟨g2,hl2,h3,h4⟩:=freezeTs r g1 s h1;exact⟨g2,hl1.trans hl2,h3,Sl.mono h2 hl2,h4⟩
theorem SC.freezeTs {P:Program}{N:Nat}{E:World}{c:Code}{Q:Exit→Act→World→Prop}{f:Fr}{g:PH}{s:Own}{ts:Rws}(h:∀ g',Le g g'→aA (cz g') (ts.map Prod.snd) (ts.map Prod.fst)→SC P N E c Q f g' s):SC P N E c Q f g (eG ts++s):=fun a w ha hw=>by
 obtain ⟨g',h1,h2,h3⟩:=Go.Proofs.YtcfkpajlakidbaaGreatDoor.freezeTs ts g s hw;exact h g' h1 h3 a w ha h2
theorem Ex {ts:Rws}{j:Nat}{v:Sv}{l:List Int}(h:ts[j]?=some (v,l)){hd:Own}(s:Own){x:Ent}(hh:hd.length=2):((hd++(eG ts++s)).set (j+2) x)[j+2]?=some x:=by
 have hj:=(ze9.1 h).1;rw[List.getElem?_set_self];simp only[zd9,eG,ze1];omega
def TIn (ts:Rws)(x:Int):Prop:=∃ t∈ts,x∈t.2
theorem TIn.set {ts:Rws}{j:Nat}{v v':Sv}{l:List Int}(h:ts[j]?=some (v,l))(x:Int){y:Int}(hy:TIn ts y):TIn (ts.set j (v',l++[x])) y:=by
 obtain ⟨t,ht,h2⟩:=hy;have hj:=(ze9.1 h).1;obtain ⟨i,hi,e⟩:=List.mem_iff_getElem.1 ht;by_cases e2:j=i
 ·subst e2;refine⟨(v',l++[x]),List.mem_set hj _,?_⟩;obtain ⟨_,e3⟩:=ze9.1 h;rw[← e,e3] at h2;simp only[ze7];exact .inl h2
 ·refine⟨t,?_,h2⟩;have:(ts.set j (v',l++[x]))[i]?=some t:=by rw[List.getElem?_set_ne e2,gE hi,e]
  exact zf6 this
theorem TIn.new {ts:Rws}{j:Nat}{v v':Sv}{l:List Int}(h:ts[j]?=some (v,l))(x:Int):TIn (ts.set j (v',l++[x])) x :=
 ⟨(v',l++[x]),List.mem_set (ze9.1 h).1 _,by simp⟩
structure TOk (l:List Cl)(T:List (List Int)):Prop where
 pos:1≤T.length
 few:T.length≤4
 few3:l.length>12→T.length≤3
 mem:∀ t∈T,∀ x∈t,x∈iU l
 len:∀ t∈T,t.length≤4 * (iU l).length
 cov:∀ x∈iU l,∃ t∈T,x∈t
theorem Fg {k n:Nat}(hk:k<n)(hn:n≤4):IntKind.i64.wrap (1 * 2 ^ min ((k:Nat):Int).toNat IntKind.i64.bits)=((2 ^ k:Nat):Int):=by
 have key:∀ k,k<5→IntKind.i64.wrap (1 * 2 ^ min ((k:Nat):Int).toNat IntKind.i64.bits)=((2 ^ k:Nat):Int):=by decide +kernel
 exact key k oM
theorem DH {n:Nat}(hn:n≤4):IntKind.i64.wrap (1 * 2 ^ min ((n:Nat):Int).toNat IntKind.i64.bits)=((2 ^ n:Nat):Int):=by
 have key:∀ k,k<5→IntKind.i64.wrap (1 * 2 ^ min ((k:Nat):Int).toNat IntKind.i64.bits)=((2 ^ k:Nat):Int):=by decide +kernel
 exact key n oM
theorem Fh {M k:Nat}(hM:M<16)(hk:k<4):IntKind.i64.wrap (BitVec.ofInt IntKind.i64.bits (((M:Nat):Int).fdiv (2 ^ min ((k:Nat):Int).toNat IntKind.i64.bits)) &&& BitVec.ofInt IntKind.i64.bits 1).toNat=if M.testBit k then 1 else 0:=by
 have key:∀ M,M<16→∀ k,k<4→IntKind.i64.wrap (BitVec.ofInt IntKind.i64.bits (((M:Nat):Int).fdiv (2 ^ min ((k:Nat):Int).toNat IntKind.i64.bits)) &&& BitVec.ofInt IntKind.i64.bits 1).toNat=if M.testBit k then 1 else 0:=by decide +kernel
 exact key M hM k hk
theorem DG {M n:Nat}(h0:1≤M)(h1:M<2 ^ n)(hn:n≤4):∃ k,k<n∧M.testBit k=true:=by
 have key:∀ n,n<5→∀ M,M<2 ^ n→1≤M→∃ k,k<n∧M.testBit k=true:=by decide +kernel
 exact key n oM M h1 h0
theorem C7 {n:Nat}(hn:n≤4)(h0:1≤n):2≤2 ^ n∧2 ^ n≤16:=by
 have key:∀ n,n<5→1≤n→2≤2 ^ n∧2 ^ n≤16:=by decide
 exact key n oM h0
theorem xW (E:World)(g:PH)(s:Own)(v nv:Value)(l:List Cl)(sd:Int)(ns:List Int)(hv:am g v l)(hf:dg l)(hl:(ae l).length≤1000)(hn:cj g nv ns) :
  Ctr Tryz.prog E 7 #[.agg #[v],vi sd,nv] g s (fun r g' s'=>s=s'∧Le g g'∧∃ T,aM g' r T∧TOk l T):=by
 obtain ⟨vp,vc,rfl⟩:=hv.form;obtain ⟨np,nc,rfl⟩:=za2 hn;have hll:=hf.1;have hm4:=be sd 4 dC dC;have hm3:=be sd 3 dC dC;have htl:(iU l).length≤1000:=by
  unfold iU;rw[ze1];exact zj8 (zc2 _ _) hl
 refine za9 (args:=[.agg #[.slice vp l.length vc],vi sd,.slice np ns.length nc]) func7 I ntmps7 (bE I) ?_;refine rZ (bW (bO I) fun b3=>?_);refine aT I (sW I (lW (cL jX I (a7 E g _ sd 4 dC)) ?_));rintro _ _ _ ⟨rfl,rfl,rfl⟩;refine yD I (aT I ?_);refine SC.cut (ι:=Nat) (fun n=>[(2,.slice np ns.length nc),(3,pp b3 0),(7,vi n)]) (fun _=>g) (fun _=>pt b3 (.cells #[.slice vp l.length vc] 31 (0,0))::s) (fun n=>1≤n∧n≤4∧(l.length>12→n≤3)) ?_ ?_
 ·refine rZ (lU (fA eU I dN I) (lK (qL (v:=.slice vp l.length vc) fD I (cO 0 I I)) (lU (eN aK I) (lU (gR I I) (tZ ?_)))));refine iP I (fun h12=>?_) (fun h12=>?_)
  ·refine rG (lM I (lW (cL jX I (a7 E g _ sd 3 dC)) ?_));rintro _ _ _ ⟨rfl,rfl,rfl⟩;refine lU (SU.eq (v':=vi (1+(cw sd 3).toNat:Nat)) (aD I I oM) (zd6 vi oM)) (lA I (nL ?_));exact za7 (1+(cw sd 3).toNat) sB I I ⟨oM,oM,fun _=>by omega⟩
  ·refine kP ?_;refine za7 (1+(cw sd 4).toNat) ⟨I,I,?_,trivial⟩ I I ⟨oM,oM,fun h=>by omega⟩;show some (vi (1+cw sd 4))=_;exact zd6 (fun x=>some (vi x)) oM
 rintro n ⟨hn1,hn4,hn3⟩;have hpw:=C7 hn4 hn1;refine sW I (lW (mK aY ⟨none,0,0⟩ sty22 I I I oM oM) ?_);rintro _ _ _ ⟨bt,rfl,rfl,rfl⟩;refine aT I (rZ (lK (qV 1 ba au I I I) (lW (cL call25 I (uC E g _ _ l hv hf)) ?_)));rintro _ g1 _ ⟨rfl,hle1,hA⟩;obtain ⟨ap,ac,rfl⟩:=za2 hA;refine aT I (sQ (rZ (aT I (bK ?_))));have hTok:∀ ts:Rws,ts.length=n→(∀ t∈ts,t.2.length≤4 * (iU l).length∧∀ x∈t.2,x∈iU l)→(∀ j<(iU l).length,∀ x,(iU l)[j]?=some x→TIn ts x)→TOk l (ts.map Prod.snd):=fun ts h1 h2 h3=>⟨by rw[ze1]; omega,by rw[ze1]; omega,fun h=>by rw[ze1]; have:=hn3 h; omega,fun t ht=>by
  obtain ⟨u,hu,rfl⟩:=ze6.1 ht;exact (h2 u hu).2,fun t ht=>by
  obtain ⟨u,hu,rfl⟩:=ze6.1 ht;exact (h2 u hu).1,fun x hx=>by
  obtain ⟨j,hj,e⟩:=List.mem_iff_getElem.1 hx;obtain ⟨t,ht,hxt⟩:=h3 j hj x (by rw[gE hj,e]);exact⟨t.2,ze6.2 ⟨t,ht,I⟩,hxt⟩⟩
 generalize iU l=A at *;refine SC.to (fun w hw=>qi [rowA aY 25 (.slice (some ⟨bt,0,none⟩) n n) (List.replicate n ⟨none,0,0⟩),pt b3 (.cells #[.slice vp l.length vc] 31 (0,0))] n s hw) ?_;refine oP (ι:=Nat×Rws) (fun z=>[(2,.slice np ns.length nc),(7,vi n),(8,.slice (some ⟨bt,0,none⟩) n n),(9,.slice ap A.length ac),(10,vi z.1)]) (fun _=>g1) (fun z=>rowA aY 25 (.slice (some ⟨bt,0,none⟩) n n) (z.2.map Prod.fst)::pt b3 (.cells #[.slice vp l.length vc] 31 (0,0))::(eG z.2++s)) (fun z=>z.1≤A.length∧z.2.length=n∧(∀ t∈z.2,t.2.length≤4 * z.1∧∀ x∈t.2,x∈A)∧∀ j<z.1,∀ x,A[j]?=some x→TIn z.2 x) (fun z=>A.length - z.1) (0,List.replicate n (⟨none,0,0⟩,[])) sB I (by dsimp only; rw[List.map_replicate]; rfl) ⟨zf1 _,by dsimp only; rw[List.length_replicate],fun t ht=>by rw[(List.mem_replicate.1 ht).2]; exact⟨zf1 _,by simp⟩,fun j hj=>absurd hj (Nat.not_lt_zero j)⟩ ?_;rintro ⟨i,ts⟩ ⟨hi,htn,htm,htc⟩;dsimp only at hi htn htm htc ⊢;refine sQ (sW I (lM I (lU (eN aj I) (yL I (tZ ?_)))));refine iP I (fun hlt=>?_) (fun hlt=>?_)
 ·have hiA:i<A.length:=oM;have hgi:A[((i:Nat):Int).toNat]?=some A[i]:=gE hiA;have hgi0:A[i]?=some A[i]:=gE hiA;have hAm:A[i]∈A:=gM hiA;have hbA:=za4 hA oM;generalize A[i]=x at *;have hk:i % n<n:=Nat.mod_lt _ oM;have hrem:((i:Nat):Int).tmod ((n:Nat):Int)=((i % n:Nat):Int):=(Int.ofNat_tmod i n).symm;refine kP (tN (sQ (bK (sW I (lM I (lU (SU.eq (v':=vi (i % n:Nat)) (zd3 I I oM) (zd6 vi hrem)) (lU (SU.eq (v':=vi (2 ^ (i % n):Nat)) (SU.shl I I oM) (zd6 vi (Fg hk hn4))) (aT I ?_))))))));refine SC.cut (ι:=Int) (fun m=>[(2,.slice np ns.length nc),(7,vi n),(8,.slice (some ⟨bt,0,none⟩) n n),(9,.slice ap A.length ac),(10,vi i),(11,vi m)]) (fun _=>g1) (fun _=>rowA aY 25 (.slice (some ⟨bt,0,none⟩) n n) (ts.map Prod.fst)::pt b3 (.cells #[.slice vp l.length vc] 31 (0,0))::(eG ts++s)) (fun _=>True) ?_ ?_
  ·refine sW I (lU (eN aj I) (lU (gR I I) (tZ ?_)));refine iP I (fun hns=>?_) (fun hns=>?_)
   ·have hnl:0<ns.length:=oM;have hr2:((i:Nat):Int).tmod ((ns.length:Nat):Int)=((i % ns.length:Nat):Int):=(Int.ofNat_tmod i _).symm;have hkl:i % ns.length<ns.length:=Nat.mod_lt _ hnl;have hgn:ns[((i % ns.length:Nat):Int).toNat]?=some ns[i % ns.length]:=gE hkl;have hbn:=za4 hn hnl;refine dW [] [(0,2),(1,2),(2,2),(3,2),(4,2),(5,2),(6,1),(7,2),(8,2),(9,2),(10,2),(11,2),(12,2)] zd7 kR ?_;refine yM I (yM I (yM I (pU I (eN aj I) (pU I (SU.eq (v':=vi (i % ns.length:Nat)) (zd3 I I oM) (zd6 vi hr2)) (pU I (iA aj zT3 I I hbn oM (show ((i % ns.length:Nat):Int)<((ns.length:Nat):Int) by omega)) ?_)))));refine pK I (eB iT3 I (za5 (za3 hn hle1)) hgn I) (yM I (yM I (pU I (eN aj I) (pU I (SU.quo I I oM) (pU I (zd5 I I) (pU I (aS I) (pN ?_)))))));exact za7 _ sB I I trivial
   ·refine kP ?_;exact za7 _ sB I I trivial
  rintro m -;have hmr:=be m (2 ^ n:Nat) oM oM;refine sW I (lM I (lU (SU.eq (v':=vi (2 ^ n:Nat)) (SU.shl I I oM) (zd6 vi (DH hn4))) (lW (cL jX I (a7 E g1 _ m (2 ^ n:Nat) oM)) ?_)));rintro _ _ _ ⟨rfl,rfl,rfl⟩;refine aT I ?_;refine SC.cut (ι:=Nat) (fun M=>[(2,.slice np ns.length nc),(7,vi n),(8,.slice (some ⟨bt,0,none⟩) n n),(9,.slice ap A.length ac),(10,vi i),(11,vi M)]) (fun _=>g1) (fun _=>rowA aY 25 (.slice (some ⟨bt,0,none⟩) n n) (ts.map Prod.fst)::pt b3 (.cells #[.slice vp l.length vc] 31 (0,0))::(eG ts++s)) (fun M=>1≤M∧M<2 ^ n) ?_ ?_
  ·refine sW I (yE I (tZ ?_));refine iP I (fun hz=>?_) (fun hz=>?_)
   ·refine rG (lA I (nL ?_));exact za7 1 sB I I ⟨oM,oM⟩
   ·refine kP ?_;refine za7 (cw m (2 ^ n:Nat)).toNat ⟨I,I,I,I,I,?_,trivial⟩ I I ⟨oM,oM⟩;show some (vi (cw m (2 ^ n:Nat)))=_;exact zd6 (fun x=>some (vi x)) oM
  rintro M ⟨hM1,hM2⟩;refine rZ (aT I (bK ?_));refine oP (ι:=Nat×Rws) (fun z=>[(2,.slice np ns.length nc),(7,vi n),(8,.slice (some ⟨bt,0,none⟩) n n),(9,.slice ap A.length ac),(10,vi i),(11,vi M),(12,vi z.1)]) (fun _=>g1) (fun z=>rowA aY 25 (.slice (some ⟨bt,0,none⟩) n n) (z.2.map Prod.fst)::pt b3 (.cells #[.slice vp l.length vc] 31 (0,0))::(eG z.2++s)) (fun z=>z.1≤n∧z.2.length=n∧(∀ t∈z.2,t.2.length≤4 * i+z.1∧∀ x∈t.2,x∈A)∧(∀ j<i,∀ x,A[j]?=some x→TIn z.2 x)∧∀ b<z.1,M.testBit b=true→TIn z.2 x) (fun z=>n - z.1) (0,ts) sB I I ⟨zf1 _,htn,fun t ht=>⟨(htm t ht).1,(htm t ht).2⟩,htc,fun b hb=>absurd hb (Nat.not_lt_zero b)⟩ ?_;clear htn htm htc;rintro ⟨k,us⟩ ⟨hk2,hun,hum,huc,hub⟩;dsimp only at hk2 hun hum huc hub ⊢;refine sQ (sW I (lM I (yL I (tZ ?_))));refine iP I (fun hlt2=>?_) (fun hlt2=>?_)
  ·have hkn:k<n:=oM;have hand:=Fh (M:=M) (k:=k) oM oM;refine kP (tN (sQ (bK (sW I (lM I (lU (SU.shr I I oM) (lU (SU.eq (v':=vi (if M.testBit k then 1 else 0)) (SU.and I I) (zd6 vi hand)) (yE I (tZ ?_)))))))));refine iP I (fun hbit=>?_) (fun hbit=>?_)
   ·have htb:M.testBit k=true:=by
     cases h:M.testBit k with
     | true=>rfl
     | false=>rw[h] at hbit; simp at hbit
    have hku:k<us.length:=oM;have hgk:us[k]?=some us[k]:=gE hku;have hgs:(us.map Prod.fst)[((k:Nat):Int).toNat]?=some us[k].1:=by
     rw[show ((k:Nat):Int).toNat=k from rfl,zh4,hgk];rfl
    have hum1:=hum _ (gM hku);generalize us[k]=u0 at *;obtain ⟨sv,lu⟩:=u0;dsimp only at hgs hum1;refine SC.drawT 2 [13] [(0,2),(1,2),(2,2),(3,2),(4,2),(5,1),(6,2),(7,2),(8,2),(9,1),(10,0),(11,0),(12,2),(13,0)] zd7 kR ?_;refine yM rfl (yM rfl (yM rfl (yM rfl (pU rfl (iA ct cR rfl rfl rfl oM sL) (pK rfl (eB (u:=.slice sv.p sv.n sv.c) eC rfl (zb5 (e:=aY) 0 rfl) hgs rfl) (yM rfl (yM rfl (pU rfl (iA aj zT3 rfl rfl hbA oM sL) (pK rfl (eB iT3 rfl (za5 hA) hgi rfl) (SP.o rfl (bS sty25 rfl rfl rfl (ab ⟨rfl,trivial⟩) dC) dC (.inr (by rintro _ _ _ ⟨b78,rfl,rfl,rfl⟩; exact⟨by exact zb7 _,(by exact .cons _ (List.take_sublist _ _))⟩)) ?_))))))))));rintro _ _ _ ⟨b78,rfl,rfl,rfl⟩;refine SP.o rfl (aP (e:=encInt) (l:=lu) (k+2) x sty25 rfl rfl rfl (yg hgk s) rfl oM oM) dC (.inr (by rintro v79 _ _ ⟨rfl,rfl⟩; exact⟨by exact zb7 _,(by exact fo _ _ _ _)⟩)) ?_;rintro v79 _ _ ⟨rfl,rfl⟩;refine zc8 fun ⟨w0,hw0⟩=>?_;obtain ⟨q79,d79,rfl⟩:=ag (e:=encInt) (l:=lu++[x]) (i:=k+2) hw0 (Ex (hd:=[rowA aY 25 (.slice (some ⟨bt,0,none⟩) n n) (us.map Prod.fst),pt b3 (.cells #[.slice vp l.length vc] 31 (0,0))]) hgk s rfl);clear hw0 w0;refine pU I (SU.eq (v':=.pointer (some ⟨bt,0+k * 1,none⟩)) (iA ct cR I I I oM sL) I) (SP.on I (sT (e:=aY) (a:=⟨q79,(lu++[x]).length,d79⟩) (j:=k) 0 cR I I I (by rw[ze1]; omega) I) (.inl dC) ?_);rintro _ _ _ ⟨rfl,rfl⟩;refine pN (bN (tN (rG (lM I (yD I (lA I (nL (dR (s':=rowA aY 25 (.slice (some ⟨bt,0,none⟩) n n) ((us.set k (⟨q79,(lu++[x]).length,d79⟩,lu++[x])).map Prod.fst)::pt b3 (.cells #[.slice vp l.length vc] 31 (0,0))::(eG (us.set k (⟨q79,(lu++[x]).length,d79⟩,lu++[x]))++s)) (by rw[List.map_set,← yf hgk s]; exact .refl _) ?_))))))));exact ST.again (k+1,(us.set k (⟨q79,(lu++[x]).length,d79⟩,lu++[x]))) sB I I ⟨by dsimp only; omega,by dsimp only; rw[zh7]; exact hun,fun t ht=>by
     dsimp only at ht ⊢
     rcases List.mem_or_eq_of_mem_set ht with h | h
     ·exact⟨by have:=(hum t h).1; omega,(hum t h).2⟩
     ·subst h;refine⟨by dsimp only; rw[zd9,ze2]; omega,fun y hy=>?_⟩
      rcases ze7.1 hy with h | h
      ·exact hum1.2 y h
      ·rw[zh2.1 h]; exact hAm,fun j hj y hy=>TIn.set hgk x (huc j hj y hy),fun b hb hb2=>TIn.new hgk x⟩ (by dsimp only; omega)
   ·have htb:M.testBit k=false:=by
     cases h:M.testBit k with
     | false=>rfl
     | true=>rw[h] at hbit; simp at hbit
    refine kP (bN (tN (rG (lM I (yD I (lA I (nL ?_)))))));exact ST.again (k+1,us) sB I I ⟨by dsimp only; omega,hun,fun t ht=>⟨by have:=(hum t ht).1; dsimp only; omega,(hum t ht).2⟩,huc,fun b hb hb2=>by
     dsimp only at hb;by_cases e:b=k
     ·rw[e,htb] at hb2; cases hb2
     ·exact hub b oM hb2⟩ (by dsimp only; omega)
  ·have hke:k=n:=oM;subst hke;obtain ⟨b,hb1,hb2⟩:=DG hM1 hM2 hn4;have hx:=hub b hb1 hb2;refine xI (tX (tX (bX (bN (tN (rG (lM I (yD I (lA I (nL ?_))))))))));exact ST.again (i+1,us) sB I I ⟨by dsimp only; omega,hun,fun t ht=>⟨by have:=(hum t ht).1; dsimp only; omega,(hum t ht).2⟩,fun j hj y hy=>by
    dsimp only at hj;by_cases e:j=i
    ·subst e;rw[hgi0] at hy;injection hy with hy
     rw[← hy];exact hx
    ·exact huc j oM y hy⟩ (by dsimp only; omega)
 ·have hie:i=A.length:=oM;subst hie;have hok:=hTok ts htn htm htc;have hsl:(ts.map Prod.fst).length=n:=by rw[ze1]; exact htn
  refine fS fun g2 hle2 hs2=>?_;refine SC.drop (.cons _ (.refl _)) (SC.freezeTs fun g3 hle3 hall=>?_);refine xI (tX (tX (bX (tN (sW I (aT I (rE ?_)))))));exact za6 (.inl I) results7 I ⟨I,hle1.trans (hle2.trans hle3),ts.map Prod.snd,⟨ts.map Prod.fst,Sl.mono hs2 hle3,hall⟩,hok⟩
theorem iy {l:List Cl}{d:Int}(h:∀ c∈l,c.dim≤d):∀ c∈aa l,c.dim≤d:=fun c hc=>by
 obtain ⟨x,hx,rfl⟩:=ze6.1 hc;exact h x ((cU _ _).1 hx)
theorem CT (x:List Int):(bI x).length≤x.length:=by
 unfold bI;exact zj8 (iX _ _) (by rw[cZ]; exact lR _)
theorem kz {n:Nat}:∀ {ls all out:List (List Int)},(∀ x∈all,x.length≤n)→(∀ x∈ls,x.length≤n)→aC all ls=some out→∀ x∈out,x.length≤n
 | [],all,out,h1,_,h=>by
  simp only[aC,zg2] at h;subst h;exact h1
 | s::r,all,out,h1,h2,h=>by
  have hr:∀ x∈r,x.length≤n:=fun x hx=>h2 x (by simp[hx]);unfold aC at h;split at h
  ·exact kz h1 hr h
  ·split at h
   ·cases h
   ·refine kz (fun x hx=>?_) hr h
    rcases (gC _ _ _).1 hx with k | k
    ·exact h1 x k
    ·have k1:=((gL _ _).1 k).1.length_le;have k2:=CT s;have k3:=h2 s (by simp);omega
theorem gg {ls:List (List Int)}{n:Nat}(h:∀ x∈ls,x.length≤n):∀ c∈bF ls,c.dim≤(n:Int) - 1:=by
 unfold bF;cases hs:aC [] ls with
 | none=>intro c hc; cases hc
 | some all =>
  refine iy fun c hc=>?_;obtain ⟨p,hp,rfl⟩:=ze6.1 hc;have:=kz (n:=n) (by simp) h hs p.1 (List.fst_mem_of_mem_zipIdx hp);show (p.1.length:Int) - 1≤_;omega
theorem gP {a b:List Cl}{m n:Int}(ha:∀ c∈a,c.dim≤m)(hb:∀ c∈b,c.dim≤n):∀ c∈bC a b,c.dim≤m+n:=by
 unfold bC;split
 ·intro c hc; cases hc
 ·split
  ·refine iy fun c hc=>?_;obtain ⟨x,hx,hc⟩:=List.mem_flatMap.1 hc;obtain ⟨z,hz,rfl⟩:=ze6.1 hc;have h1:=iy ha x hx;have h2:=iy hb z hz;show x.dim+z.dim≤_;omega
  ·intro c hc; cases hc
theorem Bf (n:Nat):∀ c∈un n,c.dim≤2:=by
 refine iy fun c hc=>?_;unfold dV at hc
 rcases ze7.1 hc with hc | hc
 ·rcases ze7.1 hc with hc | hc
  ·rcases ze7.1 hc with hc | hc
   ·obtain ⟨i,-,rfl⟩:=ze6.1 hc;exact (by decide:(0:Int)≤2)
   ·obtain ⟨i,-,rfl⟩:=ze6.1 hc;exact (by decide:(1:Int)≤2)
  ·rw[zh2.1 hc];exact Int.le_refl _
 ·split at hc
  ·rw[zh2.1 hc];exact Int.le_refl _
  ·cases hc
theorem wK (ls:List (List Int)):∀ x∈mJ ls,x.length≤4:=fun x hx=>by
 obtain ⟨l,-,rfl⟩:=ze6.1 hx;rw[ze1,zd8];omega
theorem B6 (m:Int)(ls:List (List Int))(y:Int):∀ c∈nS m ls y,c.dim≤3:=by
 have up:∀ {l:List Cl} {d:Int},(∀ c∈l,c.dim≤d)→d≤3→∀ c∈l,c.dim≤3:=fun h1 h2 c hc=>by
  have:=h1 c hc;omega
 have hsf:=(qd y).2.2;have e1:∀ c∈bF [[0,1]],c.dim≤((2:Nat):Int) - 1:=gg dC;unfold nS;split
 ·exact up (gg hsf) dC
 ·split
  ·exact up (gP (gg (eX _).2) (gg (eX _).2)) dC
  ·split
   ·exact up (Bf _) dC
   ·split
    ·exact up (gP (gP e1 e1) e1) dC
    ·split
     ·refine up (gg (n:=4) fun x hx=>?_) dC
      rcases ze7.1 hx with h | h
      ·exact wK ls x h
      ·have:=hsf x (List.mem_of_mem_take h);omega
     ·exact up (gg (wK ls)) dC
theorem tB (kd:Int)(ls:List (List Int))(y:Int):∀ c∈jW kd ls y,c.dim≤3:=fun c hc=>by
 obtain ⟨a,ha,rfl⟩:=nJ (El y) hc;show a.dim≤3;unfold pY at ha;split at ha
 ·have e1:∀ c∈bF [[0,1],[1,2],[0,2]],c.dim≤((2:Nat):Int) - 1:=gg dC;have:=gP e1 e1 a ha;omega
 ·exact B6 _ _ _ a ha
theorem x6 (kd:Int)(ls:List (List Int))(y:Int):∀ c∈je kd ls y,c.dim≤3:=by
 unfold je;split
 ·rw[FA];decide
 ·unfold fw;split
  ·exact tB _ _ _
  ·exact tB _ _ _
theorem AZ {l:List Cl}(h:Rt l){c:Cl}(hc:c∈l):c.sides.length≤l.length:=by
 have hf:=h.form c hc;have hn:(c.sides.map ah.cell).Nodup:=by
  rw[List.Nodup,zj5];exact hf.asc.imp fun h=>by omega
 have:=nf (m:=l.map Cl.id) hn fun x hx=>by
  obtain ⟨q,hq,rfl⟩:=ze6.1 hx;obtain ⟨d,hd,-⟩:=hf.found q hq;obtain ⟨h1,h2⟩:=cJ hd;exact ze6.2 ⟨d,h1,h2⟩
 rwa [ze1,ze1] at this
theorem uV (L:List Cl)(id:Int):∀ (T:List (List Int)) (k:Nat),(∃ t∈T,id∈eP L t)→tlB L k T id≠0
 | [],_,h=>by obtain ⟨t,ht,_⟩:=h; cases ht
 | t::T,k,h=>by
  unfold tlB;by_cases e:id∈eP L t
  ·rw[zf5 (by simpa using e)];have:=Nat.two_pow_pos k;omega
  ·have:tlB L (k+1) T id≠0:=uV L id T (k+1) (by
    obtain ⟨u,hu,h2⟩:=h
    rcases ze5.1 hu with rfl | hu
    ·exact absurd h2 e
    ·exact⟨u,hu,h2⟩)
   omega
theorem zP {l:List Cl}(h:Rt l){T:List (List Int)}(hT:TOk l T):∀ k:Nat,∀ c∈l,9≤c.dim+k→∃ t∈T,c.id∈eP l t:=by
 intro k;induction k with
 | zero =>
  intro c hc hk;have:=(h.form c hc).dim.2;omega
 | succ k ih =>
  intro c hc hk;by_cases e:jf l c.id=true
  ·unfold jf at e;obtain ⟨d,hd,h2⟩:=zj1.1 e;obtain ⟨x,hx,h3⟩:=zj1.1 h2;have h3:x.cell=c.id:=zf7 h3;obtain ⟨c',hf,hdim⟩:=(h.form d hd).found x hx;rw[h3,h.find hc] at hf;injection hf with hf
   subst hf;obtain ⟨t,ht,hm⟩:=ih d hd oM;refine⟨t,ht,?_⟩;have:=o7 h t d hd (by simpa using hm) x hx;rw[h3] at this;simpa using this
  ·have hm:c.id∈iU l:=by
    unfold iU;rw[h.tab];refine ze6.2 ⟨c,zg8.2 ⟨hc,?_⟩,I⟩;simpa using e
   obtain ⟨t,ht,hx⟩:=hT.cov _ hm;refine⟨t,ht,(nZ l t c.id).2 ⟨c.id,hx,.refl _ ?_⟩⟩;unfold j2;rw[h.find hc];simp
theorem CI {l:List Cl}(h:Rt l){T:List (List Int)}(hT:TOk l T):ee l T=0:=by
 have h4:=hT.few;have hf:(T.any fun t=>t.any fun id=>(aG (ae l) id).isNone)=false:=by
  rw[zj6];intro t ht;rw[zi9,zj6];intro x hx;have:=hT.mem t ht x hx;unfold iU at this;obtain ⟨c,hc,rfl⟩:=ze6.1 this;rw[h.tab] at hc ⊢;rw[h.find (zg8.1 hc).1];simp
 have hz:((ae l).any fun c=>decide (tlB (ae l) 0 T c.id=0))=false:=by
  rw[h.tab,zj6];intro c hc;have hd:=(h.form c hc).dim;obtain ⟨t,ht,hm⟩:=zP h hT (9 - c.dim).toNat c hc oM;have:=uV l c.id T 0 ⟨t,ht,hm⟩;simpa using this
 unfold ee;rw[h.check,zf4 (by simp),zf4 oM,hf,zf4 (by simp),hz,zf4 (by simp)]
structure Sm3 (l:List Cl):Prop extends Sml l where
 dims:∀ c∈l,c.dim≤3
theorem AW (kd:Int)(ls:List (List Int))(y:Int):Sm3 (je kd ls y):=⟨AV kd ls y,x6 kd ls y⟩
theorem EG {l:List Cl}(h:Sm3 l){T:List (List Int)}(hT:TOk l T):Cov l (tlB l 0 T) T.length :=
 BM h.rt hT.few (by have:=h.few; omega) (fun c hc=>by have:=h.dims c hc; omega) fun c hc=>by have:=AZ h.rt hc; have:=h.few; omega
def pgN (f:Nat→Nat→Nat→Int)(n D k:Nat):List (List Int):=(List.range n).map fun a=>(List.range D).map fun b=>f k a b
structure Nums (P:List (List (List Int)))(n D:Nat)(e:Int)(f:Nat→Nat→Nat→Int):Prop where
 few:P.length≤n
 n4:n≤4
 d9:D≤9
 page:∀ k,k<P.length→P[k]?=some (pgN f n D k)
 pos:∀ k a b,a<n→0≤f k a b
 less:∀ k a b,a<n→f (k+1) a b≤f k a b
 bd:∀ k a b,(f k a b).natAbs≤800
 sum:∀ k,k<n→(Go.Pl.aI (List.range n) fun a=>Go.Pl.aI (List.range D) fun b=>f k a b * sgP ((a:Int)+b))=e
def prI (L:List Cl)(n:Nat)(id:Int):List (Int×Int):=if kL n id=0 then [((L.getD (id.toNat / 2 ^ n) eO).id,1)] else []
section
variable {L:List Cl}{f:Int→Nat}{n:Nat}(h:Cov L f n)
include h
theorem qX {c:Cl}(hc:c∈L){s:Nat}(hs:s∈bL (f c.id)):prI L n (bId n (ixB L c.id) s)=if onesB s=1 then [(c.id,1)] else []:=by
 have hs2:=(h.s16 hc hs).1;have e2:(bId n (ixB L c.id) s).toNat / 2 ^ n=ixB L c.id:=by
  unfold bId;rw[Int.toNat_natCast,Nat.mul_comm,Nat.mul_add_div (Nat.two_pow_pos n),Nat.div_eq_of_lt hs2,Nat.add_zero]
 have e3:L.getD (ixB L c.id) eO=c:=by
  rw[zg5,h.rt.ix_get hc];rfl
 unfold prI;rw[h.deg hc hs,e2,e3];by_cases e:onesB s=1
 ·rw[zf5 e,zf5 oM]
 ·rw[zf4 e,zf4 oM]
theorem FU:∀ x∈aa (bA L f n),sN L x.dim (prI L n x.id):=fun x hx=>by
 obtain ⟨c,hc,s,hs,rfl⟩:=h.mem.1 hx;show sN L (c.dim+onesB s - 1) (prI L n (bId n (ixB L c.id) s));rw[qX h hc hs];split
 ·rename_i e;refine⟨by simp,fun t ht=>?_,fun t ht=>?_,(by decide:1≤64)⟩
  ·rw[zh2] at ht;subst ht;exact .inl I
  ·rw[zh2] at ht;subst ht;exact⟨c,h.rt.find hc,by rw[e]; omega⟩
 ·exact⟨by simp,by simp,by simp,by decide⟩
theorem C6:vg (aa (bA L f n)) L (prI L n):=fun x hx r=>by
 obtain ⟨c,hc,s,hs,rfl⟩:=h.mem.1 hx;have hs2:=h.s16 hc hs;have h1:chR (prI L n) (az (bM L n (ixB L c.id) c s)).sides r=(c.sides.map fun q=>q.sign * cf (prI L n (bId n (ixB L q.cell) s)) r).sum+((bZ s).map fun q=>sgP (q.2+c.dim) * cf (prI L n (bId n (ixB L c.id) (s - 2 ^ q.1))) r).sum:=by
  unfold chR;rw[eI ((sa L n _ c s).map _),fg,zf9,List.sum_append,zh9,zh9];rfl
 have hcell:∀ q∈c.sides,prI L n (bId n (ixB L q.cell) s)=if onesB s=1 then [(q.cell,1)] else []:=fun q hq=>by
  obtain ⟨d,hd,hdi,-,hss⟩:=h.side hc hq;rw[← hdi];exact qX h hd (hss s hs)
 have hbit:∀ q∈bZ s,prI L n (bId n (ixB L c.id) (s - 2 ^ q.1))=if onesB s=2 then [(c.id,1)] else []:=fun q hq=>by
  rw[qX h hc (h.bit hc hs hq)];have:=(nr s hs2.2 q hq).2.2.1;by_cases e:onesB s=2
  ·rw[zf5 e,zf5 oM]
  ·rw[zf4 e,zf4 oM]
 have hl:=xD s hs2.2 (cH.1 hs).1;rw[h1];show chL L (prI L n (bId n (ixB L c.id) s)) r=_;rw[qX h hc hs];by_cases e1:onesB s=1
 ·rw[zf5 e1];have hb:bZ s=[]:=ze8 (by rw[hl.2.2,zf5 oM]);rw[hb];have e4:(c.sides.map fun q=>q.sign * cf (prI L n (bId n (ixB L q.cell) s)) r).sum=pn c.sides r:=by
   unfold pn;refine zd6 List.sum (zc5 fun q hq=>?_);rw[hcell q hq,zf5 e1];unfold cf;by_cases e:q.cell=r
   ·simp[e]
   ·simp[e]
  rw[e4];unfold chL inc;rw[List.map_singleton,List.sum_singleton,h.rt.find hc];simp
 ·rw[zf4 e1];have e4:(c.sides.map fun q=>q.sign * cf (prI L n (bId n (ixB L q.cell) s)) r).sum=0:=Cw fun q hq=>by
   rw[hcell q hq,zf4 e1];simp[cf]
  have e5:((bZ s).map fun q=>sgP (q.2+c.dim) * cf (prI L n (bId n (ixB L c.id) (s - 2 ^ q.1))) r).sum=0:=by
   by_cases e2:onesB s=2
   ·have e6:((bZ s).map fun q=>sgP (q.2+c.dim) * cf (prI L n (bId n (ixB L c.id) (s - 2 ^ q.1))) r).sum=(sgP c.dim * cf [(c.id,1)] r) * ((bZ s).map fun q=>sgP (q.2+0)).sum:=by
     refine cg fun q hq=>?_;rw[hbit q hq,zf5 e2,qU,Int.add_zero,Int.mul_comm (sgP q.2),Int.mul_assoc,Int.mul_comm (sgP q.2),← Int.mul_assoc]
    rw[e6,xC s hs2.2 e2,Int.mul_zero]
   ·refine Cw fun q hq=>?_;rw[hbit q hq,zf4 e2];simp[cf]
  rw[e4,e5];simp[chL]
theorem FT:iW (aa (bA L f n)) L (prI L n):=by
 refine⟨by rw[h.right.check],by rw[h.rt.check],?_,?_⟩
 ·rw[h.right.canon,h.rt.canon];exact FU h
 ·rw[h.right.canon,h.rt.canon];exact C6 h
omit h in
theorem BW (hp:∀ c∈L,0<f c.id):L.length≤(aa (bA L f n)).length:=by
 have key:∀ q:List (Cl×Nat),(∀ x∈q,0<f x.1.id)→q.length≤(q.flatMap fun x=>(bL (f x.1.id)).map (bM L n x.2 x.1)).length:=by
  intro q;induction q with
  | nil=>intro _; exact zf1 _
  | cons x q ih =>
   intro hq;have h1:=ih fun z hz=>hq z (by simp[hz]);have h2:0<(bL (f x.1.id)).length:=List.length_pos_of_mem (cH.2 ⟨hq x (by simp),Nat.and_self _⟩);rw[zg9,zd9,ze1,ze3];omega
 rw[ak];have:=key L.zipIdx fun x hx=>hp x.1 (List.fst_mem_of_mem_zipIdx hx);rwa [List.length_zipIdx] at this
end
structure Gg (l:List Cl)(T:List (List Int)):Prop where
 map:iW (bh l T) l (prI l T.length)
 more:l.length≤(bh l T).length
 eul:CA (bh l T)=CA l
 rt:Rt (bh l T)
 open0:ee l T=0
theorem CH {l:List Cl}(h:Sm3 l){T:List (List Int)}(hT:TOk l T):Gg l T:=by
 have hc:=EG h hT;have ho:=CI h.rt hT;have hr:Rt (dM l T):=by unfold dM; rw[ru]; exact hc.right
 have hp:∀ c∈l,0<tlB l 0 T c.id:=fun c hcl=>by
  have hd:=(h.rt.form c hcl).dim;obtain ⟨t,ht,hm⟩:=zP h.rt hT (9 - c.dim).toNat c hcl oM;have:=uV l c.id T 0 ⟨t,ht,hm⟩;omega
 have hb:bh l T=aa (bA l (tlB l 0 T) T.length):=by
  unfold bh;rw[h.rt.tab,ho,hr.check,zf4 (by simp)];unfold dM;rw[ru]
 refine⟨?_,?_,?_,?_,ho⟩
 ·rw[hb]; exact FT hc
 ·rw[hb]; exact BW hp
 ·rw[hb]; exact hc.euler hp
 ·rw[hb]; exact hc.right
theorem EJ {m n:Nat}(hn:n≤6):((m:Nat):Int).fdiv (2 ^ min ((n:Nat):Int).toNat IntKind.i64.bits)=((m / 2 ^ n:Nat):Int):=by
 have h1:min ((n:Nat):Int).toNat IntKind.i64.bits=n:=by
  have:IntKind.i64.bits=64:=rfl;rw[this,Int.toNat_natCast];omega
 rw[h1,Int.fdiv_eq_ediv_of_nonneg _ (Int.le_of_lt (Int.pow_pos dC)),Int.natCast_ediv,Int.natCast_pow];rfl
theorem Tryz.buildJ78 (x:Int)(w:World):(Instr.build 78 #[(0,vi x)]).run Tryz.prog w = .ok (.agg #[vi x,.slice none 0 0]) w:=by
 have h1:(vi x).cells = #[vi x]:=rfl;simp[Instr.build,Instr.fill,h1];rfl
theorem Ff {L:List Cl}(hL:Rt L){T:List (List Int)}(hT:T.length≤6):∀ z∈dM L T,∃ k c,L[k]?=some c∧z.id.toNat / 2 ^ T.length=k∧z.id=(z.id.toNat:Int):=fun z hz=>by
 obtain ⟨d,hd,rfl⟩:=ze6.1 hz;have hd:=(cU _ _).1 hd;rw[ru] at hd;obtain ⟨c,hc,s,hs,rfl⟩:=(lm hL).1 hd;have h1:=sub_le (cH.1 hs).2;have h2:=qR L c.id T;refine⟨ixB L c.id,c,hL.ix_get hc,?_,?_⟩
 ·show (bId T.length (ixB L c.id) s).toNat / 2 ^ T.length=_;unfold bId;rw[Int.toNat_natCast,Nat.mul_comm,Nat.mul_add_div (Nat.two_pow_pos _),Nat.div_eq_of_lt oM,Nat.add_zero]
 ·show bId T.length (ixB L c.id) s=((bId T.length (ixB L c.id) s).toNat:Int);unfold bId;rw[Int.toNat_natCast]
theorem uD (E:World)(hE:E.drawn=0)(g:PH)(s:Own)(v tv:Value)(l:List Cl)(T:List (List Int))(hv:am g v l)(hf:dg l)(hw:∀ c∈l,dn c.id)(ht:aM g tv T)(hT:T.length<1099511627776)(hTl:∀ t∈T,t.length<1099511627776) :
  Ctr Tryz.prog E 14 #[.agg #[v],tv] g s (fun x g' s'=>s=s'∧Le g g'∧∃ u,x = .agg #[u]∧Ims g' u ((bh l T).map fun c=>(c.id,prI (ae l) T.length c.id))):=by
 obtain ⟨vp,vc,rfl⟩:=hv.form;refine za9 (args:=[.agg #[.slice vp l.length vc],tv]) func14 I ntmps14 (bE I) ?_;refine rZ (bW (bO I) fun b2=>?_);refine bW (aL zeroValue45) fun b4=>?_;refine tZ (rZ (bW (aL zeroValue45) fun b5=>?_));refine tZ (rZ (lK (qV 2 ba au I I I) (lM I (lW (cL call32 I (lk E hE g _ _ tv l T hv hf hw ht hT hTl)) ?_))));rintro _ g1 _ ⟨rfl,hle1,pv,rfl,hcov⟩;refine lM I (yX I (yX I (lA I (aT I (sQ (rZ (lK (qV 2 ba au I I I) (lM I (lW (cL call12 I (kI E hE g1 _ _ tv l T (hv.mono hle1) hf hw (ht.mono hle1) hT hTl)) ?_)))))))));rintro _ g2 _ ⟨rfl,hle2,u,rfl,hu⟩;obtain ⟨up,uc,rfl⟩:=hu.form;refine lU (SU.field eU I fD I I) (lU (eN aK I) (lM I (tZ (bK ?_))));obtain ⟨us,hus,hallu⟩:=hu;have hul:=hallu.length;have hBl:(bh l T).length<1099511627776:=by
  unfold bh;split
  ·simp
  ·rename_i hb;have hop:ee l T=0:=zg4 fun k=>hb (.inl k);obtain ⟨hok,hT6⟩:=gx hop;have hRt:=fJ hok;have hLt:ae l=aa l:=aR hRt.asc;exact (bH (lr (by rw[hLt]; exact hRt) hT6)).1
 generalize hBd:bh l T=B at *;refine zb4 78 2 ?_;refine oP (ι:=Nat×PH×Value×List Im) (fun z=>[(4,pp b4 0),(5,pp b5 0),(6,pv),(20,.slice up B.length uc),(21,vi B.length),(22,vi z.1)]) (fun z=>z.2.1) (fun z=>rowA ur 78 z.2.2.1 z.2.2.2::pt b5 (.cells #[z.2.2.1] 45 (0,0))::pt b4 (.cells #[.slice none 0 0] 45 (0,0))::pt b2 (.cells #[.slice vp l.length vc] 31 (0,0))::s) (fun z=>z.1≤us.length∧Le g2 z.2.1∧aA (ImR z.2.1) ((B.take z.1).map fun c=>(c.id,prI (ae l) T.length c.id)) z.2.2.2) (fun z=>us.length - z.1) (0,g2,.slice none 0 0,[]) sB I I ⟨zf1 _,zb7 _,trivial⟩ ?_;rintro ⟨k,g3,ov,acc⟩ ⟨hk,hle3,hacc⟩;dsimp only at hk hle3 hacc ⊢;have hal:=hacc.length;rw[ze1,zd8] at hal;refine rZ (yL I (tZ (sQ ?_)));refine iP I (fun hlt=>?_) (fun hlt=>?_)
 ·have hkr:k<us.length:=oM;have hkB:k<B.length:=oM;have hop:ee l T=0∧(aN (dM (ae l) T)).2=0:=by
   refine Decidable.byContradiction fun hn=>?_;have:bh l T=[]:=by
    unfold bh;rw[zf5];by_cases h:ee l T=0
    ·exact .inr fun k=>hn ⟨h,k⟩
    ·exact .inl h
   rw[hBd] at this;rw[this] at hkB;exact absurd hkB (by simp)
  have hBe:B=dM (ae l) T:=by
   rw[← hBd];unfold bh;rw[zf4];rintro (h | h)
   ·exact h hop.1
   ·exact h hop.2
  have hcov:=(hcov hop.1).mono (hle2.trans hle3);obtain ⟨hok,hT6⟩:=gx hop.1;have hRt:=fJ hok;have hLt:ae l=aa l:=aR hRt.asc;have hRt:Rt (ae l):=by rw[hLt]; exact hRt
  have hb1:=za4 hus oM;have hgr:us[((k:Nat):Int).toNat]?=some us[k]:=gE hkr;have hR:=hallu.get (gE hkB) (gE hkr);have hxm:B[k]∈B:=gM hkB;have htk:B.take (k+1)=B.take k++[B[k]]:=tS hkB;generalize B[k]=x at *;generalize us[k]=r at *;obtain ⟨xi,xd,xp,xn,xc⟩:=r;obtain ⟨hxi,-,-⟩:=hR;dsimp only at hxi;subst hxi;have hxB:x∈dM (ae l) T:=by rw[← hBe]; exact hxm
  obtain ⟨ix,c0,hc0,hix,hnat⟩:=Ff hRt hT6 x hxB;have hlt62:=rq hRt hT6 x hxB;have hix1:=(ze9.1 hc0).1;have hLf:=hRt.few;generalize hLd:ae l=L at *;obtain ⟨bc,mc,cv,iv,hpv,hbc,hcv,-,-⟩:=id hcov;subst hpv;obtain ⟨cs,hcs,hallc⟩:=hcv;obtain ⟨cp,cc,rfl⟩:=za2 hcs;have hcl:=hallc.length;have hgc:cs[((ix:Nat):Int).toNat]?=some (cs[ix]'oM):=gE _;have hRc:=hallc.get hc0 (gE (i:=ix) oM);have hbcs:=za4 hcs oM;generalize cs[ix]'oM=rc at *;obtain ⟨ci,cd,ep,en,ec⟩:=rc;obtain ⟨hci,-,-⟩:=hRc;dsimp only at hci;have hpr:prI L T.length x.id=if kL T.length x.id=0 then [(ci,1)] else []:=by
   unfold prI;rw[hix,zg5,hc0,hci];rfl
  refine kP (tN (sQ (bK (rZ (lU (iA aK ax I I hb1 oM sL) (lK (eA fB ax I (za5 (za3 hus hle3)) hgr) (bW (aL zk5) fun b9=>?_)))))));refine oZ (sK 0 ax I I I I I sB) (tZ (rZ (lU (fA ao I zT3 I) (lK (qL (v:=vi x.id) iT3 I (cO 0 I I)) (lU (za1 I (buildJ78 _)) (bW (aL zeroValue78) fun b10=>?_))))));refine oZ (sK 0 sizeOf78 I I I I I sB) (tZ (sQ (sW I (lU (fA ao I zT3 I) (lK (qL (v:=vi x.id) iT3 I (cO 1 I I)) (lW (cL call38 I (kE E g3 _ _ L T x.id hcov hT6 oM hlt62)) ?_))))));rintro _ _ _ ⟨rfl,rfl,rfl⟩;refine yE I (tZ ?_);refine iP I (fun hdeg=>?_) (fun hdeg=>?_)
  ·have hpr1:prI L T.length x.id=[(ci,1)]:=by rw[hpr,zf5 hdeg]
   refine dW [18] [(0,2),(1,2),(2,2),(3,1),(4,2),(5,1),(6,2),(7,2),(8,2),(9,1),(10,2),(11,2),(12,2),(13,1),(14,0),(15,2),(16,0),(17,2),(18,0)] zd7 kR ?_;refine yM I (pU I (nC I) (pU I (fA mY I dN I) (pK I (qL (v:=.slice cp cs.length cc) fD I (cK hbc I)) (pU I (fA ao I zT3 I) (pK I (qL (v:=vi x.id) iT3 I (cO 1 I I)) (yM I (pU I (nC I) (pU I (fA mY I zT3 I) (pK I (qL (v:=vi T.length) iT3 I (cK hbc I)) (pU I (SU.eq (v':=vi ix) (SU.shr I I oM) (zd6 vi (by rw[hnat,EJ hT6,hix]))) ?_))))))))));refine pU I (iA aK ax I I hbcs oM sL) (pU I (fC ao I zT3 I hbcs) (pK I (aZ (e:=encCell) (o:=0) (u:=vi ci) iT3 I (za5 hcs) hgc I) (SP.o I (cL call39 I (od E g3 _ 1 dC dC)) dC (.inr iR) ?_)));rintro _ g4 _ ⟨rfl,rfl,hle4⟩;refine pU I (za1 I (build87 _ _ _)) (SP.o I (bS sty76 I I I (ab ⟨I,trivial⟩) dC) dC (.inr iR) ?_);rintro _ _ _ ⟨b50,rfl,rfl,rfl⟩;refine SP.freeze fun g5 hle5 hb50=>?_;have hTm:SlA cN g5 (.slice (some ⟨b50,0,none⟩) 1 1) [(ci,1)]:=SlA.lit hb50 rfl rfl;refine pU I (fA wt I sizeOf76 I) (SP.on I (SO.store1 0 sizeOf76 I I I I (by show 1<2; decide) I) (.inl dC) ?_);rintro _ _ _ ⟨rfl,rfl⟩;refine pN (tN (rG (lU (fA Cc I sizeOf43 I) (lK (qL (v:=ov) isAgg43 I (cO 3 I I)) (lK (qV 0 isAgg78 sizeOf78 I I I) (lW (bS sty43 I I I (ab ⟨I,trivial⟩) dC) ?_))))));rintro _ _ _ ⟨b55,rfl,rfl,rfl⟩;refine lW (aP (e:=ur) (l:=acc) 2 ⟨x.id,⟨some ⟨b50,0,none⟩,1,1⟩⟩ sty43 I I I I I oM oM) ?_;rintro v56 _ _ ⟨rfl,rfl⟩;refine zc9 fun ⟨w0,hw0⟩=>?_;obtain ⟨q56,d56,rfl⟩:=ag (e:=ur) (l:=acc++[⟨x.id,⟨some ⟨b50,0,none⟩,1,1⟩⟩]) (i:=2) hw0 rfl;clear hw0 w0;refine lU (fA Cc I sizeOf43 I) (oZ (SO.store1 3 sizeOf43 I I I I (by show 0<1; decide) I) ?_);refine nL (bN (tN (rG (yD I (lM I (nL (dR (.cons _ (.cons _ (.refl _))) ?_)))))));exact ST.again (k+1,g5,_,acc++[⟨x.id,⟨some ⟨b50,0,none⟩,1,1⟩⟩]) sB I I ⟨by dsimp only; omega,hle3.trans (hle4.trans hle5),by
    dsimp only;rw[htk,zf9];refine (hacc.mono fun _ _=>ImR.mono (hle4.trans hle5)).append ⟨⟨I,?_⟩,trivial⟩;dsimp only;rw[hpr1];exact hTm⟩ (by dsimp only; omega)
  ·have hpr1:prI L T.length x.id=[]:=by rw[hpr,zf4 hdeg]
   refine kP (tN (rG (lU (fA Cc I sizeOf43 I) (lK (qL (v:=ov) isAgg43 I (cO 3 I I)) (lK (qV 0 isAgg78 sizeOf78 I I I) (lW (bS sty43 I I I (ab ⟨I,trivial⟩) dC) ?_))))));rintro _ _ _ ⟨b55,rfl,rfl,rfl⟩;refine lW (aP (e:=ur) (l:=acc) 2 ⟨x.id,⟨none,0,0⟩⟩ sty43 I I I I I oM oM) ?_;rintro v56 _ _ ⟨rfl,rfl⟩;refine zc9 fun ⟨w0,hw0⟩=>?_;obtain ⟨q56,d56,rfl⟩:=ag (e:=ur) (l:=acc++[⟨x.id,⟨none,0,0⟩⟩]) (i:=2) hw0 rfl;clear hw0 w0;refine lU (fA Cc I sizeOf43 I) (oZ (SO.store1 3 sizeOf43 I I I I (by show 0<1; decide) I) ?_);refine nL (bN (tN (rG (yD I (lM I (nL (dR (.cons _ (.cons _ (.refl _))) ?_)))))));exact ST.again (k+1,g3,_,acc++[⟨x.id,⟨none,0,0⟩⟩]) sB I I ⟨by dsimp only; omega,hle3,by
    dsimp only;rw[htk,zf9];refine hacc.append ⟨⟨I,?_⟩,trivial⟩;dsimp only;rw[hpr1];exact zb8 _ _⟩ (by dsimp only; omega)
 ·have hke:k=us.length:=oM;subst hke;rw[tL oM] at hacc;refine fS fun g4 hle4 hs4=>?_;obtain ⟨q4,d4,rfl⟩:=Sl.form hs4;refine xI (tX (tX (bX (tN (rZ (lK (qV 0 isAgg45 sizeOf45 I I I) (oZ (sK 1 sizeOf45 I I I I I ⟨I,trivial⟩) (tZ (rE ?_)))))))));exact ST.retCD 1 s (.inl I) results14 I isAgg45 sizeOf45 I I uR ⟨I,hle1.trans (hle2.trans (hle3.trans hle4)),_,I,acc,hs4,hacc.mono fun _ _=>ImR.mono hle4⟩
end Go.Proofs.YtcfkpajlakidbaaGreatDoor
