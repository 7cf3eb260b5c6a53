/- 14 -/
import Derived.Test.YtcfkpajlakidbaaGreatDoorTb13
import Derived.Test.YtcfkpajlakidbaaGreatDoorTb11
import Derived.Test.YtcfkpajlakidbaaGreatDoorTb09
import Derived.Test.YtcfkpajlakidbaaGreatDoorTb06
import Derived.Test.YtcfkpajlakidbaaGreatDoorTb08
import Derived.Test.YtcfkpajlakidbaaGreatDoorTb10
import Derived.Test.YtcfkpajlakidbaaGreatDoorTb07
import Derived.Test.YtcfkpajlakidbaaGreatDoorTb12
set_option linter.unusedSimpArgs false
set_option linter.unusedVariables false
namespace Go.Proofs.YtcfkpajlakidbaaGreatDoor
open _root_.Go.Proofs.Tryz _root_.Go.Proofs.YtcfkpajlakidbaaGreatDoor.Tryz
open Go Go.Sy Go.Pl Go.Proofs
set_option maxRecDepth 100000
set_option maxHeartbeats 4000000
def Pgs (g:PH)(v:Value)(P:List (List (List Int))):Prop:=∃ rs,SlA aA g v rs∧au (fun (Q:List (List Int)) (r:Sv)=>aH g (.slice r.p r.n r.c) Q) P rs
theorem Pgs.mono {g g':PH}{v:Value}{P:List (List (List Int))}(h:Pgs g v P)(hl:Le g g'):Pgs g' v P:=by
 obtain ⟨rs,h1,h2⟩:=h;exact⟨rs,za3 h1 hl,h2.mono fun _ _ h=>h.mono hl⟩
theorem Pgs.nil (g:PH):Pgs g (.slice none 0 0) []:=⟨[],zb8 g _,trivial⟩
theorem zC {α:Type}[DecidableEq α]{P:List α}{n:Nat}(h1:1<n)(hn:n≤P.length):jz (P.take n)=if P[n - 1]'oM=P[n - 2]'oM then jz (P.take (n - 1)) else P.take n:=by
 have e1:P.take n=P.take (n - 2)++[P[n - 2]'oM]++[P[n - 1]'oM]:=by
  have a1:=tS (l:=P) (i:=n - 1) oM;have a2:=tS (l:=P) (i:=n - 2) oM;rw[show n - 2+1=n - 1 by omega] at a2;rw[show n - 1+1=n by omega] at a1;rw[a1,a2]
 have e2:P.take (n - 1)=P.take (n - 2)++[P[n - 2]'oM]:=by
  have a2:=tS (l:=P) (i:=n - 2) oM;rwa [show n - 2+1=n - 1 by omega] at a2
 rw[e1,e2];generalize P.take (n - 2)=q;generalize P[n - 2]'oM=a;generalize P[n - 1]'oM=b;unfold jz;rw[List.reverse_append,List.reverse_append];show (oL (b::a::q.reverse)).reverse=if b=a then (oL (a::q.reverse)).reverse else q++[a]++[b]
 conv=>lhs; unfold oL
 split
 ·rfl
 ·simp
theorem A8 {α:Type}[DecidableEq α]{P:List α}{n:Nat}(h:¬ 1<n):jz (P.take n)=P.take n:=by
 have hl:(P.take n).length≤1:=by rw[ze2]; omega
 generalize P.take n=q at hl
 match q,hl with
 | [],_=>rfl
 | [a],_=>rfl
theorem qq {L:List Cl}(hL:Rt L){T:List (List Int)}(hT:T.length≤6):∀ c∈dz L T,c.id<4611686018427387904:=fun z hz=>by
 obtain ⟨d,hd,rfl⟩:=ze9.1 hz;have hd:=(dp _ _).1 hd;rw[zu] at hd;obtain ⟨c,hc,s,hs,rfl⟩:=(sb hL).1 hd;have h1:=sub_le (nt.1 hs).2;have h2:=D4 L c.id hT;have h3:=(zf3.1 (hL.ix_get hc)).1;have h4:=hL.few;have h5:=CG (i:=ixB L c.id) (s:=s) hT oM oM;show bId T.length (ixB L c.id) s<_;omega
theorem zi {l:List Cl}(h:(aU l).2=0) : -1≤yj l∧yj l≤8:=by
 have hr:=gY h;have ht:ae l=aa l:=aJ hr.asc;have key:∀ (q:List Cl) (m:Int),(∀ c∈q,c.dim≤8) → -1≤m→m≤8 → -1≤tT q m∧tT q m≤8:=by
  intro q;induction q with
  | nil=>exact fun m _ h1 h2=>⟨h1,h2⟩
  | cons c q ih =>
   intro m hq h1 h2;have hc:=hq c (by simp);exact ih (max m c.dim) (fun d hd=>hq d (by simp[hd])) oM oM
 unfold yj;rw[ht];exact key _ _ (fun c hc=>(hr.form c hc).dim.2) dC dC
theorem yZ {B:List Cl}{c:Cl}(hc:c∈B)(h:200<(B.filter fun x=>decide (x.dim=c.dim)).length):tf B=true:=zj4.2 ⟨c,hc,zf6 h⟩
theorem Dw {B:List Cl}(h:∀ d:Int,(B.filter fun x=>decide (x.dim=d)).length≤200):tf B=false:=by
 rw[Bool.eq_false_iff];intro k;obtain ⟨c,hc,h2⟩:=zj4.1 k;have:=h c.dim;simp at h2;omega
theorem Tryz.build107 (b mb mk:Nat)(p:Int)(w:World):(Instr.build 107 #[(0,pp b 0),(1,vi p),(2,.map (some mb)),(3,.map (some mk))]).run Tryz.prog w = .ok (.agg #[pp b 0,vi p,.map (some mb),.map (some mk)]) w:=by
 have h1:∀ n,(vi n).cells = #[vi n]:=fun _=>rfl;have h2:(pp b 0).cells = #[pp b 0]:=rfl;have h3:∀ m:Nat,(Value.map (some m)).cells = #[.map (some m)]:=fun _=>rfl;simp[Instr.build,Instr.fill,h1,h2,h3];rfl
theorem r8 {rf:List Cl→List Cl→Nat}{n:Nat}{B:List Cl}{D:Nat}{r:Int}:(AS rf n B D r).length=n:=by
 unfold AS;rw[ze4,zi2]
theorem ly {α:Type}(f:Nat→α)(k:Nat):(List.range (k+1)).map f=(List.range k).map f++[f k]:=by
 rw[List.range_succ,zg3];rfl
theorem C6 {ms:Mk}{j:Nat}{k:Int}{v:Value}{l:List Rc}(h:ms[j]?=some (k,v,l)){hd:Own}(s:Own){x:Ent}(hh:hd.length=6):((hd++(ft ms++s)).set (j+6) x)[j+6]?=some x:=by
 have hj:=(zf3.1 h).1;rw[List.getElem?_set_self];simp only[ze3,ft,ze4];omega
theorem pF {rf:List Cl→List Cl→Nat}{n:Nat}{B:List Cl}{D:Nat}:(jM rf n B D).length=n:=by
 unfold jM;rw[ze4,zi2]
theorem tC {rf:List Cl→List Cl→Nat}{n:Nat}{B:List Cl}{D:Nat}:∀ Q∈jM rf n B D,Q.length=n∧∀ x∈Q,x.length=D:=fun Q h=>by
 obtain ⟨r,-,rfl⟩:=ze9.1 h;refine⟨r8,fun x hx=>?_⟩;obtain ⟨a,-,rfl⟩:=ze9.1 hx;rw[ze4,zi2]
theorem Tryz.sty51:STy Tryz.prog 51 22 1 24 (.slice none 0 0):=⟨underlying51,⟨t22,by kernel_rfl,by kernel_rfl,by kernel_rfl,by kernel_rfl⟩,rfl,by decide⟩
theorem pE (E:World)(hE:E.drawn=0)(g:PH)(s:Own)(v tv:Value)(l:List Cl)(T:List (List Int))(p:Int)(hv:ao g v l)(hf:cU l)(hw:∀ c∈l,dJ c.id)(ht:aH g tv T)(hT:T.length<1099511627776)(hTl:∀ t∈T,t.length<1099511627776)(hp2:2≤p)(hp9:p<9) :
  Ctr Tryz.prog E 18 #[.agg #[v],tv,vi p] g s (fun x g' s'=>s=s'∧Le g g'∧∃ u,x = .tuple #[u,vi (ek l T p)]∧Pgs g' u (dj l T p)):=by
 obtain ⟨vp,vc,rfl⟩:=hv.form;have hnone:ek l T p≠0→dj l T p=[]:=fun h=>by unfold dj; rw[zf8 h]
 refine za9 (args:=[.agg #[.slice vp l.length vc],tv,vi p]) func18 I ntmps18 (bE I) ?_;refine rZ (bW (bO I) fun b3=>?_);refine lA I (aT I (sQ (sW I (lW (cL call51 I (pz E g _ p hp2 hp9)) ?_))));rintro _ _ _ ⟨rfl,rfl,rfl⟩;refine lU (SU.not I) (tZ ?_);refine iQ I (fun hpr=>?_) (fun hpr=>?_)
 ·have hpr:jL p=false:=by simpa using hpr
  refine rZ (lA I (aT I (rE (tR ?_))));have he:ek l T p=46:=by unfold ek; rw[zf8 hpr]
  refine dR (s':=s) uR ?_;exact ST.ret2 (.inl I) results18 I I ⟨I,zb7 g,_,by rw[he],by rw[hnone (by rw[he]; decide)]; exact Pgs.nil g⟩
 ·have hpr:jL p=true:=by simpa using hpr
  have hp:=gF.1 hpr;refine kP (tN (rZ (lK (qV 0 aY ar I I I) (lM I (lW (cL call32 I (kJ E hE g _ _ tv l T hv hf hw ht hT hTl)) ?_)))));rintro _ g1 _ ⟨rfl,hle1,pv,rfl,hcov⟩;refine lM I (yX I (yX I (lA I (aT I (sQ (sW I (lU (nQ I I) (tZ ?_))))))));refine iP I (fun hop=>?_) (fun hop=>?_)
  ·refine sW I (lA I (aT I (rE (tR ?_))));have he:ek l T p=bU l T:=by unfold ek; rw[zf7 (by rw[hpr]; simp),zf8 hop]
   refine dR (s':=s) uR ?_;exact ST.ret2 (.inl I) results18 I I ⟨I,hle1,_,by rw[he]; rfl,by rw[hnone (by rw[he]; exact hop)]; exact Pgs.nil _⟩
  ·have hop0:bU l T=0:=zg7 hop;have hcov:=hcov hop0;obtain ⟨hok,hT6⟩:=cJ hop0;have hRt:=gY hok;have hLt:ae l=aa l:=aJ hRt.asc;have hRt:Rt (ae l):=by rw[hLt]; exact hRt
   have hBf:=bw (e6 hRt hT6);have hBlt:=qq hRt hT6;have hdim:=zi hok;refine kP (tN (sW I (lW (cL call33 I (ox E g1 _ pv (ae l) T hcov hRt hT6)) ?_)));rintro _ g2 _ ⟨rfl,hle2,u,rfl,hu⟩;obtain ⟨up,uc,rfl⟩:=hu.form;refine bW (aL zk8) fun b10=>?_;refine oZ (sK 0 ar I I I I I ⟨I,trivial⟩) (tZ (sQ (rZ (lK (qV 0 aY ar I I I) (lW (cL call13 I (lF E g2 _ _ (dz (ae l) T) hu hBf)) ?_)))));rintro _ _ _ ⟨rfl,rfl,rfl⟩;refine lM I (yX I (yX I (lA I (aT I (sW I (lU (nQ I I) (tZ ?_)))))));refine iP I (fun hbl=>?_) (fun hbl=>?_)
   ·refine rZ (lA I (aT I (rE (tR ?_))));have he:ek l T p=2:=by unfold ek; rw[zf7 (by rw[hpr]; simp),zf7 hop,zf8 (.inl hbl)]
    refine dR (s':=s) uR ?_;exact ST.ret2 (.inl I) results18 I I ⟨I,hle1.trans hle2,_,by rw[he],by rw[hnone (by rw[he]; decide)]; exact Pgs.nil _⟩
   ·have hBR:Rt (dz (ae l) T):=by
     have:=gY (zg7 hbl);unfold dz at this ⊢;rwa [fI] at this
    generalize hBd:dz (ae l) T=B at *;obtain ⟨us,hus,hallu⟩:=hu;have hul:=hallu.length;obtain ⟨bc,mc,cv,iv,rfl,hbc,-⟩:=id hcov;refine kP (tN (sW I (lM I (lW (SO.mkMap) ?_))));rintro _ _ _ ⟨b46,rfl,rfl,rfl⟩;refine lW (SO.mkKn (F:=fun a low dim=>fU (rkP p) T.length B a low dim)) ?_;rintro _ _ _ ⟨b47,rfl,rfl,rfl⟩;refine lU (za1 I (build107 _ _ _ _)) (bW (bO I) fun b49=>?_);refine aT I (sQ (rZ (lU (fA cH I bG I) (lK (qL (v:=.slice up B.length uc) dg I (cO 3 I I)) (lU (eN az I) (lM I (tZ (bK ?_))))))));refine oP (ι:=Nat×Mk) (fun z=>[(3,pp b3 0),(8,pp bc 0),(10,pp b10 0),(13,pp b49 0),(51,.slice up B.length uc),(52,vi B.length),(53,vi z.1)]) (fun _=>g2) (fun z=>pt b49 (.cells #[pp bc 0,vi p,.map (some b46),.map (some b47)] 107 (0,0))::knE b47 (fun a low dim=>fU (rkP p) T.length B a low dim)::mp b46 (oC z.2)::pt b10 (.cells #[.slice up B.length uc] 31 (0,0))::pt b3 (.cells #[.slice vp l.length vc] 31 (0,0))::(ft z.2++s)) (fun z=>z.1≤us.length∧(∀ d,m0 (oW z.2) d=(us.take z.1).filter fun r=>decide (r.dim=d))∧∀ d:Int,((us.take z.1).filter fun r=>decide (r.dim=d)).length≤200) (fun z=>us.length - z.1) (0,[]) sB I I ⟨zf4 _,fun _=>I,fun _=>by simp⟩ ?_;rintro ⟨k,ms⟩ ⟨hk,hcon,hcnt⟩;dsimp only at hk hcon hcnt ⊢;refine rZ (yL I (tZ (sQ ?_)));refine iP I (fun hlt=>?_) (fun hlt=>?_)
    ·have hkr:k<us.length:=oM;have hkB:k<B.length:=oM;have hb1:=za4 hus oM;have hgr:us[((k:Nat):Int).toNat]?=some us[k]:=gE hkr;have hsn:=Au hkr;have hR:=hallu.get (gE hkB) (gE hkr);have hmB:B[k]∈B:=gM hkB;have hfB:=(mY hallu B[k].dim).length;have hsub:∀ d:Int,((us.take (k+1)).filter fun r=>decide (r.dim=d)).length≤(us.filter fun r=>decide (r.dim=d)).length:=fun d=>((List.take_sublist _ _).filter _).length_le;have hlB:=hBR.few;generalize us[k]=x at *;generalize B[k]=y at *;obtain ⟨xi,xd,xp,xn,xc⟩:=x;obtain ⟨-,hyd,-⟩:=hR;dsimp only at hyd hsn;obtain ⟨ms1,j0,v0,l0,hp0,hp1,hp2,hp3,hp4,-,hp5⟩:=EI ms xd;have hl0:l0.length≤200:=by rw[← hp0,hcon]; exact hcnt _
     have hl1:((us.take (k+1)).filter fun r=>decide (r.dim=xd))=l0++[⟨xi,xd,⟨xp,xn,xc⟩⟩]:=by rw[hsn,zf8 rfl,← hp0,hcon]
     refine kP (tN (sQ (bK (rZ (lU (iA az aw I I hb1 oM sL) (lK (eA eO aw I (za5 hus) hgr) (bW (aL zk9) fun b15=>?_)))))));refine oZ (sK 0 aw I I I I I sB) (tZ (sQ ?_));refine SC.to (fun w hw=>hp5 E g2 [pt b15 (.cells #[vi xi,vi xd,.slice xp xn xc] 64 (0,0)),pt b49 (.cells #[pp bc 0,vi p,.map (some b46),.map (some b47)] 107 (0,0)),knE b47 (fun a low dim=>fU (rkP p) T.length B a low dim),mp b46 (oC ms),pt b10 (.cells #[.slice up B.length uc] 31 (0,0)),pt b3 (.cells #[.slice vp l.length vc] 31 (0,0))] s w hw) ?_;refine SC.drawT 6 [16] [(0,2),(1,2),(2,2),(3,1),(4,2),(5,1),(6,2),(7,2),(8,2),(9,1),(10,2),(11,1),(12,1),(13,1),(14,0),(15,0),(16,0)] ze1 kR ?_;refine yM rfl (pU rfl (nC rfl) (pU rfl (fA lV rfl sizeOf104 rfl) (pK rfl (qL (v:=.map (some b46)) isAgg104 rfl (cO 1 rfl rfl)) (pU rfl (fA am rfl zT3 rfl) (pK rfl (qL (v:=vi xd) iT3 rfl (cO 0 rfl rfl)) (yM rfl (pU rfl (nC rfl) (pU rfl (fA lV rfl sizeOf104 rfl) (pK rfl (qL (v:=.map (some b46)) isAgg104 rfl (cO 1 rfl rfl)) (pU rfl (fA am rfl zT3 rfl) (pK rfl (qL (v:=vi xd) iT3 rfl (cO 0 rfl rfl)) (pK rfl (SQ.eq (v':=v0) (SQ.lookup mty104 rfl rfl (dB.own 3 rfl)) hp2) (pK rfl (qV 0 eO aw rfl rfl rfl) (SP.o rfl (bS sty29 rfl rfl rfl (ab ⟨rfl,trivial⟩) dC) dC (.inr (by rintro _ _ _ ⟨b71,rfl,rfl,rfl⟩; exact⟨by exact zb7 _,(by exact .cons _ (List.take_sublist _ _))⟩)) ?_))))))))))))));rintro _ _ _ ⟨b71,rfl,rfl,rfl⟩;refine SP.o rfl (aP (e:=encCell) (l:=l0) (j0+6) ⟨xi,xd,⟨xp,xn,xc⟩⟩ sty29 rfl rfl rfl (zR hp1 s) rfl oM oM) dC (.inr (by rintro v72 _ _ ⟨rfl,rfl⟩; exact⟨by exact zb7 _,(by exact dH _ _ _ _)⟩)) ?_;rintro v72 _ _ ⟨rfl,rfl⟩;refine zc9 fun ⟨w0,hw0⟩=>?_;obtain ⟨q72,d72,rfl⟩:=ag (e:=encCell) (l:=l0++[⟨xi,xd,⟨xp,xn,xc⟩⟩]) (i:=j0+6) hw0 (C6 hp1 s rfl);clear hw0 w0;refine SP.on I (SO.mapUpdate 3 mty104 I I I I) (.inl dC) ?_;rintro _ _ _ ⟨rfl,rfl⟩;refine pN (tN (sQ (SC.drop (s':=pt b15 (.cells #[vi xi,vi xd,.slice xp xn xc] 64 (0,0))::pt b49 (.cells #[pp bc 0,vi p,.map (some b46),.map (some b47)] 107 (0,0))::knE b47 (fun a low dim=>fU (rkP p) T.length B a low dim)::mp b46 (oC (ms1.set j0 (xd,Value.slice q72 (l0++[(⟨xi,xd,⟨xp,xn,xc⟩⟩:Rc)]).length d72,l0++[(⟨xi,xd,⟨xp,xn,xc⟩⟩:Rc)])))::pt b10 (.cells #[.slice up B.length uc] 31 (0,0))::pt b3 (.cells #[.slice vp l.length vc] 31 (0,0))::(ft (ms1.set j0 (xd,Value.slice q72 (l0++[(⟨xi,xd,⟨xp,xn,xc⟩⟩:Rc)]).length d72,l0++[(⟨xi,xd,⟨xp,xn,xc⟩⟩:Rc)]))++s)) (by rw[← hp3,← zQ hp1 s]; exact .refl _) ?_)));refine dW [] [(0,2),(1,2),(2,2),(3,1),(4,2),(5,1),(6,1),(7,2),(8,2)] ze1 kR ?_;refine yM I (pU I (nC I) (pU I (fA lV I sizeOf104 I) (pK I (qL (v:=.map (some b46)) isAgg104 I (cO 1 I I)) (pU I (fA am I zT3 I) (pK I (qL (v:=vi xd) iT3 I (cO 0 I I)) (pK I (SQ.eq (v':=Value.slice q72 (l0++[(⟨xi,xd,⟨xp,xn,xc⟩⟩:Rc)]).length d72) (SQ.lookup mty104 I I (dB.own 3 I)) (by rw[← hp3,z8,zf8 I]; rfl)) ?_))))));refine pU I (eN az I) (pU I (gR I I) (pN (tN ?_)));refine iP I (fun hbig=>?_) (fun hbig=>?_)
     ·have hmany:tf B=true:=yZ hmB (by
       rw[hfB,← hyd];have:=hsub xd;rw[hl1] at this;omega)
      have he:ek l T p=2:=by unfold ek; rw[zf7 (by rw[hpr]; simp),zf7 hop,hBd,zf8 (.inr hmany)]
      refine rZ (lA I (aT I (rE (bR (tR (tR (bR (tR (dR (s':=s) (.cons _ (.cons _ (.cons _ (.cons _ (.cons _ (.cons _ (List.sublist_append_right _ _))))))) ?_)))))))));exact ST.ret2 (.inl I) results18 I I ⟨I,hle1.trans hle2,_,by rw[he],by rw[hnone (by rw[he]; decide)]; exact Pgs.nil _⟩
     ·refine kP (bN (tN (rG (yD I (lM I (nL (dR (.cons _ (.refl _)) ?_)))))));exact gA (k+1,(ms1.set j0 (xd,Value.slice q72 (l0++[(⟨xi,xd,⟨xp,xn,xc⟩⟩:Rc)]).length d72,l0++[(⟨xi,xd,⟨xp,xn,xc⟩⟩:Rc)]))) sB I I ⟨by dsimp only; omega,fun d=>by
       dsimp only;rw[hp4,wq,hcon,hcon,hsn];by_cases e:d=xd
       ·subst e; rfl
       ·rw[zf7 e,zf7 e],fun d=>by
       dsimp only;by_cases e:d=xd
       ·rw[e,hl1]; omega
       ·rw[hsn,zf7 e]; exact hcnt d⟩ (by dsimp only; omega)
    ·have hke:k=us.length:=oM;subst hke;rw[List.take_length] at hcon hcnt;refine xI (tX (tX (bX (tN (sQ (SC.freeze fun g3 hl3 hb49=>?_))))));refine cP (s':=mp b46 (oC ms)::pt b10 (.cells #[.slice up B.length uc] 31 (0,0))::pt b3 (.cells #[.slice vp l.length vc] 31 (0,0))::(ft ms++knE b47 (fun a low dim=>fU (rkP p) T.length B a low dim)::s)) (List.perm_middle (a:=knE b47 (fun a low dim=>fU (rkP p) T.length B a low dim)) (l₁:=mp b46 (oC ms)::pt b10 (.cells #[.slice up B.length uc] 31 (0,0))::pt b3 (.cells #[.slice vp l.length vc] 31 (0,0))::ft ms) (l₂:=s)).symm ?_;refine SC.freezeMap fun g4 hl4 hmp=>?_;refine SC.freeze fun g5 hl5 hb10=>?_;refine SC.freeze fun g6 hl6 hb3=>?_;refine SC.freezeKs fun g7 hl7 hks=>?_;refine rG (aT I (sQ (sW I (lU (nC I) (lU (fA mB I zT3 I) (lK (qL (v:=vi T.length) iT3 I (cK ((hle2.trans (hl3.trans (hl4.trans (hl5.trans (hl6.trans hl7))))) _ _ hbc) I)) (lM I (tZ (bK ?_)))))))));have hcnt':∀ d:Int,(B.filter fun c=>decide (c.dim=d)).length≤200:=fun d=>by
      rw[(mY hallu d).length];exact hcnt d
     have hno:tf B=false:=Dw hcnt';have hl57:=hl5.trans (hl6.trans hl7);have hl37:=hl4.trans hl57;have hl27:=hl3.trans hl37;have hspec:vH g7 (pp b49 0) (ae l) T p B b47:=⟨b49,b46,pp bc 0,rfl,hl37 _ _ hb49,hcov.mono (hle2.trans hl27),Ev (hmp.mono hl57) hks (hallu.mono fun _ _=>aq.mono hl27) hcon⟩;have hbc7:=(hle2.trans hl27) _ _ hbc;have hb37:=hl7 _ _ hb3;have hv7:=hv.mono (hle1.trans (hle2.trans hl27));have hBok:Bok T.length B:=⟨hBR,hBlt,hcnt'⟩;have hD:yj l+1=((dimN l:Nat):Int):=by unfold dimN yj at *; omega
     have hD9:dimN l≤9:=oM;have he:ek l T p=0:=by unfold ek; rw[zf7 (by rw[hpr]; simp),zf7 hop,hBd,zf7]; rw[hno]; rintro (h | h); exact hbl h; cases h
     have hC:dj l T p=jz (jM (rkP p) T.length B (dimN l)):=by unfold dj; rw[zf7 (by rw[he]; simp),hBd]
     generalize dimN l=D at *;refine zb4 22 1 ?_;refine oP (ι:=PH×Nat×Value×List Sv) (fun z=>[(3,pp b3 0),(8,pp bc 0),(13,pp b49 0),(16,z.2.2.1),(86,vi T.length),(87,vi z.2.1)]) (fun z=>z.1) (fun z=>rowA aA 22 z.2.2.1 z.2.2.2::knE b47 (fun a low dim=>fU (rkP p) T.length B a low dim)::s) (fun z=>Le g7 z.1∧z.2.1≤T.length∧au (fun (Q:List (List Int)) (r:Sv)=>aH z.1 (.slice r.p r.n r.c) Q) ((List.range z.2.1).map fun r:Nat=>AS (rkP p) T.length B D ((r:Int)+1)) z.2.2.2) (fun z=>T.length - z.2.1) (g7,0,.slice none 0 0,[]) sB I I ⟨zb7 _,zf4 _,trivial⟩ ?_;rintro ⟨g8,k2,ov,os⟩ ⟨hle8,hk2,hacc⟩;dsimp only at hle8 hk2 hacc ⊢;have hol:=hacc.length;rw[ze4,zi2] at hol;refine rZ (yL I (tZ (sQ ?_)));refine iP I (fun hlt=>?_) (fun hlt=>?_)
     ·refine kP (tN (sQ (bK (sW I (aT I (rZ (aT I (sQ (sW I (lU (nC I) (lU (fA mB I zT3 I) (lK (qL (v:=vi T.length) iT3 I (cK (hle8 _ _ hbc7) I)) (lM I (tZ (bK (zb4 25 1 ?_))))))))))))))));refine oP (ι:=PH×Nat×Value×List Sv) (fun z=>[(3,pp b3 0),(8,pp bc 0),(13,pp b49 0),(16,ov),(17,vi k2),(18,z.2.2.1),(86,vi T.length),(87,vi k2),(93,vi T.length),(94,vi z.2.1)]) (fun z=>z.1) (fun z=>rowA aA 25 z.2.2.1 z.2.2.2::rowA aA 22 ov os::knE b47 (fun a low dim=>fU (rkP p) T.length B a low dim)::s) (fun z=>Le g8 z.1∧z.2.1≤T.length∧au (be z.1) ((List.range z.2.1).map fun a:Nat=>(List.range D).map fun b:Nat=>yf (rkP p) T.length B ((k2:Int)+1) a b) z.2.2.2) (fun z=>T.length - z.2.1) (g8,0,.slice none 0 0,[]) sB I I ⟨zb7 _,zf4 _,trivial⟩ ?_;rintro ⟨g9,k3,pv,ps⟩ ⟨hle9,hk3,hac2⟩;dsimp only at hle9 hk3 hac2 ⊢;have hpl:=hac2.length;rw[ze4,zi2] at hpl;have hle79:=hle8.trans hle9;refine rZ (yL I (tZ (sQ ?_)));refine iP I (fun hlt3=>?_) (fun hlt3=>?_)
      ·refine kP (tN (sQ (bK (sW I (aT I (rZ (aT I (sQ (rZ (lK (SQ.loadOne aY ar I (cK (hle79 _ _ hb37) I)) (lW (cL call52 I (wz E g9 _ (.slice vp l.length vc) l (hv7.mono hle79) hf)) ?_)))))))))));rintro _ g10 _ ⟨rfl,rfl,hle10⟩;refine lU (SU.eq (v':=vi D) (aD I I oM) (zd9 vi hD)) (lM I (tZ (bK (zb4 3 1 ?_))));refine oP (ι:=PH×Nat×Value) (fun z=>[(3,pp b3 0),(8,pp bc 0),(13,pp b49 0),(16,ov),(17,vi k2),(18,pv),(19,vi k3),(20,z.2.2),(86,vi T.length),(87,vi k2),(93,vi T.length),(94,vi k3),(99,vi D),(100,vi z.2.1)]) (fun z=>z.1) (fun z=>rowA encInt 3 z.2.2 ((List.range z.2.1).map fun b:Nat=>yf (rkP p) T.length B ((k2:Int)+1) k3 b)::rowA aA 25 pv ps::rowA aA 22 ov os::knE b47 (fun a low dim=>fU (rkP p) T.length B a low dim)::s) (fun z=>Le g10 z.1∧z.2.1≤D) (fun z=>D - z.2.1) (g10,0,.slice none 0 0) sB I I ⟨zb7 _,zf4 _⟩ ?_;rintro ⟨g11,k4,iv⟩ ⟨hle11,hk4⟩;dsimp only at hle11 hk4 ⊢;have hle711:=hle79.trans (hle10.trans hle11);have hil:((List.range k4).map fun b:Nat=>yf (rkP p) T.length B ((k2:Int)+1) k3 b).length=k4:=by rw[ze4,zi2]
       refine rZ (yL I (tZ (sQ ?_)));refine iP I (fun hlt4=>?_) (fun hlt4=>?_)
       ·refine kP (tN (sQ (bK (sW I (aT I (rG (lM I (lM I (lM I (yD I (lM I (lM I (lW (cL call53 I (uX E g11 _ (pp b49 0) (ae l) T p hp B b47 3 ((k2:Int)+1) k3 k4 (hspec.mono hle711) hBok hT6 I oM oM oM)) ?_)))))))))))));rintro _ g12 _ ⟨rfl,rfl,hle12⟩;refine lW (bS sty25 I I I (ab ⟨I,trivial⟩) dC) ?_;rintro _ _ _ ⟨b110,rfl,rfl,rfl⟩;refine lW (aP (e:=encInt) (l:=(List.range k4).map fun b:Nat=>yf (rkP p) T.length B ((k2:Int)+1) k3 b) 0 (yf (rkP p) T.length B ((k2:Int)+1) k3 k4) sty25 I I I I I oM oM) ?_;rintro v111 _ _ ⟨rfl,rfl⟩;refine lA I (nL (bN (tN (rG (yD I (lM I (nL ?_)))))));exact gA (g12,k4+1,v111) sB I (by dsimp only; rw[ly]; rfl) ⟨hle11.trans hle12,by dsimp only; omega⟩ (by dsimp only; omega)
       ·have hke4:k4=D:=oM;subst hke4;refine fS fun g12 hle12 hs12=>?_;obtain ⟨q12,c12,rfl⟩:=Sl.form hs12;rw[hil] at hs12 ⊢;refine xI (tX (tX (bX (tN (rG (lM I (lM I (lW (bS sty22 I I I (ab ⟨I,trivial⟩) dC) ?_))))))));rintro _ _ _ ⟨b115,rfl,rfl,rfl⟩;refine lW (aP (e:=aA) (l:=ps) 0 ⟨q12,k4,c12⟩ sty22 I I I I I oM oM) ?_;rintro v116 _ _ ⟨rfl,rfl⟩;refine lA I (nL (bN (tN (rG (yD I (lM I (nL ?_)))))));exact gA (g12,k3+1,v116,ps++[⟨q12,k4,c12⟩]) sB I I ⟨hle9.trans (hle10.trans (hle11.trans hle12)),by dsimp only; omega,by
         dsimp only;rw[ly];refine (hac2.mono fun _ _=>be.mono (hle10.trans (hle11.trans hle12))).append ⟨?_,trivial⟩;show Sl _ _ _ _ _;rw[hil];exact hs12⟩ (by dsimp only; omega)
      ·have hke3:k3=T.length:=oM;subst hke3;refine fS fun g10 hle10 hs10=>?_;obtain ⟨q10,c10,rfl⟩:=Sl.form hs10;refine xI (tX (tX (bX (tN (rG (lM I (lM I (lW (bS sty51 I I I (ab ⟨I,trivial⟩) dC) ?_))))))));rintro _ _ _ ⟨b120,rfl,rfl,rfl⟩;refine lW (aP (e:=aA) (l:=os) 0 ⟨q10,ps.length,c10⟩ sty51 I I I I I oM oM) ?_;rintro v121 _ _ ⟨rfl,rfl⟩;refine lA I (nL (bN (tN (rG (yD I (lM I (nL ?_)))))));exact gA (g10,k2+1,v121,os++[⟨q10,ps.length,c10⟩]) sB I I ⟨hle8.trans (hle9.trans hle10),by dsimp only; omega,by
        dsimp only;rw[ly];exact (hacc.mono fun _ _ h=>h.mono (hle9.trans hle10)).append ⟨⟨ps,hs10,hac2.mono fun _ _=>be.mono hle10⟩,trivial⟩⟩ (by dsimp only; omega)
     ·have hke2:k2=T.length:=oM;subst hke2;have hacc:au (fun (Q:List (List Int)) (r:Sv)=>aH g8 (.slice r.p r.n r.c) Q) (jM (rkP p) T.length B D) os:=hacc;have hPAl:=pF (rf:=rkP p) (n:=T.length) (B:=B) (D:=D);have hPAs:=tC (rf:=rkP p) (n:=T.length) (B:=B) (D:=D);rw[hC];generalize jM (rkP p) T.length B D=PA at *;refine fS fun g9 hle9 hs9=>?_;obtain ⟨q9,c9,rfl⟩:=Sl.form hs9;have hacc:=hacc.mono fun _ _ h=>aH.mono h hle9;refine xI (tX (tX (bX (tN (rZ (aT I (sQ (bK ?_))))))));refine oP (ι:=Nat×Option Addr×Nat) (fun z=>[(16,.slice z.2.1 z.1 z.2.2),(22,.func (.func 54) #[] #[])]) (fun _=>g9) (fun _=>knE b47 (fun a low dim=>fU (rkP p) T.length B a low dim)::s) (fun z=>z.1≤os.length∧SlA aA g9 (.slice z.2.1 z.1 z.2.2) (os.take z.1)∧jz (PA.take z.1)=jz PA) (fun z=>z.1) (os.length,q9,c9) sB I I ⟨lR _,by dsimp only; rw[List.take_length]; exact hs9,by dsimp only; rw[← hol,← hPAl,List.take_length]⟩ ?_;rintro ⟨m,q,c⟩ ⟨hm,hsm,htr⟩;dsimp only at hm hsm htr ⊢;by_cases h1:1<m
      ·have hst:=zC (P:=PA) h1 oM;have hP1:PA[m - 1]'oM∈PA:=gM _;have hP2:PA[m - 2]'oM∈PA:=gM _;have hL1:=hacc.get (gE (i:=m - 1) oM) (gE (i:=m - 1) oM);have hL2:=hacc.get (gE (i:=m - 2) oM) (gE (i:=m - 2) oM);have hg1:(os.take m)[((m:Int) - 1).toNat]?=some (os[m - 1]'oM):=by
        rw[show ((m:Int) - 1).toNat=m - 1 by omega,zh8,zf8 oM];exact gE _
       have hg2:(os.take m)[((m:Int) - 2).toNat]?=some (os[m - 2]'oM):=by
        rw[show ((m:Int) - 2).toNat=m - 2 by omega,zh8,zf8 oM];exact gE _
       generalize PA[m - 1]'oM=Q1 at *;generalize PA[m - 2]'oM=Q2 at *;generalize os[m - 1]'oM=r1 at *;generalize os[m - 2]'oM=r2 at *;obtain ⟨p1,n1,c1⟩:=r1;obtain ⟨p2,n2,c2⟩:=r2;have hbm:=za4 hsm (by rw[ze2]; omega);have hmc:=(SlA.cap hsm).2;rw[ze2,Nat.min_eq_left hm] at hmc;have hcut:=SlA.cut (l:=0) (m:=m - 1) (k:=1) (e:=aA) (xs:=os.take m) (p:=q) (c:=c) (g:=g9) (by rw[ze2,Nat.min_eq_left hm]; exact hsm) (zf4 _) (by rw[ze2]; omega);rw[List.drop_zero,Nat.sub_zero,List.take_take,Nat.min_eq_left oM] at hcut;obtain ⟨q',c',hq'⟩:=za2 hcut;rw[ze2,Nat.min_eq_left oM] at hq';rw[hq'] at hcut;refine sQ (sQ ?_);refine dW [] [(0,2),(1,2),(2,2),(3,2),(4,2),(5,2),(6,2),(7,2),(8,2),(9,2),(10,1),(11,2),(12,2),(13,2),(14,2),(15,2),(16,1),(17,0),(18,2)] ze1 kR ?_;refine yM I (pU I (eN oV I) (pU I (SU.eq (v':=vb true) (gR I I) (zd9 vb (zf6 oM))) (yM I (yJ I (yJ I (yJ I (zb1 I (gT I I I dC) (eN oV I) dC (zb1 I (gT I I I dC) (sU I I oM) dC (zb1 I (gT I I I dC) (iA oV rL I I hbm oM sL) dC (SP.gq I (gT I I I dC) (eB (u:=.slice p1 n1 c1) isAgg22 I (za5 hsm) hg1 I) dC (yJ I (yJ I (zb1 I (gT I I I dC) (eN oV I) dC (zb1 I (gT I I I dC) (sU I I oM) dC (zb1 I (gT I I I dC) (iA oV rL I I hbm oM sL) dC (SP.gq I (gT I I I dC) (eB (u:=.slice p2 n2 c2) isAgg22 I (za5 hsm) hg2 I) dC (SP.go I (gT I I I dC) (SO.callV I I (dn.mk (cap:=[]) call54 (tB E g9 _ (.slice p1 n1 c1) (.slice p2 n2 c2) Q1 Q2 hL1 hL2 (by rw[(hPAs _ hP1).1]; omega) (fun x hx=>by rw[(hPAs _ hP1).2 x hx]; omega) (by rw[(hPAs _ hP2).1]; omega)))) dC (.inr iR) ?_)))))))))))))))));rintro _ _ _ ⟨rfl,rfl,rfl⟩;refine pU I (wT I I) (pN (tN ?_));refine iQ I (fun heq=>?_) (fun heq=>?_)
       ·rw[zf8 (by simpa using heq)] at hst;refine kP (tN (bK (rG (lM I (lM I (lU (eN oV I) (lU (sU I I oM) (lU (SU.eq (v':=.slice q' (m - 1) c') (SU.sliceH oV rL I I oM oM) (by rw[show ((m:Int) - 1).toNat=m - 1 by omega]; exact hq')) ?_))))))));refine lA I (nL (bN ?_));exact gA (m - 1,q',c') sB I I ⟨by dsimp only; omega,hcut,by dsimp only; rw[← hst]; exact htr⟩ (by dsimp only; omega)
       ·rw[zf7 (by simpa using heq)] at hst;refine xI (tX (tX (bX (tN (sW I (lA I (aT I (rE (dR (s':=s) uR ?_)))))))));exact ST.ret2 (.inl I) results18 I I ⟨I,hle1.trans (hle2.trans (hl27.trans (hle8.trans hle9))),_,by rw[he],by rw[← htr,hst]; exact⟨os.take m,hsm,au.take m hacc⟩⟩
      ·have hst:=A8 (P:=PA) h1;refine sQ (sQ ?_);refine dW [] [(0,2),(1,2),(2,2),(3,2),(4,2),(5,2),(6,2),(7,2),(8,2),(9,2),(10,1),(11,2),(12,2),(13,2),(14,2),(15,2),(16,1),(17,0),(18,2)] ze1 kR ?_;refine yM I (pU I (eN oV I) (pU I (SU.eq (v':=vb false) (gR I I) (zd9 vb (zf5 oM))) (yM I (yG I (yG I (yG I (yG I (yG I (yG I (yI I (yG I (yG I (yG I (yG I (yG I (yI I (fO I (gZ I I I dC) dC ⟨by exact zb7 _,(by exact .refl _)⟩ ?_)))))))))))))))));refine pU I (wF I I) (pN (tN (cF I (xI (tX (tX (bX (tN (sW I (lA I (aT I (rE (dR (s':=s) uR ?_)))))))))))));exact ST.ret2 (.inl I) results18 I I ⟨I,hle1.trans (hle2.trans (hl27.trans (hle8.trans hle9))),_,by rw[he],by rw[← htr,hst]; exact⟨os.take m,hsm,au.take m hacc⟩⟩
structure PgOk (l:List Cl)(T:List (List Int))(p:Int):Prop where
 fp:Fp p
 opn:bU l T=0
 few:T.length≤6
 bok:Bok T.length (dz (ae l) T)
 dim:yj l+1=((dimN l:Nat):Int)
 dims:dimN l≤9
 eq:dj l T p=jz (jM (rkP p) T.length (dz (ae l) T) (dimN l))
theorem vv {B:List Cl}(h:tf B=false)(d:Int):(B.filter fun c=>decide (c.dim=d)).length≤200:=by
 cases hd:B.filter (fun c=>decide (c.dim=d)) with
 | nil=>simp
 | cons c q =>
  have hc:c∈B.filter fun c=>decide (c.dim=d):=by rw[hd]; simp
  obtain ⟨h1,h2⟩:=zh2.1 hc;have h2:c.dim=d:=zg1 h2;subst h2;rw[← hd];refine Nat.le_of_not_lt fun h3=>?_;rw[yZ h1 h3] at h;cases h
theorem we {l:List Cl}{T:List (List Int)}{p:Int}(h:ek l T p=0):PgOk l T p:=by
 have hC:dj l T p=jz (jM (rkP p) T.length (dz (ae l) T) (dimN l)):=by unfold dj; rw[zf7 (by rw[h]; simp)]
 unfold ek at h;split at h
 ·cases h
 ·rename_i hpr;split at h
  ·rename_i hop; exact absurd h hop
  ·rename_i hop;have hop:=zg7 hop;split at h
   ·cases h
   ·rename_i hbl;have hbl1:(aU (dz (ae l) T)).2=0:=zg7 fun k=>hbl (.inl k);have hmany:tf (dz (ae l) T)=false:=Bool.eq_false_iff.2 fun k=>hbl (.inr k);obtain ⟨hok,hT6⟩:=cJ hop;have hRt:=gY hok;have hLt:ae l=aa l:=aJ hRt.asc;have hRt:Rt (ae l):=by rw[hLt]; exact hRt
    have hBR:Rt (dz (ae l) T):=by
     have:=gY hbl1;unfold dz at this ⊢;rwa [fI] at this
    have hdim:=zi hok;have hD:yj l+1=((dimN l:Nat):Int):=by unfold dimN yj at *; omega
    exact⟨gF.1 (by simpa using hpr),hop,hT6,⟨hBR,qq hRt hT6,vv hmany⟩,hD,oM,hC⟩
theorem rQ {α:Type}[DecidableEq α]:∀ {l:List α} {x:α},x∈oL l→x∈l
 | [],_,h=>h
 | [_],_,h=>h
 | a::b::l,x,h=>by
  unfold oL at h;split at h
  ·exact List.mem_cons_of_mem _ (rQ h)
  ·exact h
theorem zD {α:Type}[DecidableEq α]{l:List α}{x:α}(h:x∈jz l):x∈l:=by
 unfold jz at h;rw[List.mem_reverse] at h;have:=rQ h;rwa [List.mem_reverse] at this
theorem rR {α:Type}[DecidableEq α]:∀ {l:List α},(oL l).length≤l.length
 | []=>lR _
 | [_]=>lR _
 | a::b::l=>by
  unfold oL;split
  ·exact zk3 rR (Nat.le_succ _)
  ·exact lR _
theorem zF {α:Type}[DecidableEq α]{l:List α}:(jz l).length≤l.length:=by
 unfold jz;rw[List.length_reverse];have:=rR (l:=l.reverse);rwa [List.length_reverse] at this
theorem Dr {p:Int}(hp:Fp p){n:Nat}{B:List Cl}(hB:Bok n B)(r a b:Int):(yf (rkP p) n B r a b).natAbs≤800:=by
 have hbd:=vU hp hB;have b1:=hbd a (a - r) (a+b);have b2:=hbd (a - 1) (a - r) (a+b);have b3:=hbd (a+r - 1) a (a+b+1);have b4:=hbd (a+r - 1) (a - 1) (a+b+1);unfold yf;omega
theorem Bz {l:List Cl}{T:List (List Int)}{p:Int}(h:ek l T p=0):∀ Q∈dj l T p,Q.length=T.length∧∀ x∈Q,x.length=dimN l∧∀ y∈x,y.natAbs≤800:=fun Q hQ=>by
 have ho:=we h;rw[ho.eq] at hQ;obtain ⟨r,-,rfl⟩:=ze9.1 (zD hQ);refine⟨r8,fun x hx=>?_⟩;obtain ⟨a,-,rfl⟩:=ze9.1 hx;refine⟨by rw[ze4,zi2],fun y hy=>?_⟩;obtain ⟨b,-,rfl⟩:=ze9.1 hy;exact Dr ho.fp ho.bok _ _ _
theorem zX {l:List Cl}{T:List (List Int)}{p:Int}:(dj l T p).length≤T.length:=by
 unfold dj;split
 ·exact zf4 _
 ·refine zk3 zF ?_;rw[pF];exact lR _
def tW (P:List (List Int))(d:Nat):Int:=((P.zipIdx.map fun q=>if q.2≤d then q.1.getD (d - q.2) 0 else 0)).sum
theorem fF (D:Nat)(P:List (List Int)):fH D P=(List.range D).map (tW P):=rfl
theorem kQ (P:List (List Int))(x:List Int)(d:Nat):tW (P++[x]) d=tW P d+if P.length≤d then x.getD (d - P.length) 0 else 0:=by
 unfold tW;rw[List.zipIdx_append,zg3,List.sum_append];simp
theorem B8 (P:List (List Int))(d:Nat):tW (P++[[]]) d=tW P d:=by rw[kQ]; simp
theorem pl {m:Nat}:∀ {q:List Int},(∀ y∈q,y.natAbs≤m)→q.sum.natAbs≤q.length * m
 | [],_=>by simp
 | y::q,h=>by
  have h1:=h y (by simp);have h2:=pl (q:=q) fun z hz=>h z (by simp[hz]);rw[List.sum_cons,ze6,Nat.succ_mul];omega
theorem DJ {m:Nat}{P:List (List Int)}(h:∀ x∈P,∀ y∈x,y.natAbs≤m)(d:Nat):(tW P d).natAbs≤P.length * m:=by
 have:=pl (m:=m) (q:=P.zipIdx.map fun q=>if q.2≤d then q.1.getD (d - q.2) 0 else 0) fun y hy=>by
  obtain ⟨q,hq,rfl⟩:=ze9.1 hy;split
  ·rw[zg8];cases hx:q.1[d - q.2]? with
   | none=>simp
   | some y=>exact h q.1 (List.fst_mem_of_mem_zipIdx hq) y (zf9 hx)
  ·simp
 rwa [ze4,List.length_zipIdx] at this
theorem wG (D:Nat)(P:List (List Int))(x:List Int)(j:Nat)(hj:j<x.length):fH D (P++[x.take (j+1)])=(fH D (P++[x.take j])).set (P.length+j) (tW (P++[x.take j]) (P.length+j)+x[j]):=by
 rw[fF,fF];refine List.ext_getElem? fun d=>?_;rw[List.getElem?_set,zh7,zh7,ze4,zi2];by_cases hd:d<D
 ·rw[List.getElem?_range hd];show some _=if P.length+j=d then (if P.length+j<D then some (tW (P++[x.take j]) (P.length+j)+x[j]) else none) else some (tW (P++[x.take j]) d)
  rw[kQ,kQ,kQ];have e1:x.take (j+1)=x.take j++[x[j]]:=tS hj;by_cases e:P.length+j=d
  ·subst e;rw[zf8 rfl,zf8 hd,zf8 oM,zf8 oM,Nat.add_sub_cancel_left,e1];simp[zg8,Nat.le_of_lt hj,zh1,gE hj]
  ·rw[zf7 e];congr 2;by_cases e2:P.length≤d
   ·rw[zf8 e2,zf8 e2,zg8,zg8];congr 1;rw[zh8,zh8];split <;> split <;> first | rfl | omega | skip
   ·rw[zf7 e2,zf7 e2]
 ·rw[List.getElem?_eq_none (by rw[zi2]; omega)];split
  ·rw[zf7 oM]; rfl
  ·rfl
theorem DI {D:Nat}{P:List (List Int)}{x:List Int}{j:Nat}(hj:j<x.length)(h:¬ P.length+j<D):fH D (P++[x.take (j+1)])=fH D (P++[x.take j]):=by
 rw[wG D P x j hj,List.set_eq_of_length_le];rw[fF,ze4,zi2];omega
theorem xW (E:World)(hE:E.drawn=0)(g:PH)(s:Own)(v tv:Value)(l:List Cl)(T:List (List Int))(p:Int)(hv:ao g v l)(hf:cU l)(hw:∀ c∈l,dJ c.id)(ht:aH g tv T)(hT:T.length<1099511627776)(hTl:∀ t∈T,t.length<1099511627776)(hp2:2≤p)(hp9:p<9) :
  Ctr Tryz.prog E 19 #[.agg #[v],tv,vi p] g s (fun x g' s'=>s=s'∧Le g g'∧∃ u,x = .tuple #[u,vi (ek l T p)]∧bZ g' u (jm l T p)):=by
 obtain ⟨vp,vc,rfl⟩:=hv.form;refine za9 (args:=[.agg #[.slice vp l.length vc],tv,vi p]) func19 I ntmps19 (bE I) ?_;refine rZ (bW (bO I) fun b3=>?_);refine lA I (aT I (rZ (lK (qV 0 aY ar I I I) (lM I (lM I (lW (cL call18 I (pE E hE g _ _ tv l T p hv hf hw ht hT hTl hp2 hp9)) ?_))))));rintro _ g1 _ ⟨rfl,hle1,u,rfl,us,hus,hall⟩;obtain ⟨up,uc,rfl⟩:=za2 hus;have hlen:=hall.length;by_cases he:ek l T p=0
 ·refine lM I (yX I (yX I (lA I (aT I (sQ (sW I (lU (SU.eq (v':=vb false) (nQ I I) (zd9 vb (by rw[he]; rfl))) ?_)))))));refine lM I (yC I (lY I I I (eN oV I) (lY I I I (eQ I I) (yF I (tZ ?_)))));refine iP I (fun h0=>?_) (fun h0=>?_)
  ·refine sW I (lA I (aT I (rE (tR ?_))));have hb:jm l T p=[]:=by unfold jm; rw[zf8 oM]
   refine dR (s':=s) uR ?_;exact ST.ret2 (.inl I) results19 I I ⟨I,hle1,_,I,by rw[hb]; exact zb8 _ _⟩
  ·have ho:=we he;have hbd:=Bz he;obtain ⟨hfp,-,hT6,hbok,hD,hD9,-⟩:=ho;have hb:jm l T p=fH (dimN l) ((dj l T p).getLastD []):=by unfold jm; rw[zf7 oM]
   have hpf:=zX (l:=l) (T:=T) (p:=p);have hPl:us.length - 1<(dj l T p).length:=oM;have hQ:(dj l T p)[us.length - 1]?=some ((dj l T p)[us.length - 1]):=gE hPl;have hlast:(dj l T p).getLastD []=(dj l T p)[us.length - 1]:=by
    rw[List.getLastD_eq_getLast?,List.getLast?_eq_getElem?,hlen,hQ];rfl
   have hQm:=gM hPl;have hQR:=hall.get hQ (gE (i:=us.length - 1) oM);have hgu:us[((us.length:Int) - 1).toNat]?=some (us[us.length - 1]'oM):=by
    rw[show ((us.length:Int) - 1).toNat=us.length - 1 by omega];exact gE _
   rw[hlast] at hb;have hb1:=za4 hus oM;generalize (dj l T p)[us.length - 1]=Q at *;generalize us[us.length - 1]'oM=r1 at *;obtain ⟨p1,n1,c1⟩:=r1;obtain ⟨hQl,hQx⟩:=hbd Q hQm;obtain ⟨rs,hrs,hallr⟩:=hQR;dsimp only at hrs;obtain ⟨rfl,-⟩:=SlA.cap hrs;have hrl:=hallr.length;refine kP (tN (rZ (lK (qV 0 aY ar I I I) (lW (cL call52 I (wz E g1 _ (.slice vp l.length vc) l (hv.mono hle1) hf)) ?_))));rintro _ g2 _ ⟨rfl,rfl,hle2⟩;refine lU (SU.eq (v':=vi (dimN l)) (aD I I oM) (zd9 vi hD)) (lW (mK encInt 0 sty25 I I I oM oM) ?_);rintro _ _ _ ⟨bl,rfl,rfl,rfl⟩;refine aT I (sQ (sW I (lM I (lU (eN oV I) (lU (sU I I oM) (lU (iA oV rL I I hb1 oM (show ((us.length:Int) - 1)<((us.length:Nat):Int) by omega)) ?_))))));refine lK (eB (u:=.slice p1 rs.length c1) isAgg22 I (za5 (za3 hus hle2)) hgu I) (lU (eN br I) (lM I (tZ (bK ?_))));generalize dimN l=D at *;have h00:fH D []=List.replicate D 0:=by
    rw[fF,List.eq_replicate_iff];exact⟨by simp,fun b hb=>by obtain ⟨d,_,rfl⟩:=ze9.1 hb; rfl⟩
   rw[← h00];have hrs2:=za3 hrs hle2;refine oP (ι:=Nat) (fun a=>[(10,.slice (some ⟨bl,0,none⟩) D D),(39,.slice p1 rs.length c1),(40,vi rs.length),(41,vi a)]) (fun _=>g2) (fun a=>rowA encInt 3 (.slice (some ⟨bl,0,none⟩) D D) (fH D (Q.take a))::pt b3 (.cells #[.slice vp l.length vc] 31 (0,0))::s) (fun a=>a≤rs.length) (fun a=>rs.length - a) 0 sB I I (zf4 _) ?_;rintro a ha;refine rZ (yL I (tZ (sQ ?_)));refine iP I (fun hlt=>?_) (fun hlt=>?_)
   ·have har:a<rs.length:=oM;have haQ:a<Q.length:=oM;have hgr:rs[((a:Nat):Int).toNat]?=some rs[a]:=gE har;have hR:=hallr.get (gE haQ) (gE har);have hb2:=za4 hrs oM;have hxm:=gM haQ;have htk:Q.take (a+1)=Q.take a++[Q[a]]:=tS haQ;have hQtl:(Q.take a).length=a:=by rw[ze2]; omega
    have hQtm:∀ y∈Q.take a,∀ z∈y,z.natAbs≤800:=fun y hy=>(hQx y (List.mem_of_mem_take hy)).2;generalize Q.take a=Qa at *;generalize Q[a]=x at *;generalize rs[a]=r at *;obtain ⟨p2,n2,c2⟩:=r;have hR:bZ g1 (.slice p2 n2 c2) x:=hR;obtain ⟨rfl,-⟩:=SlA.cap hR;obtain ⟨hxl,hxb⟩:=hQx x hxm;have hR2:=za3 hR hle2;refine kP (tN (sQ (bK (sW I (lU (iA br bP I I hb2 oM sL) (lK (eB (u:=.slice p2 x.length c2) dG I (za5 hrs2) hgr I) (lA I (aT I (sW I (lU (eN ak I) (lM I (tZ (bK ?_)))))))))))));refine oP (ι:=Nat) (fun j=>[(10,.slice (some ⟨bl,0,none⟩) D D),(11,vi a),(39,.slice p1 rs.length c1),(40,vi rs.length),(41,vi a),(46,.slice p2 x.length c2),(47,vi x.length),(48,vi j)]) (fun _=>g2) (fun j=>rowA encInt 3 (.slice (some ⟨bl,0,none⟩) D D) (fH D (Qa++[x.take j]))::pt b3 (.cells #[.slice vp l.length vc] 31 (0,0))::s) (fun j=>j≤x.length) (fun j=>x.length - j) 0 sB I (by rw[show fH D (Qa++[x.take 0])=fH D Qa from zc6 fun d _=>B8 Qa d]) (zf4 _) ?_;rintro j hj;refine rZ (yL I (tZ (sQ ?_)));refine iP I (fun hlt2=>?_) (fun hlt2=>?_)
    ·have hjx:j<x.length:=oM;have hb3:=za4 hR oM;have hgx:x[((j:Nat):Int).toNat]?=some x[j]:=gE hjx;have hst:=wG D Qa x j hjx;have hou:=DI (D:=D) (P:=Qa) hjx;have hyb:=hxb _ (gM hjx);rw[hQtl] at hst hou;refine kP (tN (sQ (bK (sW I (lU (iA ak zT3 I I hb3 oM sL) (lK (eB iT3 I (za5 hR2) hgx I) (lA I (aT I (sW I (lM I (yD I (lM I (lU (eN ak I) (yL I (tZ ?_)))))))))))))));refine iP I (fun hin=>?_) (fun hin=>?_)
     ·have hin':a+j<D:=oM;have hBb:=DJ (P:=Qa++[x.take j]) (m:=800) (fun y hy=>by
       rcases zf1.1 hy with h | h
       ·exact hQtm y h
       ·rw[zh5] at h;subst h;exact fun z hz=>hxb z (List.mem_of_mem_take hz)) (a+j)
      rw[ze3,ze5,hQtl] at hBb;have hBk:(fH D (Qa++[x.take j]))[((a:Int)+j).toNat]?=some (tW (Qa++[x.take j]) (a+j)):=by
       rw[show ((a:Int)+j).toNat=a+j by omega,fF,zh7,List.getElem?_range hin'];rfl
      have hBl:(fH D (Qa++[x.take j])).length=D:=by rw[fF,ze4,zi2]
      generalize tW (Qa++[x.take j]) (a+j)=y0 at *;refine rG (lM I (lM I (lM I (yD I (lU (iA ak zT3 I I I oM sL) (lK (eB iT3 I (zb5 (e:=encInt) 0 I) hBk I) (lM I (yD I (lU (SU.eq (v':=.pointer (some ⟨bl,0+(a+j) * 1,none⟩)) (iA ak zT3 I I I oM sL) (by rw[show ((a:Int)+j).toNat=a+j by omega]; rfl)) ?_)))))))));refine oZ (sT (e:=encInt) (a:=y0+x[j]) (j:=a+j) 0 zT3 I I I (by rw[hBl]; exact hin') I) ?_;rw[← hst];refine nL (bN (tN (rG (yD I (lM I (nL ?_))))));exact gA (j+1) sB I I oM oM
     ·rw[← hou oM];refine kP (bN (tN (rG (yD I (lM I (nL ?_))))));exact gA (j+1) sB I I oM oM
    ·have hje:j=x.length:=oM;subst hje;rw[List.take_length,← htk];refine xI (tX (tX (bX (bN (tN (rG (yD I (lM I (nL ?_)))))))));exact gA (a+1) sB I I oM oM
   ·have hae:a=rs.length:=oM;subst hae;rw[← hrl,List.take_length,← hb];refine xI (tX (tX (bX (tN (sW I (lA I (aT I (rE ?_))))))));have hlb:(jm l T p).length=D:=by rw[hb,fF,ze4,zi2]
    refine fT fun g3 hle3 hs3=>?_;refine dR (s':=s) uR ?_;exact ST.ret2 (.inl I) results19 I I ⟨I,hle1.trans (hle2.trans hle3),_,by rw[he],by unfold bZ SlA; rw[← hlb] at hs3 ⊢; exact hs3⟩
 ·refine lM I (yX I (yX I (lA I (aT I (sQ (sW I (lU (SU.eq (v':=vb true) (nQ I I) (zd9 vb (zf6 he))) (lM I (yA I (yA I (yA I (yP I (tZ (cT I (sW I (lA I (aT I (rE (tR ?_)))))))))))))))))));have hb:jm l T p=[]:=by
   unfold jm;rw[zf8];unfold dj;rw[zf8 he];rfl
  refine dR (s':=s) uR ?_;exact ST.ret2 (.inl I) results19 I I ⟨I,hle1,_,I,by rw[hb]; exact zb8 _ _⟩
set_option maxHeartbeats 1000000
theorem ux (g:PH):ao g (.slice none 0 0) []:=⟨[],zb8 g _,trivial⟩
theorem gt (E:World)(hE:E.drawn=0)(g:PH)(s:Own)(v tv:Value)(l:List Cl)(T:List (List Int))(hv:ao g v l)(hf:cU l)(hw:∀ c∈l,dJ c.id)(ht:aH g tv T)(hT:T.length<1099511627776)(hTl:∀ t∈T,t.length<1099511627776) :
  Ctr Tryz.prog E 11 #[.agg #[v],tv] g s (fun x g' s'=>s=s'∧Le g g'∧x=vi (bU l T)):=by
 obtain ⟨vp,vc,rfl⟩:=hv.form;refine za9 (args:=[.agg #[.slice vp l.length vc],tv]) func11 I ntmps11 (bE I) ?_;refine rZ (bW (bO I) fun b2=>?_);refine aT I (rZ (lK (qV 0 aY ar I I I) (lM I (lW (cL call32 I (kJ E hE g _ _ tv l T hv hf hw ht hT hTl)) ?_))));rintro _ g1 _ ⟨rfl,hle1,pv,rfl,-⟩;refine lM I (yX I (yX I (lA I (aT I (sW I (aT I (rE (dR (s':=s) uR ?_))))))));exact za6 (.inl I) results11 I ⟨I,hle1,I⟩
theorem Tryz.buildN31 (w:World):(Instr.build 31 #[]).run Tryz.prog w = .ok (.agg #[.slice none 0 0]) w:=by
 simp[Instr.build,Instr.fill];rfl
theorem j5 (E:World)(hE:E.drawn=0)(g:PH)(s:Own)(v tv:Value)(l:List Cl)(T:List (List Int))(hv:ao g v l)(hf:cU l)(hw:∀ c∈l,dJ c.id)(ht:aH g tv T)(hT:T.length<1099511627776)(hTl:∀ t∈T,t.length<1099511627776) :
  Ctr Tryz.prog E 12 #[.agg #[v],tv] g s (fun x g' s'=>s=s'∧Le g g'∧∃ u,x = .agg #[u]∧ao g' u (aF l T)):=by
 obtain ⟨vp,vc,rfl⟩:=hv.form;refine za9 (args:=[.agg #[.slice vp l.length vc],tv]) func12 I ntmps12 (bE I) ?_;refine rZ (bW (bO I) fun b2=>?_);refine bW (aL zk8) fun b4=>?_;refine tZ (rZ (lK (qV 1 aY ar I I I) (lM I (lW (cL call32 I (kJ E hE g _ _ tv l T hv hf hw ht hT hTl)) ?_))));rintro _ g1 _ ⟨rfl,hle1,pv,rfl,hcov⟩;refine lM I (yX I (yX I (lA I (aT I (sQ (sW I (lU (nQ I I) (tZ ?_))))))));refine iP I (fun hop=>?_) (fun hop=>?_)
 ·have hb:aF l T=[]:=by unfold aF; rw[zf8 (.inl hop)]
  refine rZ (lU (za1 I buildN31) (oZ (sK 0 ar I I I I I ⟨I,trivial⟩) (tZ (rE (tR ?_)))));exact ST.retCD 0 s (.inl I) results12 I aY ar I I uR ⟨I,hle1,_,I,by rw[hb]; exact ux _⟩
 ·have hop0:bU l T=0:=zg7 hop;have hcov:=hcov hop0;obtain ⟨hok,hT6⟩:=cJ hop0;have hRt:=gY hok;have hLt:ae l=aa l:=aJ hRt.asc;have hRt:Rt (ae l):=by rw[hLt]; exact hRt
  have hBf:=bw (e6 hRt hT6);refine kP (tN (sW I (lW (cL call33 I (ox E g1 _ pv (ae l) T hcov hRt hT6)) ?_)));rintro _ g2 _ ⟨rfl,hle2,u,rfl,hu⟩;obtain ⟨up,uc,rfl⟩:=hu.form;refine bW (aL zk8) fun b7=>?_;refine oZ (sK 0 ar I I I I I ⟨I,trivial⟩) (tZ (sQ (rZ (lK (qV 0 aY ar I I I) (lW (cL call13 I (lF E g2 _ _ (dz (ae l) T) hu hBf)) ?_)))));rintro _ _ _ ⟨rfl,rfl,rfl⟩;refine lM I (yX I (yX I (lA I (aT I (sW I (lU (nQ I I) (tZ ?_)))))));refine iP I (fun hbl=>?_) (fun hbl=>?_)
  ·have hb:aF l T=[]:=by unfold aF; rw[zf8 (.inr hbl)]
   refine rZ (lU (za1 I buildN31) (oZ (sK 1 ar I I I I I ⟨I,trivial⟩) (tZ (rE (tR ?_)))));exact ST.retCD 1 s (.inl I) results12 I aY ar I I uR ⟨I,hle1.trans hle2,_,I,by rw[hb]; exact ux _⟩
  ·have hb:aF l T=dz (ae l) T:=by unfold aF; rw[zf7]; rintro (h | h); exact hop h; exact hbl h
   refine kP (tN (rZ (lK (qV 0 aY ar I I I) (oZ (sK 1 ar I I I I I ⟨I,trivial⟩) (tZ (rE ?_))))));exact ST.retCD 1 s (.inl I) results12 I aY ar I I uR ⟨I,hle1.trans hle2,_,I,by rw[hb]; exact hu⟩
set_option maxHeartbeats 2000000
theorem ru (E:World)(g:PH)(s:Own)(v u:Value)(P Q:List (List Int))(hv:aH g v P)(hu:aH g u Q)(hP:P.length<1099511627776)(hPl:∀ x∈P,x.length<1099511627776)(hQ:Q.length<1099511627776) :
  Ctr Tryz.prog E 57 #[v,u] g s (fun r g' s'=>r=vb (decide (P=Q))∧g=g'∧s=s'):=by
 obtain ⟨rs,hrs,hallr⟩:=hv;obtain ⟨qs,hqs,hallq⟩:=hu;have hlr:=hallr.length;have hlq:=hallq.length;obtain ⟨rp,rc,rfl⟩:=za2 hrs;obtain ⟨qp,qc,rfl⟩:=za2 hqs;refine za9 (args:=[.slice rp rs.length rc,.slice qp qs.length qc]) func57 I ntmps57 (bE I) ?_;refine rZ (aT I (sQ (sW I (lU (eN br I) (lM I (lU (eN br I) (lU (nQ I I) (tZ ?_))))))));refine iP I (fun hne=>?_) (fun hne=>?_)
 ·refine rZ (aT I (rE (tR ?_)));have h0:decide (P=Q)=false:=zf5 fun e=>hne (by rw[← hlr,← hlq,e]);exact za6 (.inl I) results57 I ⟨by rw[h0],I,I⟩
 ·have hlen:rs.length=qs.length:=oM;refine kP (tN (sQ (rZ (aT I (bK ?_)))));refine oP (ι:=Nat) (fun k=>[(0,.slice rp rs.length rc),(1,.slice qp qs.length qc),(5,vi k)]) (fun _=>g) (fun _=>s) (fun k=>k≤rs.length∧P.take k=Q.take k) (fun k=>rs.length - k) 0 sB I I ⟨zf4 _,I⟩ ?_;rintro k ⟨hk,heq⟩;refine sQ (sW I (lM I (lU (eN br I) (yL I (tZ ?_)))));refine iP I (fun hlt=>?_) (fun hlt=>?_)
  ·have hkr:k<rs.length:=oM;have hkq:k<qs.length:=oM;have hkP:k<P.length:=oM;have hkQ:k<Q.length:=oM;have hb1:=za4 hrs oM;have hb2:=za4 hqs oM;have hgr:rs[((k:Nat):Int).toNat]?=some rs[k]:=gE hkr;have hgq:qs[((k:Nat):Int).toNat]?=some qs[k]:=gE hkq;have hR:=hallr.get (gE hkP) (gE hkr);have hQ':=hallq.get (gE hkQ) (gE hkq);have h1:P.take (k+1)=P.take k++[P[k]]:=tS hkP;have h2:Q.take (k+1)=Q.take k++[Q[k]]:=tS hkQ;have hpl:=hPl _ (gM hkP);have hdiff:P[k]≠Q[k]→decide (P=Q)=false:=fun h=>zf5 fun e=>h (by subst e; rfl);generalize P[k]=x at *;generalize Q[k]=y at *;generalize rs[k]=r at *;generalize qs[k]=q at *;obtain ⟨ap,an,ac⟩:=r;obtain ⟨bp,bn,bc⟩:=q;refine kP (tN (sQ (bK (sQ ?_))));refine dW [] [(0,2),(1,2),(2,2),(3,1),(4,2),(5,2),(6,2),(7,1),(8,0),(9,2)] ze1 kR ?_;refine yM I (yM I (pU I (iA br bP I I hb1 oM sL) (pK I (eB (u:=.slice ap an ac) dG I (za5 hrs) hgr I) (yM I (yM I (pU I (iA br bP I I hb2 oM sL) (pK I (eB (u:=.slice bp bn bc) dG I (za5 hqs) hgq I) (SP.o I (cL call21 I (sh E g s (.slice ap an ac) (.slice bp bn bc) x y hR hQ' oM)) dC (.inr iR) ?_))))))));rintro _ _ _ ⟨rfl,rfl,rfl⟩;refine pU I (aS I) (pN (tN (sW I (lU (SU.notP I) (tZ ?_)))));refine iQ I (fun hxy=>?_) (fun hxy=>?_)
   ·have hxy':x≠y:=by simpa using hxy
    refine rZ (aT I (rE (bR (tR (tR (bR (tR ?_)))))));exact za6 (.inl I) results57 I ⟨by rw[hdiff hxy'],I,I⟩
   ·have hxy':x=y:=by simpa using hxy
    refine kP (bN (tN (rG (lM I (yD I (lA I (nL ?_)))))));exact gA (k+1) sB I I ⟨oM,by rw[h1,h2,heq,hxy']⟩ oM
  ·have hkk:k=rs.length:=oM;subst hkk;rw[tL oM,tL oM] at heq;refine xI (tX (tX (bX (tN (rZ (aT I (rE ?_)))))));have h0:decide (P=Q)=true:=zf6 heq;exact za6 (.inl I) results57 I ⟨by rw[h0],I,I⟩
theorem oY (E:World)(g:PH)(s:Own)(v u:Value)(P Q:List (List (List Int)))(hv:Pgs g v P)(hu:Pgs g u Q)(hP:P.length<1099511627776)(hPl:∀ A∈P,A.length<1099511627776∧∀ x∈A,x.length<1099511627776)(hQ:Q.length<1099511627776)(hQl:∀ A∈Q,A.length<1099511627776) :
  Ctr Tryz.prog E 20 #[v,u] g s (fun r g' s'=>r=vb (decide (P=Q))∧g=g'∧s=s'):=by
 obtain ⟨rs,hrs,hallr⟩:=hv;obtain ⟨qs,hqs,hallq⟩:=hu;have hlr:=hallr.length;have hlq:=hallq.length;obtain ⟨rp,rc,rfl⟩:=za2 hrs;obtain ⟨qp,qc,rfl⟩:=za2 hqs;refine za9 (args:=[.slice rp rs.length rc,.slice qp qs.length qc]) func20 I ntmps20 (bE I) ?_;refine rZ (aT I (sQ (sW I (lU (eN oV I) (lM I (lU (eN oV I) (lU (nQ I I) (tZ ?_))))))));refine iP I (fun hne=>?_) (fun hne=>?_)
 ·refine rZ (aT I (rE (tR ?_)));have h0:decide (P=Q)=false:=zf5 fun e=>hne (by rw[← hlr,← hlq,e]);exact za6 (.inl I) results20 I ⟨by rw[h0],I,I⟩
 ·have hlen:rs.length=qs.length:=oM;refine kP (tN (sQ (rZ (aT I (bK ?_)))));refine oP (ι:=Nat) (fun k=>[(0,.slice rp rs.length rc),(1,.slice qp qs.length qc),(5,vi k)]) (fun _=>g) (fun _=>s) (fun k=>k≤rs.length∧P.take k=Q.take k) (fun k=>rs.length - k) 0 sB I I ⟨zf4 _,I⟩ ?_;rintro k ⟨hk,heq⟩;refine sQ (sW I (lM I (lU (eN oV I) (yL I (tZ ?_)))));refine iP I (fun hlt=>?_) (fun hlt=>?_)
  ·have hkr:k<rs.length:=oM;have hkq:k<qs.length:=oM;have hkP:k<P.length:=oM;have hkQ:k<Q.length:=oM;have hb1:=za4 hrs oM;have hb2:=za4 hqs oM;have hgr:rs[((k:Nat):Int).toNat]?=some rs[k]:=gE hkr;have hgq:qs[((k:Nat):Int).toNat]?=some qs[k]:=gE hkq;have hR:=hallr.get (gE hkP) (gE hkr);have hQ':=hallq.get (gE hkQ) (gE hkq);have h1:P.take (k+1)=P.take k++[P[k]]:=tS hkP;have h2:Q.take (k+1)=Q.take k++[Q[k]]:=tS hkQ;have hpl:=hPl _ (gM hkP);have hql:=hQl _ (gM hkQ);have hdiff:P[k]≠Q[k]→decide (P=Q)=false:=fun h=>zf5 fun e=>h (by subst e; rfl);generalize P[k]=x at *;generalize Q[k]=y at *;generalize rs[k]=r at *;generalize qs[k]=q at *;obtain ⟨ap,an,ac⟩:=r;obtain ⟨bp,bn,bc⟩:=q;refine kP (tN (sQ (bK (sQ ?_))));refine dW [] [(0,2),(1,2),(2,2),(3,1),(4,2),(5,2),(6,2),(7,1),(8,0),(9,2)] ze1 kR ?_;refine yM I (yM I (pU I (iA oV rL I I hb1 oM sL) (pK I (eB (u:=.slice ap an ac) isAgg22 I (za5 hrs) hgr I) (yM I (yM I (pU I (iA oV rL I I hb2 oM sL) (pK I (eB (u:=.slice bp bn bc) isAgg22 I (za5 hqs) hgq I) (SP.o I (cL call57 I (ru E g s (.slice ap an ac) (.slice bp bn bc) x y hR hQ' hpl.1 hpl.2 hql)) dC (.inr iR) ?_))))))));rintro _ _ _ ⟨rfl,rfl,rfl⟩;refine pU I (aS I) (pN (tN (sW I (lU (SU.notP I) (tZ ?_)))));refine iQ I (fun hxy=>?_) (fun hxy=>?_)
   ·have hxy':x≠y:=by simpa using hxy
    refine rZ (aT I (rE (bR (tR (tR (bR (tR ?_)))))));exact za6 (.inl I) results20 I ⟨by rw[hdiff hxy'],I,I⟩
   ·have hxy':x=y:=by simpa using hxy
    refine kP (bN (tN (rG (lM I (yD I (lA I (nL ?_)))))));exact gA (k+1) sB I I ⟨oM,by rw[h1,h2,heq,hxy']⟩ oM
  ·have hkk:k=rs.length:=oM;subst hkk;rw[tL oM,tL oM] at heq;refine xI (tX (tX (bX (tN (rZ (aT I (rE ?_)))))));have h0:decide (P=Q)=true:=zf6 heq;exact za6 (.inl I) results20 I ⟨by rw[h0],I,I⟩
def o7:List Cl:=[⟨1,0,[]⟩,⟨2,0,[]⟩,⟨3,0,[]⟩,⟨4,1,[⟨1,-1⟩,⟨2,1⟩]⟩,⟨5,1,[⟨1,-1⟩,⟨3,1⟩]⟩,⟨6,1,[⟨2,-1⟩,⟨3,1⟩]⟩]
theorem Da:cg [1,2]=[1,2]:=by
 unfold cg;rw[i7 dC];rfl
theorem Db:cg [0,2]=[0,2]:=by
 unfold cg;rw[i7 dC];rfl
theorem Bh:bT [[0,1],[1,2],[0,2]]=o7:=by
 simp only[bT,aM,Dc,Da,Db];rfl
theorem mX:cU o7:=BS dC dC
theorem qn:∀ c∈o7,dJ c.id:=by unfold dJ; decide
theorem B5:bU o7 [[4,6],[5]]=0:=by kernel_rfl
theorem DF:bU o7 [[4],[5]]=45:=by kernel_rfl
theorem AB:(aU (dz (ae o7) [[4,6],[5]])).2=0:=by kernel_rfl
theorem AC:(aF o7 [[4,6],[5]]).length=10:=by
 unfold aF;rw[zf7 (by rintro (h | h); exact h B5; exact h AB)]
 kernel_rfl
theorem lE:ek o7 [[4,6],[5]] 2=0:=by kernel_rfl
theorem Df:rkP 2=fun C R=>rkF C R rO:=funext fun C=>funext fun R=>Ee C R rO
theorem sG:dj o7 [[4,6],[5]] 2=[[[2,0],[2,0]],[[1,0],[1,0]]]:=by
 unfold dj;rw[zf7 (by rw[lE]; simp),Df]
 kernel_rfl
theorem AD:jm o7 [[4,6],[5]] 2=[1,1]:=by
 unfold jm;rw[sG]
 kernel_rfl
theorem vz (E:World)(g:PH)(s:Own):Ctr Tryz.prog E 17 #[] g s (fun r g' s'=>s=s'∧Le g g'∧∃ u,r = .agg #[u]∧ao g' u o7):=by
 refine za9 (args:=[]) func17 I ntmps17 (bE I) ?_;refine rZ (bW (aL zk8) fun b0=>?_);refine tZ (rZ (lW (bS sty25 I I I (ab sB) dC) ?_));rintro _ _ _ ⟨b1,rfl,rfl,rfl⟩;refine zb3 fun g1 hle1 hb1=>?_;refine lW (bS sty25 I I I (ab sB) dC) ?_;rintro _ _ _ ⟨b2,rfl,rfl,rfl⟩;refine zb3 fun g2 hle2 hb2=>?_;refine lW (bS sty25 I I I (ab sB) dC) ?_;rintro _ _ _ ⟨b3,rfl,rfl,rfl⟩;refine zb3 fun g3 hle3 hb3=>?_;refine lW (bS sty22 I I I (ab sB) dC) ?_;rintro _ _ _ ⟨b4,rfl,rfl,rfl⟩;refine zb3 fun g4 hle4 hb4=>?_;have hlit:aH g4 (.slice (some ⟨b4,0,none⟩) 3 3) [[0,1],[1,2],[0,2]]:=⟨[eL (.slice (some ⟨b1,0,none⟩) 2 2),eL (.slice (some ⟨b2,0,none⟩) 2 2),eL (.slice (some ⟨b3,0,none⟩) 2 2)],SlA.lit hb4 rfl rfl,⟨SlA.lit ((hle2.trans (hle3.trans hle4)) _ _ hb1) rfl rfl,SlA.lit ((hle3.trans hle4) _ _ hb2) rfl rfl,SlA.lit (hle4 _ _ hb3) rfl rfl,trivial⟩⟩;refine lW (cL call50 I (oH E g4 _ _ _ hlit dC dC)) ?_;rintro _ g5 _ ⟨rfl,hle5,u,rfl,hu⟩;rw[Bh] at hu;obtain ⟨q,d,rfl⟩:=hu.form;refine oZ (sK 0 ar I I I I I sB) ?_;refine tZ (rE ?_);exact ST.retCD 0 s (.inl I) results17 I aY ar I I uR ⟨I,hle1.trans (hle2.trans (hle3.trans (hle4.trans hle5))),_,I,hu⟩
theorem rq (E:World)(hE:E.drawn=0)(g:PH)(s:Own):Ctr Tryz.prog E 5 #[] g s (fun r g' s'=>r=vb true∧s=s'∧Le g g'):=by
 refine za9 (args:=[]) func5 I ntmps5 (bE I) ?_;refine rZ (aT I (rZ (lW (cL call17 I (vz E g s)) ?_)));rintro _ g1 _ ⟨rfl,hle1,u,rfl,hu⟩;obtain ⟨q,d,rfl⟩:=hu.form;refine bW (aL zk8) fun b1=>?_;refine oZ (sK 0 ar I I I I I ⟨I,trivial⟩) (tZ (rZ (lW (bS sty25 I I I (ab sB) dC) ?_)));rintro _ _ _ ⟨b10,rfl,rfl,rfl⟩;refine zb3 fun g2 hle2 hb10=>?_;refine lW (bS sty25 I I I (ab ⟨I,trivial⟩) dC) ?_;rintro _ _ _ ⟨b11,rfl,rfl,rfl⟩;refine zb3 fun g3 hle3 hb11=>?_;refine lW (bS sty22 I I I (ab sB) dC) ?_;rintro _ _ _ ⟨b12,rfl,rfl,rfl⟩;refine zb3 fun g4 hle4 hb12=>?_;have hT:aH g4 (.slice (some ⟨b12,0,none⟩) 2 2) [[4,6],[5]]:=⟨[eL (.slice (some ⟨b10,0,none⟩) 2 2),eL (.slice (some ⟨b11,0,none⟩) 1 1)],SlA.lit hb12 rfl rfl,⟨SlA.lit ((hle3.trans hle4) _ _ hb10) rfl rfl,SlA.lit (hle4 _ _ hb11) rfl rfl,trivial⟩⟩;have hu4:=hu.mono (hle2.trans (hle3.trans hle4));refine aT I (rZ (lK (qV 0 aY ar I I I) (lM I (lW (cL call12 I (j5 E hE g4 _ _ _ o7 [[4,6],[5]] hu4 mX qn hT dC dC)) ?_))));rintro _ g5 _ ⟨rfl,hle5,u5,rfl,hu5⟩;obtain ⟨q5,d5,rfl⟩:=hu5.form;rw[AC];have hu5':=hu4.mono hle5;have hT5:=hT.mono hle5;refine bW (aL zk8) fun b3=>?_;refine oZ (sK 0 ar I I I I I ⟨I,trivial⟩) (tZ (rZ (lK (qV 1 aY ar I I I) (lM I (lW (cL call18 I (pE E hE g5 _ _ _ o7 [[4,6],[5]] 2 hu5' mX qn hT5 dC dC dC dC)) ?_)))));rintro _ g6 _ ⟨rfl,hle6,u6,rfl,hP⟩;rw[lE];rw[sG] at hP;have hu6:=hu5'.mono hle6;have hT6:=hT5.mono hle6;refine lM I (yX I (yX I (lA I (aT I (rZ (lK (qV 1 aY ar I I I) (lM I (lW (cL call19 I (xW E hE g6 _ _ _ o7 [[4,6],[5]] 2 hu6 mX qn hT6 dC dC dC dC)) ?_))))))));rintro _ g7 _ ⟨rfl,hle7,u7,rfl,hB⟩;rw[lE];rw[AD] at hB;have hu7:=hu6.mono hle7;have hP7:=hP.mono hle7;refine lM I (yX I (yX I (lA I (aT I (rZ (lW (bS sty25 I I I (ab sB) dC) ?_))))));rintro _ _ _ ⟨b28,rfl,rfl,rfl⟩;refine zb3 fun g8 hle8 hb28=>?_;refine lW (bS sty25 I I I (ab sB) dC) ?_;rintro _ _ _ ⟨b29,rfl,rfl,rfl⟩;refine zb3 fun g9 hle9 hb29=>?_;refine lW (bS sty22 I I I (ab sB) dC) ?_;rintro _ _ _ ⟨b30,rfl,rfl,rfl⟩;refine zb3 fun g10 hle10 hb30=>?_;have h30:aH g10 (.slice (some ⟨b30,0,none⟩) 2 2) [[2,0],[2,0]]:=⟨[eL (.slice (some ⟨b28,0,none⟩) 2 2),eL (.slice (some ⟨b29,0,none⟩) 2 2)],SlA.lit hb30 rfl rfl,⟨SlA.lit ((hle9.trans hle10) _ _ hb28) rfl rfl,SlA.lit (hle10 _ _ hb29) rfl rfl,trivial⟩⟩;refine lW (bS sty25 I I I (ab sB) dC) ?_;rintro _ _ _ ⟨b31,rfl,rfl,rfl⟩;refine zb3 fun g11 hle11 hb31=>?_;refine lW (bS sty25 I I I (ab sB) dC) ?_;rintro _ _ _ ⟨b32,rfl,rfl,rfl⟩;refine zb3 fun g12 hle12 hb32=>?_;refine lW (bS sty22 I I I (ab sB) dC) ?_;rintro _ _ _ ⟨b33,rfl,rfl,rfl⟩;refine zb3 fun g13 hle13 hb33=>?_;have h33:aH g13 (.slice (some ⟨b33,0,none⟩) 2 2) [[1,0],[1,0]]:=⟨[eL (.slice (some ⟨b31,0,none⟩) 2 2),eL (.slice (some ⟨b32,0,none⟩) 2 2)],SlA.lit hb33 rfl rfl,⟨SlA.lit ((hle12.trans hle13) _ _ hb31) rfl rfl,SlA.lit (hle13 _ _ hb32) rfl rfl,trivial⟩⟩;refine lW (bS sty51 I I I (ab sB) dC) ?_;rintro _ _ _ ⟨b34,rfl,rfl,rfl⟩;refine zb3 fun g14 hle14 hb34=>?_;have hW:Pgs g14 (.slice (some ⟨b34,0,none⟩) 2 2) [[[2,0],[2,0]],[[1,0],[1,0]]]:=⟨[eL (.slice (some ⟨b30,0,none⟩) 2 2),eL (.slice (some ⟨b33,0,none⟩) 2 2)],SlA.lit hb34 rfl rfl,⟨h30.mono (hle11.trans (hle12.trans (hle13.trans hle14))),h33.mono hle14,trivial⟩⟩;have hl14:=hle8.trans (hle9.trans (hle10.trans (hle11.trans (hle12.trans (hle13.trans hle14)))));have hP14:=hP7.mono hl14;have hB14:=za3 hB hl14;have hu14:=hu7.mono hl14;refine aT I (rZ (lU (fA cH I bG I) (lK (qL (v:=.slice q5 10 d5) dg I (cO 0 I I)) (lU (eN az I) (yE I (lM I (yC I (lY I I I (eQ I I) (yP I (lM I (yC I (yC I (SL.go (gT I I I dC) (cL call20 I (oY E g14 _ _ _ _ _ hP14 hW dC dC dC dC)) dC ?_)))))))))))));rintro _ _ _ ⟨rfl,rfl,rfl⟩;rw[show decide (([[[2,0],[2,0]],[[1,0],[1,0]]]:List (List (List Int)))=[[[2,0],[2,0]],[[1,0],[1,0]]])=true from zf6 rfl];refine yP I (lM I (yC I (lY I I I (eQ I I) (yP I (lM I (yC I (SL.go (gT I I I dC) (bS sty25 I I I (ab sB) dC) dC ?_)))))));rintro _ _ _ ⟨b54,rfl,rfl,rfl⟩;refine zb3 fun g15 hle15 hb54=>?_;have hW54:bZ g15 (.slice (some ⟨b54,0,none⟩) 2 2) [1,1]:=SlA.lit hb54 rfl rfl;have hB15:=za3 hB14 hle15;refine SL.go (gT I I I dC) (cL call21 I (sh E g15 _ _ _ _ _ hB15 hW54 dC)) dC ?_;rintro _ _ _ ⟨rfl,rfl,rfl⟩;rw[show decide (([1,1]:List Int)=[1,1])=true from zf6 rfl];refine yP I (lM I (SL.gq (gT I I I dC) (qV 1 aY ar I I I) dC (SL.go (gT I I I dC) (bS sty25 I I I (ab ⟨I,trivial⟩) dC) dC ?_)));rintro _ _ _ ⟨b59,rfl,rfl,rfl⟩;refine zb3 fun g16 hle16 hb59=>?_;refine SL.go (gT I I I dC) (bS sty25 I I I (ab ⟨I,trivial⟩) dC) dC ?_;rintro _ _ _ ⟨b60,rfl,rfl,rfl⟩;refine zb3 fun g17 hle17 hb60=>?_;refine SL.go (gT I I I dC) (bS sty22 I I I (ab sB) dC) dC ?_;rintro _ _ _ ⟨b61,rfl,rfl,rfl⟩;refine zb3 fun g18 hle18 hb61=>?_;have hT2:aH g18 (.slice (some ⟨b61,0,none⟩) 2 2) [[4],[5]]:=⟨[eL (.slice (some ⟨b59,0,none⟩) 1 1),eL (.slice (some ⟨b60,0,none⟩) 1 1)],SlA.lit hb61 rfl rfl,⟨SlA.lit ((hle17.trans hle18) _ _ hb59) rfl rfl,SlA.lit (hle18 _ _ hb60) rfl rfl,trivial⟩⟩;have hu18:=hu14.mono (hle15.trans (hle16.trans (hle17.trans hle18)));refine SL.go (gT I I I dC) (cL call11 I (gt E hE g18 _ _ _ o7 [[4],[5]] hu18 mX qn hT2 dC dC)) dC ?_;rintro _ g19 _ ⟨rfl,hle19,rfl⟩;rw[DF];refine lY I I I (eQ I I) (yP I (aT I (rE (dR (s':=s) uR ?_))));exact za6 (.inl I) results5 I ⟨I,I,hle1.trans (hle2.trans (hle3.trans (hle4.trans (hle5.trans (hle6.trans (hle7.trans (hl14.trans (hle15.trans (hle16.trans (hle17.trans (hle18.trans hle19)))))))))))⟩
def AW (y:Int):Int:=if aI y 2=0 then 4 else 5
theorem vN (y:Int):([4,5]:List Int)[(aI y 2).toNat]?=some (AW y):=by
 have:=aB y 2 dC dC;unfold AW
 rcases (by omega:aI y 2=0∨aI y 2=1) with e | e
 ·rw[e]; rfl
 ·rw[e]; rfl
def fk (kd:Int)(ls:List (List Int))(y:Int):List Cl:=if (jA kd ls y).length>20 then jA (AW y) [] (aI y 8) else jA kd ls y
def iD (kd:Int)(ls:List (List Int))(y:Int):List Cl:=if (fk kd ls y).length>20 then bT [[0,1,2],[1,2,3],[0,3]] else fk kd ls y
theorem Tryz.buildK24 (a b:Int)(w:World):(Instr.build 24 #[(0,vi a),(2,vi b)]).run Tryz.prog w = .ok (.agg #[vi a,.slice none 0 0,vi b]) w:=by
 have h1:∀ n,(vi n).cells = #[vi n]:=fun _=>rfl;simp[Instr.build,Instr.fill,h1];rfl
theorem wZ (E:World)(g:PH)(s:Own)(v:Value)(kd y:Int)(ls:List (List Int))(hv:aH g v ls) :
  Ctr Tryz.prog E 6 #[.agg #[vi kd,v,vi y]] g s (fun r g' s'=>s=s'∧Le g g'∧∃ u,r = .agg #[u]∧ao g' u (iD kd ls y)):=by
 obtain ⟨p,n,c,rfl⟩:∃ p n c,v = .slice p n c:=by
  obtain ⟨rs0,hrs0,_⟩:=hv;obtain ⟨p,c,rfl⟩:=za2 hrs0;exact⟨_,_,_,I⟩
 have hy:=aB y 2 dC dC;have hf1:=(lB kd ls y).1;have hf2:=(lB (AW y) [] (aI y 8)).1;refine za9 (args:=[.agg #[vi kd,.slice p n c,vi y]]) func6 I ntmps6 (bE I) ?_;refine rZ (bW (bO I) fun b1=>?_);refine bW (aL zk8) fun b2=>?_;refine tZ (rZ (lK (qV 1 isAgg24 sizeOf24 I I I) (lW (cL call22 I (se E g _ _ kd y ls hv)) ?_)));rintro _ g1 _ ⟨rfl,hle1,u1,rfl,hu1⟩;obtain ⟨q1,d1,rfl⟩:=hu1.form;refine bW (aL zk8) fun b3=>?_;refine oZ (sK 0 ar I I I I I ⟨I,trivial⟩) (tZ ?_);refine SC.cut (ι:=PH×Option Addr×Nat) (fun i=>[(2,pp b2 0),(3,pp b3 0)]) (fun i=>i.1) (fun i=>pt b3 (.cells #[.slice i.2.1 (fk kd ls y).length i.2.2] 31 (0,0))::pt b2 (.cells #[.slice none 0 0] 31 (0,0))::pt b1 (.cells #[vi kd,.slice p n c,vi y] 24 (0,0))::s) (fun i=>Le g1 i.1∧ao i.1 (.slice i.2.1 (fk kd ls y).length i.2.2) (fk kd ls y)) ?_ ?_
 ·refine rZ (lU (fA cH I bG I) (lK (qL (v:=.slice q1 (jA kd ls y).length d1) dg I (cO 0 I I)) (lU (eN az I) (lU (gR I I) (tZ ?_)))));refine iP I (fun h20=>?_) (fun h20=>?_)
  ·have hs2:fk kd ls y=jA (AW y) [] (aI y 8):=by unfold fk; rw[zf8 oM]
   rw[hs2];refine SC.drawX [11] ze1 kR ?_;refine SX.u (i:=1) I kR (fA j9 I zT3 I) dC (SX.q (i:=2) I kR (qL (v:=vi y) iT3 I (cO 2 I I)) dC (SX.u (i:=6) I kR (fA j9 I zT3 I) dC (SX.q (i:=7) I kR (qL (v:=vi y) iT3 I (cO 2 I I)) dC ?_)))
   repeat' (first
    | (refine SB.o (i:=0) I (bS sty25 I I I (ab sB) dC) dC (.inr iR) ?_; rintro _ _ _ ⟨b10,rfl,rfl,rfl⟩; refine SX.freeze fun g2 hle2 hb10=>?_; have h10:SlA encInt g2 (.slice (some ⟨b10,0,none⟩) 2 2) [4,5]:=SlA.lit hb10 rfl rfl; refine SX.u (i:=4) I kD (iA ak zT3 I I I oM (show aI y 2<((2:Nat):Int) by omega)) dC ?_)
    | (refine SB.o (i:=0) I (bS sty25 I I I (ab sB) dC) dC (.inr iR) ?_; rintro _ _ _ ⟨b10,rfl,rfl,rfl⟩; refine SX.freeze fun g2 hle2 hb10=>?_; have h10:SlA encInt g2 (.slice (some ⟨b10,0,none⟩) 2 2) [4,5]:=SlA.lit hb10 rfl rfl)
    | (refine SB.o (i:=3) I (cL dD I (ah E _ _ y 2 dC)) dC (.inr iR) ?_; rintro _ _ _ ⟨rfl,rfl,rfl⟩; refine SX.u (i:=4) I kD (iA ak zT3 I I I oM (show aI y 2<((2:Nat):Int) by omega)) dC ?_)
    | (refine SB.o (i:=3) I (cL dD I (ah E _ _ y 2 dC)) dC (.inr iR) ?_; rintro _ _ _ ⟨rfl,rfl,rfl⟩)
    | (refine SB.o (i:=5) I (SQ.sof (eB iT3 I (za5 h10) (vN y) I)) dC (.inr iR) ?_; rintro _ _ _ ⟨rfl,rfl,rfl⟩; refine SX.u (i:=9) I kD (za1 I (buildK24 _ _)) dC ?_)
    | (refine SB.o (i:=5) I (SQ.sof (eB iT3 I (za5 h10) (vN y) I)) dC (.inr iR) ?_; rintro _ _ _ ⟨rfl,rfl,rfl⟩)
    | (refine SB.o (i:=8) I (cL dD I (ah E _ _ y 8 dC)) dC (.inr iR) ?_; rintro _ _ _ ⟨rfl,rfl,rfl⟩; refine SX.u (i:=9) I kD (za1 I (buildK24 _ _)) dC ?_)
    | (refine SB.o (i:=8) I (cL dD I (ah E _ _ y 8 dC)) dC (.inr iR) ?_; rintro _ _ _ ⟨rfl,rfl,rfl⟩)
    | (refine SB.o (i:=8) I (cL dD I (ah E _ _ y 8 dC)) dC (.inr iR) ?_; rintro _ _ _ ⟨rfl,rfl,rfl⟩)
    | (refine SB.o (i:=10) rfl (cL call22 rfl (se E g2 _ _ (AW y) (aI y 8) [] ⟨[],zb8 _ _,trivial⟩)) dC (.inr (by rintro _ g3 _ ⟨rfl,hle3,u3,rfl,hu3⟩; exact⟨by exact Le.trans (by assumption) (by assumption),(by exact .refl _)⟩)) ?_; rintro _ g3 _ ⟨rfl,hle3,u3,rfl,hu3⟩; obtain ⟨q3,d3,rfl⟩:=hu3.form)
    | (refine SB.on (i:=11) I (sK 0 ar I I I I I ⟨I,trivial⟩) (.inl dC) ?_; rintro _ _ _ ⟨rfl,rfl⟩)
    | refine zd5 0 3 kD ?_ ?_
    | refine zd4 3 kD ?_
    | refine zd5 5 8 kD ?_ ?_
    | refine zd4 8 kD ?_
    | refine zd4 10 kD ?_
    | refine zd4 11 kD ?_
    | refine zd4 5 kD ?_
    | refine zd5 0 8 kD ?_ ?_
    | refine zd4 0 kD ?_
    | (refine SX.nil kD ?_; exact za7 (g3,q3,d3) sB I I ⟨hle2.trans hle3,hu3⟩))
  ·have hs2:fk kd ls y=jA kd ls y:=by unfold fk; rw[zf7 oM]
   rw[hs2];refine kP ?_;exact za7 (g1,q1,d1) sB I I ⟨zb7 _,hu1⟩
 rintro ⟨g3,q3,d3⟩ ⟨hle3,hu3⟩;dsimp only at hle3 hu3 ⊢;have hf2:(fk kd ls y).length<1099511627776:=by
  have h2:=(lB (AW y) [] (aI y 8)).1;unfold fk;split <;> omega
 refine sQ (rZ (lU (fA cH I bG I) (lK (qL (v:=.slice q3 (fk kd ls y).length d3) dg I (cO 0 I I)) (lU (eN az I) (lU (gR I I) (tZ ?_))))));refine iP I (fun h21=>?_) (fun h21=>?_)
 ·have hs:iD kd ls y=bT [[0,1,2],[1,2,3],[0,3]]:=by unfold iD; rw[zf8 oM]
  refine rG (lW (bS sty25 I I I (ab sB) dC) ?_);rintro _ _ _ ⟨b25,rfl,rfl,rfl⟩;refine zb3 fun g4 hle4 hb25=>?_;refine lW (bS sty25 I I I (ab sB) dC) ?_;rintro _ _ _ ⟨b26,rfl,rfl,rfl⟩;refine zb3 fun g5 hle5 hb26=>?_;refine lW (bS sty25 I I I (ab sB) dC) ?_;rintro _ _ _ ⟨b27,rfl,rfl,rfl⟩;refine zb3 fun g6 hle6 hb27=>?_;refine lW (bS sty22 I I I (ab sB) dC) ?_;rintro _ _ _ ⟨b28,rfl,rfl,rfl⟩;refine zb3 fun g7 hle7 hb28=>?_;have hlit:aH g7 (.slice (some ⟨b28,0,none⟩) 3 3) [[0,1,2],[1,2,3],[0,3]]:=⟨[eL (.slice (some ⟨b25,0,none⟩) 3 3),eL (.slice (some ⟨b26,0,none⟩) 3 3),eL (.slice (some ⟨b27,0,none⟩) 2 2)],SlA.lit hb28 rfl rfl,⟨SlA.lit ((hle5.trans (hle6.trans hle7)) _ _ hb25) rfl rfl,SlA.lit ((hle6.trans hle7) _ _ hb26) rfl rfl,SlA.lit (hle7 _ _ hb27) rfl rfl,trivial⟩⟩;refine lW (cL call24 I (aO E g7 _ _ _ hlit dC dC)) ?_;rintro _ g8 _ ⟨rfl,hle8,u8,rfl,hu8⟩;obtain ⟨q8,d8,rfl⟩:=hu8.form;refine oZ (sK 0 ar I I I I I ⟨I,trivial⟩) (tZ (rZ (lK (qV 0 aY ar I I I) (oZ (sK 1 ar I I I I I ⟨I,trivial⟩) (tZ (rE ?_))))));exact ST.retCD 1 s (.inl I) results6 I aY ar I I uR ⟨I,hle1.trans (hle3.trans (hle4.trans (hle5.trans (hle6.trans (hle7.trans hle8))))),_,I,by rw[hs]; exact hu8⟩
 ·have hs:iD kd ls y=fk kd ls y:=by unfold iD; rw[zf7 oM]
  refine kP (tN (rZ (lK (qV 0 aY ar I I I) (oZ (sK 1 ar I I I I I ⟨I,trivial⟩) (tZ (rE ?_))))));exact ST.retCD 1 s (.inl I) results6 I aY ar I I uR ⟨I,hle1.trans hle3,_,I,by rw[hs]; exact hu3⟩
structure Sml (l:List Cl):Prop where
 rt:Rt l
 few:l.length≤20
 ids:∀ c∈l,dJ c.id
theorem DY:bT [[0,1,2],[1,2,3],[0,3]]=[⟨1,0,[]⟩,⟨2,0,[]⟩,⟨3,0,[]⟩,⟨4,0,[]⟩,⟨5,1,[⟨1,-1⟩,⟨2,1⟩]⟩,⟨6,1,[⟨1,-1⟩,⟨3,1⟩]⟩,⟨7,1,[⟨1,-1⟩,⟨4,1⟩]⟩,⟨8,1,[⟨2,-1⟩,⟨3,1⟩]⟩,⟨9,1,[⟨2,-1⟩,⟨4,1⟩]⟩,⟨10,1,[⟨3,-1⟩,⟨4,1⟩]⟩,⟨11,2,[⟨5,1⟩,⟨6,-1⟩,⟨8,1⟩]⟩,⟨12,2,[⟨8,1⟩,⟨9,-1⟩,⟨10,1⟩]⟩]:=by
 have h123:cg [1,2,3]=[1,2,3]:=by
  unfold cg;rw[i7 dC];rfl
 have h03:cg [0,3]=[0,3]:=by
  unfold cg;rw[i7 dC];rfl
 simp only[bT,aM,Bl,h123,h03];rfl
theorem zL (kd:Int)(ls:List (List Int))(y:Int):Sml (iD kd ls y):=by
 have key:∀ k m z,(jA k m z).length≤20→Sml (jA k m z):=fun k m z h=>⟨pJ k m z,h,BG k m z⟩;unfold iD;split
 ·have hr:=n5 [[0,1,2],[1,2,3],[0,3]];rw[DY] at hr ⊢;have h0:=gY (zd9 Prod.snd hr);rw[show aa _=_ from by kernel_rfl] at h0;exact⟨h0,by decide,by unfold dJ; decide⟩
 ·rename_i h;unfold fk at h ⊢;split
  ·rename_i h1;rw[zf8 h1] at h;exact key _ _ _ oM
  ·rename_i h1;exact key _ _ _ oM
open Go.ChangeShapes Go.WideShapes Go.ChangeAt Go.RowKit
set_option maxRecDepth 100000
section
variable {H:Type}{enc:TypeId×Value→H}{W:World}{base:Nat}{spare:Nat→Bool}{hd:Bool}
theorem BK {v:Value}{d:DataW H}{p:List MemPlace}(h:DataW.Trod enc Tryz.prog W base spare hd 25 v d p)(hv:v.cells = #[v]):∃ l:List Int,bZ (vK W) v l:=by
 obtain ⟨fuel,hf⟩:=h;rw[hv] at hf;obtain ⟨l,r,-,hl⟩:=y5 hf;exact⟨l,hl⟩
end
abbrev Rws:=List (Sv×List Int)
def ce (ts:Rws):Own:=ts.map fun t=>rowA encInt 3 (.slice t.1.p t.1.n t.1.c) t.2
theorem lx {ts:Rws}{j:Nat}{v:Sv}{l:List Int}(h:ts[j]?=some (v,l))(s:Own):(ce ts++s)[j]?=some (rowA encInt 3 (.slice v.p v.n v.c) l):=by
 have hj:=(zf3.1 h).1;rw[zg9 (by simpa [ce] using hj)];simp[ce,h]
theorem lr {ts:Rws}{j:Nat}{v v':Sv}{l l':List Int}(h:ts[j]?=some (v,l))(s:Own):(ce ts++s).set j (rowA encInt 3 (.slice v'.p v'.n v'.c) l')=ce (ts.set j (v',l'))++s:=by
 have hj:=(zf3.1 h).1;rw[List.set_append_left _ _ (by simpa [ce] using hj)];simp[ce,List.map_set]
theorem pn {E:World}{g:PH}{w:World}(hd:Own):∀ (n:Nat) (s:Own),At E g (hd++s) w→At E g (hd++(ce (List.replicate n (⟨none,0,0⟩,[]))++s)) w
 | 0,s,h=>h
 | n+1,s,h=>by
  have h1:=(pn hd n s h).nilRow 3 1;rw[List.replicate_succ];exact h1.perm List.perm_middle.symm
theorem freezeTs {E:World}{w:World}:∀ (ts:Rws) (g:PH) (s:Own),At E g (ce ts++s) w→∃ g',Le g g'∧At E g' s w∧au (be g') (ts.map Prod.snd) (ts.map Prod.fst)
 | [],g,s,h=>⟨g,zb7 g,h,trivial⟩
 | (v,l)::r,g,s,h=>by
  have h':At E g (row 3 1 (.slice v.p v.n v.c) l.length (l.flatMap encInt.enc)::(ce r++s)) w:=h;obtain ⟨g1,hl1,h1,h2⟩:=h'.freezeRow;obtain ⟨g2,hl2,h3,h4⟩:=freezeTs r g1 s h1;exact⟨g2,hl1.trans hl2,h3,Sl.mono h2 hl2,h4⟩
theorem SC.freezeTs {P:Program}{N:Nat}{E:World}{c:Code}{Q:Exit→Act→World→Prop}{f:Fr}{g:PH}{s:Own}{ts:Rws}(h:∀ g',Le g g'→au (be g') (ts.map Prod.snd) (ts.map Prod.fst)→SC P N E c Q f g' s):SC P N E c Q f g (ce ts++s):=fun a w ha hw=>by
 obtain ⟨g',h1,h2,h3⟩:=Go.Proofs.YtcfkpajlakidbaaGreatDoor.freezeTs ts g s hw;exact h g' h1 h3 a w ha h2
theorem CU {ts:Rws}{j:Nat}{v:Sv}{l:List Int}(h:ts[j]?=some (v,l)){hd:Own}(s:Own){x:Ent}(hh:hd.length=2):((hd++(ce ts++s)).set (j+2) x)[j+2]?=some x:=by
 have hj:=(zf3.1 h).1;rw[List.getElem?_set_self];simp only[ze3,ce,ze4];omega
def TIn (ts:Rws)(x:Int):Prop:=∃ t∈ts,x∈t.2
theorem TIn.set {ts:Rws}{j:Nat}{v v':Sv}{l:List Int}(h:ts[j]?=some (v,l))(x:Int){y:Int}(hy:TIn ts y):TIn (ts.set j (v',l++[x])) y:=by
 obtain ⟨t,ht,h2⟩:=hy;have hj:=(zf3.1 h).1;obtain ⟨i,hi,e⟩:=List.mem_iff_getElem.1 ht;by_cases e2:j=i
 ·subst e2;refine⟨(v',l++[x]),List.mem_set hj _,?_⟩;obtain ⟨_,e3⟩:=zf3.1 h;rw[← e,e3] at h2;simp only[zf1];exact .inl h2
 ·refine⟨t,?_,h2⟩;have:(ts.set j (v',l++[x]))[i]?=some t:=by rw[List.getElem?_set_ne e2,gE hi,e]
  exact zf9 this
theorem TIn.new {ts:Rws}{j:Nat}{v v':Sv}{l:List Int}(h:ts[j]?=some (v,l))(x:Int):TIn (ts.set j (v',l++[x])) x :=
 ⟨(v',l++[x]),List.mem_set (zf3.1 h).1 _,by simp⟩
structure TOk (l:List Cl)(T:List (List Int)):Prop where
 pos:1≤T.length
 few:T.length≤4
 few3:l.length>12→T.length≤3
 mem:∀ t∈T,∀ x∈t,x∈fQ l
 len:∀ t∈T,t.length≤4 * (fQ l).length
 cov:∀ x∈fQ l,∃ t∈T,x∈t
theorem DG {k n:Nat}(hk:k<n)(hn:n≤4):IntKind.i64.wrap (1 * 2 ^ min ((k:Nat):Int).toNat IntKind.i64.bits)=((2 ^ k:Nat):Int):=by
 have key:∀ k,k<5→IntKind.i64.wrap (1 * 2 ^ min ((k:Nat):Int).toNat IntKind.i64.bits)=((2 ^ k:Nat):Int):=by decide +kernel
 exact key k oM
theorem B7 {n:Nat}(hn:n≤4):IntKind.i64.wrap (1 * 2 ^ min ((n:Nat):Int).toNat IntKind.i64.bits)=((2 ^ n:Nat):Int):=by
 have key:∀ k,k<5→IntKind.i64.wrap (1 * 2 ^ min ((k:Nat):Int).toNat IntKind.i64.bits)=((2 ^ k:Nat):Int):=by decide +kernel
 exact key n oM
theorem DH {M k:Nat}(hM:M<16)(hk:k<4):IntKind.i64.wrap (BitVec.ofInt IntKind.i64.bits (((M:Nat):Int).fdiv (2 ^ min ((k:Nat):Int).toNat IntKind.i64.bits)) &&& BitVec.ofInt IntKind.i64.bits 1).toNat=if M.testBit k then 1 else 0:=by
 have key:∀ M,M<16→∀ k,k<4→IntKind.i64.wrap (BitVec.ofInt IntKind.i64.bits (((M:Nat):Int).fdiv (2 ^ min ((k:Nat):Int).toNat IntKind.i64.bits)) &&& BitVec.ofInt IntKind.i64.bits 1).toNat=if M.testBit k then 1 else 0:=by decide +kernel
 exact key M hM k hk
theorem B6 {M n:Nat}(h0:1≤M)(h1:M<2 ^ n)(hn:n≤4):∃ k,k<n∧M.testBit k=true:=by
 have key:∀ n,n<5→∀ M,M<2 ^ n→1≤M→∃ k,k<n∧M.testBit k=true:=by decide +kernel
 exact key n oM M h1 h0
theorem Bw {n:Nat}(hn:n≤4)(h0:1≤n):2≤2 ^ n∧2 ^ n≤16:=by
 have key:∀ n,n<5→1≤n→2≤2 ^ n∧2 ^ n≤16:=by decide
 exact key n oM h0
theorem wR (E:World)(g:PH)(s:Own)(v nv:Value)(l:List Cl)(sd:Int)(ns:List Int)(hv:ao g v l)(hf:cU l)(hl:(ae l).length≤1000)(hn:bZ g nv ns) :
  Ctr Tryz.prog E 7 #[.agg #[v],vi sd,nv] g s (fun r g' s'=>s=s'∧Le g g'∧∃ T,aH g' r T∧TOk l T):=by
 obtain ⟨vp,vc,rfl⟩:=hv.form;obtain ⟨np,nc,rfl⟩:=za2 hn;have hll:=hf.1;have hm4:=aB sd 4 dC dC;have hm3:=aB sd 3 dC dC;have htl:(fQ l).length≤1000:=by
  unfold fQ;rw[ze4];exact zk3 (zc3 _ _) hl
 refine za9 (args:=[.agg #[.slice vp l.length vc],vi sd,.slice np ns.length nc]) func7 I ntmps7 (bE I) ?_;refine rZ (bW (bO I) fun b3=>?_);refine aT I (sW I (lW (cL dD I (ah E g _ sd 4 dC)) ?_));rintro _ _ _ ⟨rfl,rfl,rfl⟩;refine yD I (aT I ?_);refine SC.cut (ι:=Nat) (fun n=>[(2,.slice np ns.length nc),(3,pp b3 0),(7,vi n)]) (fun _=>g) (fun _=>pt b3 (.cells #[.slice vp l.length vc] 31 (0,0))::s) (fun n=>1≤n∧n≤4∧(l.length>12→n≤3)) ?_ ?_
 ·refine rZ (lU (fA cH I bG I) (lK (qL (v:=.slice vp l.length vc) dg I (cO 0 I I)) (lU (eN az I) (lU (gR I I) (tZ ?_)))));refine iP I (fun h12=>?_) (fun h12=>?_)
  ·refine rG (lM I (lW (cL dD I (ah E g _ sd 3 dC)) ?_));rintro _ _ _ ⟨rfl,rfl,rfl⟩;refine lU (SU.eq (v':=vi (1+(aI sd 3).toNat:Nat)) (aD I I oM) (zd9 vi oM)) (lA I (nL ?_));exact za7 (1+(aI sd 3).toNat) sB I I ⟨oM,oM,fun _=>by omega⟩
  ·refine kP ?_;refine za7 (1+(aI sd 4).toNat) ⟨I,I,?_,trivial⟩ I I ⟨oM,oM,fun h=>by omega⟩;show some (vi (1+aI sd 4))=_;exact zd9 (fun x=>some (vi x)) oM
 rintro n ⟨hn1,hn4,hn3⟩;have hpw:=Bw hn4 hn1;refine sW I (lW (mK aA ⟨none,0,0⟩ sty22 I I I oM oM) ?_);rintro _ _ _ ⟨bt,rfl,rfl,rfl⟩;refine aT I (rZ (lK (qV 1 aY ar I I I) (lW (cL call25 I (tw E g _ _ l hv hf)) ?_)));rintro _ g1 _ ⟨rfl,hle1,hA⟩;obtain ⟨ap,ac,rfl⟩:=za2 hA;refine aT I (sQ (rZ (aT I (bK ?_))));have hTok:∀ ts:Rws,ts.length=n→(∀ t∈ts,t.2.length≤4 * (fQ l).length∧∀ x∈t.2,x∈fQ l)→(∀ j<(fQ l).length,∀ x,(fQ l)[j]?=some x→TIn ts x)→TOk l (ts.map Prod.snd):=fun ts h1 h2 h3=>⟨by rw[ze4]; omega,by rw[ze4]; omega,fun h=>by rw[ze4]; have:=hn3 h; omega,fun t ht=>by
  obtain ⟨u,hu,rfl⟩:=ze9.1 ht;exact (h2 u hu).2,fun t ht=>by
  obtain ⟨u,hu,rfl⟩:=ze9.1 ht;exact (h2 u hu).1,fun x hx=>by
  obtain ⟨j,hj,e⟩:=List.mem_iff_getElem.1 hx;obtain ⟨t,ht,hxt⟩:=h3 j hj x (by rw[gE hj,e]);exact⟨t.2,ze9.2 ⟨t,ht,I⟩,hxt⟩⟩
 generalize fQ l=A at *;refine SC.to (fun w hw=>pn [rowA aA 25 (.slice (some ⟨bt,0,none⟩) n n) (List.replicate n ⟨none,0,0⟩),pt b3 (.cells #[.slice vp l.length vc] 31 (0,0))] n s hw) ?_;refine oP (ι:=Nat×Rws) (fun z=>[(2,.slice np ns.length nc),(7,vi n),(8,.slice (some ⟨bt,0,none⟩) n n),(9,.slice ap A.length ac),(10,vi z.1)]) (fun _=>g1) (fun z=>rowA aA 25 (.slice (some ⟨bt,0,none⟩) n n) (z.2.map Prod.fst)::pt b3 (.cells #[.slice vp l.length vc] 31 (0,0))::(ce z.2++s)) (fun z=>z.1≤A.length∧z.2.length=n∧(∀ t∈z.2,t.2.length≤4 * z.1∧∀ x∈t.2,x∈A)∧∀ j<z.1,∀ x,A[j]?=some x→TIn z.2 x) (fun z=>A.length - z.1) (0,List.replicate n (⟨none,0,0⟩,[])) sB I (by dsimp only; rw[List.map_replicate]; rfl) ⟨zf4 _,by dsimp only; rw[List.length_replicate],fun t ht=>by rw[(List.mem_replicate.1 ht).2]; exact⟨zf4 _,by simp⟩,fun j hj=>absurd hj (Nat.not_lt_zero j)⟩ ?_;rintro ⟨i,ts⟩ ⟨hi,htn,htm,htc⟩;dsimp only at hi htn htm htc ⊢;refine sQ (sW I (lM I (lU (eN ak I) (yL I (tZ ?_)))));refine iP I (fun hlt=>?_) (fun hlt=>?_)
 ·have hiA:i<A.length:=oM;have hgi:A[((i:Nat):Int).toNat]?=some A[i]:=gE hiA;have hgi0:A[i]?=some A[i]:=gE hiA;have hAm:A[i]∈A:=gM hiA;have hbA:=za4 hA oM;generalize A[i]=x at *;have hk:i % n<n:=Nat.mod_lt _ oM;have hrem:((i:Nat):Int).tmod ((n:Nat):Int)=((i % n:Nat):Int):=(Int.ofNat_tmod i n).symm;refine kP (tN (sQ (bK (sW I (lM I (lU (SU.eq (v':=vi (i % n:Nat)) (zd6 I I oM) (zd9 vi hrem)) (lU (SU.eq (v':=vi (2 ^ (i % n):Nat)) (SU.shl I I oM) (zd9 vi (DG hk hn4))) (aT I ?_))))))));refine SC.cut (ι:=Int) (fun m=>[(2,.slice np ns.length nc),(7,vi n),(8,.slice (some ⟨bt,0,none⟩) n n),(9,.slice ap A.length ac),(10,vi i),(11,vi m)]) (fun _=>g1) (fun _=>rowA aA 25 (.slice (some ⟨bt,0,none⟩) n n) (ts.map Prod.fst)::pt b3 (.cells #[.slice vp l.length vc] 31 (0,0))::(ce ts++s)) (fun _=>True) ?_ ?_
  ·refine sW I (lU (eN ak I) (lU (gR I I) (tZ ?_)));refine iP I (fun hns=>?_) (fun hns=>?_)
   ·have hnl:0<ns.length:=oM;have hr2:((i:Nat):Int).tmod ((ns.length:Nat):Int)=((i % ns.length:Nat):Int):=(Int.ofNat_tmod i _).symm;have hkl:i % ns.length<ns.length:=Nat.mod_lt _ hnl;have hgn:ns[((i % ns.length:Nat):Int).toNat]?=some ns[i % ns.length]:=gE hkl;have hbn:=za4 hn hnl;refine dW [] [(0,2),(1,2),(2,2),(3,2),(4,2),(5,2),(6,1),(7,2),(8,2),(9,2),(10,2),(11,2),(12,2)] ze1 kR ?_;refine yM I (yM I (yM I (pU I (eN ak I) (pU I (SU.eq (v':=vi (i % ns.length:Nat)) (zd6 I I oM) (zd9 vi hr2)) (pU I (iA ak zT3 I I hbn oM (show ((i % ns.length:Nat):Int)<((ns.length:Nat):Int) by omega)) ?_)))));refine pK I (eB iT3 I (za5 (za3 hn hle1)) hgn I) (yM I (yM I (pU I (eN ak I) (pU I (SU.quo I I oM) (pU I (zd8 I I) (pU I (aS I) (pN ?_)))))));exact za7 _ sB I I trivial
   ·refine kP ?_;exact za7 _ sB I I trivial
  rintro m -;have hmr:=aB m (2 ^ n:Nat) oM oM;refine sW I (lM I (lU (SU.eq (v':=vi (2 ^ n:Nat)) (SU.shl I I oM) (zd9 vi (B7 hn4))) (lW (cL dD I (ah E g1 _ m (2 ^ n:Nat) oM)) ?_)));rintro _ _ _ ⟨rfl,rfl,rfl⟩;refine aT I ?_;refine SC.cut (ι:=Nat) (fun M=>[(2,.slice np ns.length nc),(7,vi n),(8,.slice (some ⟨bt,0,none⟩) n n),(9,.slice ap A.length ac),(10,vi i),(11,vi M)]) (fun _=>g1) (fun _=>rowA aA 25 (.slice (some ⟨bt,0,none⟩) n n) (ts.map Prod.fst)::pt b3 (.cells #[.slice vp l.length vc] 31 (0,0))::(ce ts++s)) (fun M=>1≤M∧M<2 ^ n) ?_ ?_
  ·refine sW I (yE I (tZ ?_));refine iP I (fun hz=>?_) (fun hz=>?_)
   ·refine rG (lA I (nL ?_));exact za7 1 sB I I ⟨oM,oM⟩
   ·refine kP ?_;refine za7 (aI m (2 ^ n:Nat)).toNat ⟨I,I,I,I,I,?_,trivial⟩ I I ⟨oM,oM⟩;show some (vi (aI m (2 ^ n:Nat)))=_;exact zd9 (fun x=>some (vi x)) oM
  rintro M ⟨hM1,hM2⟩;refine rZ (aT I (bK ?_));refine oP (ι:=Nat×Rws) (fun z=>[(2,.slice np ns.length nc),(7,vi n),(8,.slice (some ⟨bt,0,none⟩) n n),(9,.slice ap A.length ac),(10,vi i),(11,vi M),(12,vi z.1)]) (fun _=>g1) (fun z=>rowA aA 25 (.slice (some ⟨bt,0,none⟩) n n) (z.2.map Prod.fst)::pt b3 (.cells #[.slice vp l.length vc] 31 (0,0))::(ce z.2++s)) (fun z=>z.1≤n∧z.2.length=n∧(∀ t∈z.2,t.2.length≤4 * i+z.1∧∀ x∈t.2,x∈A)∧(∀ j<i,∀ x,A[j]?=some x→TIn z.2 x)∧∀ b<z.1,M.testBit b=true→TIn z.2 x) (fun z=>n - z.1) (0,ts) sB I I ⟨zf4 _,htn,fun t ht=>⟨(htm t ht).1,(htm t ht).2⟩,htc,fun b hb=>absurd hb (Nat.not_lt_zero b)⟩ ?_;clear htn htm htc;rintro ⟨k,us⟩ ⟨hk2,hun,hum,huc,hub⟩;dsimp only at hk2 hun hum huc hub ⊢;refine sQ (sW I (lM I (yL I (tZ ?_))));refine iP I (fun hlt2=>?_) (fun hlt2=>?_)
  ·have hkn:k<n:=oM;have hand:=DH (M:=M) (k:=k) oM oM;refine kP (tN (sQ (bK (sW I (lM I (lU (SU.shr I I oM) (lU (SU.eq (v':=vi (if M.testBit k then 1 else 0)) (SU.and I I) (zd9 vi hand)) (yE I (tZ ?_)))))))));refine iP I (fun hbit=>?_) (fun hbit=>?_)
   ·have htb:M.testBit k=true:=by
     cases h:M.testBit k with
     | true=>rfl
     | false=>rw[h] at hbit; simp at hbit
    have hku:k<us.length:=oM;have hgk:us[k]?=some us[k]:=gE hku;have hgs:(us.map Prod.fst)[((k:Nat):Int).toNat]?=some us[k].1:=by
     rw[show ((k:Nat):Int).toNat=k from rfl,zh7,hgk];rfl
    have hum1:=hum _ (gM hku);generalize us[k]=u0 at *;obtain ⟨sv,lu⟩:=u0;dsimp only at hgs hum1;refine SC.drawT 2 [13] [(0,2),(1,2),(2,2),(3,2),(4,2),(5,1),(6,2),(7,2),(8,2),(9,1),(10,0),(11,0),(12,2),(13,0)] ze1 kR ?_;refine yM rfl (yM rfl (yM rfl (yM rfl (pU rfl (iA br bP rfl rfl rfl oM sL) (pK rfl (eB (u:=.slice sv.p sv.n sv.c) dG rfl (zb5 (e:=aA) 0 rfl) hgs rfl) (yM rfl (yM rfl (pU rfl (iA ak zT3 rfl rfl hbA oM sL) (pK rfl (eB iT3 rfl (za5 hA) hgi rfl) (SP.o rfl (bS sty25 rfl rfl rfl (ab ⟨rfl,trivial⟩) dC) dC (.inr (by rintro _ _ _ ⟨b78,rfl,rfl,rfl⟩; exact⟨by exact zb7 _,(by exact .cons _ (List.take_sublist _ _))⟩)) ?_))))))))));rintro _ _ _ ⟨b78,rfl,rfl,rfl⟩;refine SP.o rfl (aP (e:=encInt) (l:=lu) (k+2) x sty25 rfl rfl rfl (lx hgk s) rfl oM oM) dC (.inr (by rintro v79 _ _ ⟨rfl,rfl⟩; exact⟨by exact zb7 _,(by exact dH _ _ _ _)⟩)) ?_;rintro v79 _ _ ⟨rfl,rfl⟩;refine zc9 fun ⟨w0,hw0⟩=>?_;obtain ⟨q79,d79,rfl⟩:=ag (e:=encInt) (l:=lu++[x]) (i:=k+2) hw0 (CU (hd:=[rowA aA 25 (.slice (some ⟨bt,0,none⟩) n n) (us.map Prod.fst),pt b3 (.cells #[.slice vp l.length vc] 31 (0,0))]) hgk s rfl);clear hw0 w0;refine pU I (SU.eq (v':=.pointer (some ⟨bt,0+k * 1,none⟩)) (iA br bP I I I oM sL) I) (SP.on I (sT (e:=aA) (a:=⟨q79,(lu++[x]).length,d79⟩) (j:=k) 0 bP I I I (by rw[ze4]; omega) I) (.inl dC) ?_);rintro _ _ _ ⟨rfl,rfl⟩;refine pN (bN (tN (rG (lM I (yD I (lA I (nL (dR (s':=rowA aA 25 (.slice (some ⟨bt,0,none⟩) n n) ((us.set k (⟨q79,(lu++[x]).length,d79⟩,lu++[x])).map Prod.fst)::pt b3 (.cells #[.slice vp l.length vc] 31 (0,0))::(ce (us.set k (⟨q79,(lu++[x]).length,d79⟩,lu++[x]))++s)) (by rw[List.map_set,← lr hgk s]; exact .refl _) ?_))))))));exact gA (k+1,(us.set k (⟨q79,(lu++[x]).length,d79⟩,lu++[x]))) sB I I ⟨by dsimp only; omega,by dsimp only; rw[zi1]; exact hun,fun t ht=>by
     dsimp only at ht ⊢
     rcases List.mem_or_eq_of_mem_set ht with h | h
     ·exact⟨by have:=(hum t h).1; omega,(hum t h).2⟩
     ·subst h;refine⟨by dsimp only; rw[ze3,ze5]; omega,fun y hy=>?_⟩
      rcases zf1.1 hy with h | h
      ·exact hum1.2 y h
      ·rw[zh5.1 h]; exact hAm,fun j hj y hy=>TIn.set hgk x (huc j hj y hy),fun b hb hb2=>TIn.new hgk x⟩ (by dsimp only; omega)
   ·have htb:M.testBit k=false:=by
     cases h:M.testBit k with
     | false=>rfl
     | true=>rw[h] at hbit; simp at hbit
    refine kP (bN (tN (rG (lM I (yD I (lA I (nL ?_)))))));exact gA (k+1,us) sB I I ⟨by dsimp only; omega,hun,fun t ht=>⟨by have:=(hum t ht).1; dsimp only; omega,(hum t ht).2⟩,huc,fun b hb hb2=>by
     dsimp only at hb;by_cases e:b=k
     ·rw[e,htb] at hb2; cases hb2
     ·exact hub b oM hb2⟩ (by dsimp only; omega)
  ·have hke:k=n:=oM;subst hke;obtain ⟨b,hb1,hb2⟩:=B6 hM1 hM2 hn4;have hx:=hub b hb1 hb2;refine xI (tX (tX (bX (bN (tN (rG (lM I (yD I (lA I (nL ?_))))))))));exact gA (i+1,us) sB I I ⟨by dsimp only; omega,hun,fun t ht=>⟨by have:=(hum t ht).1; dsimp only; omega,(hum t ht).2⟩,fun j hj y hy=>by
    dsimp only at hj;by_cases e:j=i
    ·subst e;rw[hgi0] at hy;injection hy with hy
     rw[← hy];exact hx
    ·exact huc j oM y hy⟩ (by dsimp only; omega)
 ·have hie:i=A.length:=oM;subst hie;have hok:=hTok ts htn htm htc;have hsl:(ts.map Prod.fst).length=n:=by rw[ze4]; exact htn
  refine fS fun g2 hle2 hs2=>?_;refine SC.drop (.cons _ (.refl _)) (SC.freezeTs fun g3 hle3 hall=>?_);refine xI (tX (tX (bX (tN (sW I (aT I (rE ?_)))))));exact za6 (.inl I) results7 I ⟨I,hle1.trans (hle2.trans hle3),ts.map Prod.snd,⟨ts.map Prod.fst,Sl.mono hs2 hle3,hall⟩,hok⟩
theorem gI {l:List Cl}{d:Int}(h:∀ c∈l,c.dim≤d):∀ c∈aa l,c.dim≤d:=fun c hc=>by
 obtain ⟨x,hx,rfl⟩:=ze9.1 hc;exact h x ((dp _ _).1 hx)
theorem Bk (x:List Int):(cg x).length≤x.length:=by
 unfold cg;exact zk3 (ie _ _) (by rw[ff]; exact lR _)
theorem jR {n:Nat}:∀ {ls all out:List (List Int)},(∀ x∈all,x.length≤n)→(∀ x∈ls,x.length≤n)→aM all ls=some out→∀ x∈out,x.length≤n
 | [],all,out,h1,_,h=>by
  simp only[aM,zg5] at h;subst h;exact h1
 | s::r,all,out,h1,h2,h=>by
  have hr:∀ x∈r,x.length≤n:=fun x hx=>h2 x (by simp[hx]);unfold aM at h;split at h
  ·exact jR h1 hr h
  ·split at h
   ·cases h
   ·refine jR (fun x hx=>?_) hr h
    rcases (fJ _ _ _).1 hx with k | k
    ·exact h1 x k
    ·have k1:=((fX _ _).1 k).1.length_le;have k2:=Bk s;have k3:=h2 s (by simp);omega
theorem fE {ls:List (List Int)}{n:Nat}(h:∀ x∈ls,x.length≤n):∀ c∈bT ls,c.dim≤(n:Int) - 1:=by
 unfold bT;cases hs:aM [] ls with
 | none=>intro c hc; cases hc
 | some all =>
  refine gI fun c hc=>?_;obtain ⟨p,hp,rfl⟩:=ze9.1 hc;have:=jR (n:=n) (by simp) h hs p.1 (List.fst_mem_of_mem_zipIdx hp);show (p.1.length:Int) - 1≤_;omega
theorem fZ {a b:List Cl}{m n:Int}(ha:∀ c∈a,c.dim≤m)(hb:∀ c∈b,c.dim≤n):∀ c∈bM a b,c.dim≤m+n:=by
 unfold bM;split
 ·intro c hc; cases hc
 ·split
  ·refine gI fun c hc=>?_;obtain ⟨x,hx,hc⟩:=List.mem_flatMap.1 hc;obtain ⟨z,hz,rfl⟩:=ze9.1 hc;have h1:=gI ha x hx;have h2:=gI hb z hz;show x.dim+z.dim≤_;omega
  ·intro c hc; cases hc
theorem zU (n:Nat):∀ c∈td n,c.dim≤2:=by
 refine gI fun c hc=>?_;unfold dU at hc
 rcases zf1.1 hc with hc | hc
 ·rcases zf1.1 hc with hc | hc
  ·rcases zf1.1 hc with hc | hc
   ·obtain ⟨i,-,rfl⟩:=ze9.1 hc;exact (by decide:(0:Int)≤2)
   ·obtain ⟨i,-,rfl⟩:=ze9.1 hc;exact (by decide:(1:Int)≤2)
  ·rw[zh5.1 hc];exact Int.le_refl _
 ·split at hc
  ·rw[zh5.1 hc];exact Int.le_refl _
  ·cases hc
theorem vW (ls:List (List Int)):∀ x∈l5 ls,x.length≤4:=fun x hx=>by
 obtain ⟨l,-,rfl⟩:=ze9.1 hx;rw[ze4,ze2];omega
theorem AG (m:Int)(ls:List (List Int))(y:Int):∀ c∈nm m ls y,c.dim≤3:=by
 have up:∀ {l:List Cl} {d:Int},(∀ c∈l,c.dim≤d)→d≤3→∀ c∈l,c.dim≤3:=fun h1 h2 c hc=>by
  have:=h1 c hc;omega
 have hsf:=(pj y).2.2;have e1:∀ c∈bT [[0,1]],c.dim≤((2:Nat):Int) - 1:=fE dC;unfold nm;split
 ·exact up (fE hsf) dC
 ·split
  ·exact up (fZ (fE (eS _).2) (fE (eS _).2)) dC
  ·split
   ·exact up (zU _) dC
   ·split
    ·exact up (fZ (fZ e1 e1) e1) dC
    ·split
     ·refine up (fE (n:=4) fun x hx=>?_) dC
      rcases zf1.1 hx with h | h
      ·exact vW ls x h
      ·have:=hsf x (List.mem_of_mem_take h);omega
     ·exact up (fE (vW ls)) dC
theorem sf (kd:Int)(ls:List (List Int))(y:Int):∀ c∈jA kd ls y,c.dim≤3:=fun c hc=>by
 obtain ⟨a,ha,rfl⟩:=nb (CK y) hc;show a.dim≤3;unfold o8 at ha;split at ha
 ·have e1:∀ c∈bT [[0,1],[1,2],[0,2]],c.dim≤((2:Nat):Int) - 1:=fE dC;have:=fZ e1 e1 a ha;omega
 ·exact AG _ _ _ a ha
theorem w4 (kd:Int)(ls:List (List Int))(y:Int):∀ c∈iD kd ls y,c.dim≤3:=by
 unfold iD;split
 ·rw[DY];decide
 ·unfold fk;split
  ·exact sf _ _ _
  ·exact sf _ _ _
theorem yK (L:List Cl)(id:Int):∀ (T:List (List Int)) (k:Nat),(∃ t∈T,id∈cQ L t)→tlB L k T id≠0
 | [],_,h=>by obtain ⟨t,ht,_⟩:=h; cases ht
 | t::T,k,h=>by
  unfold tlB;by_cases e:id∈cQ L t
  ·rw[zf8 (by simpa using e)];have:=Nat.two_pow_pos k;omega
  ·have:tlB L (k+1) T id≠0:=yK L id T (k+1) (by
    obtain ⟨u,hu,h2⟩:=h
    rcases ze8.1 hu with rfl | hu
    ·exact absurd h2 e
    ·exact⟨u,hu,h2⟩)
   omega
theorem CV {l:List Cl}(h:Rt l){T:List (List Int)}(hT:TOk l T):∀ k:Nat,∀ c∈l,9≤c.dim+k→∃ t∈T,c.id∈cQ l t:=by
 intro k;induction k with
 | zero =>
  intro c hc hk;have:=(h.form c hc).dim.2;omega
 | succ k ih =>
  intro c hc hk;by_cases e:iE l c.id=true
  ·unfold iE at e;obtain ⟨d,hd,h2⟩:=zj4.1 e;obtain ⟨x,hx,h3⟩:=zj4.1 h2;have h3:x.cell=c.id:=zg1 h3;obtain ⟨c',hf,hdim⟩:=(h.form d hd).found x hx;rw[h3,h.find hc] at hf;injection hf with hf
   subst hf;obtain ⟨t,ht,hm⟩:=ih d hd oM;refine⟨t,ht,?_⟩;have:=vx h t d hd (by simpa using hm) x hx;rw[h3] at this;simpa using this
  ·have hm:c.id∈fQ l:=by
    unfold fQ;rw[h.tab];refine ze9.2 ⟨c,zh2.2 ⟨hc,?_⟩,I⟩;simpa using e
   obtain ⟨t,ht,hx⟩:=hT.cov _ hm;refine⟨t,ht,(kL l t c.id).2 ⟨c.id,hx,.refl _ ?_⟩⟩;unfold gU;rw[h.find hc];simp
theorem A9 {l:List Cl}(h:Rt l){T:List (List Int)}(hT:TOk l T):bU l T=0:=by
 have h4:=hT.few;have hf:(T.any fun t=>t.any fun id=>(aG (ae l) id).isNone)=false:=by
  rw[zj9];intro t ht;rw[zj3,zj9];intro x hx;have:=hT.mem t ht x hx;unfold fQ at this;obtain ⟨c,hc,rfl⟩:=ze9.1 this;rw[h.tab] at hc ⊢;rw[h.find (zh2.1 hc).1];simp
 have hz:((ae l).any fun c=>decide (tlB (ae l) 0 T c.id=0))=false:=by
  rw[h.tab,zj9];intro c hc;have hd:=(h.form c hc).dim;obtain ⟨t,ht,hm⟩:=CV h hT (9 - c.dim).toNat c hc oM;have:=yK l c.id T 0 ⟨t,ht,hm⟩;simpa using this
 unfold bU;rw[h.check,zf7 (by simp),zf7 oM,hf,zf7 (by simp),hz,zf7 (by simp)]
structure Sm3 (l:List Cl):Prop extends Sml l where
 dims:∀ c∈l,c.dim≤3
theorem zM (kd:Int)(ls:List (List Int))(y:Int):Sm3 (iD kd ls y):=⟨zL kd ls y,w4 kd ls y⟩
def pgN (f:Nat→Nat→Nat→Int)(n D k:Nat):List (List Int):=(List.range n).map fun a=>(List.range D).map fun b=>f k a b
structure Nums (P:List (List (List Int)))(n D:Nat)(e:Int)(f:Nat→Nat→Nat→Int):Prop where
 few:P.length≤n
 n4:n≤4
 d9:D≤9
 page:∀ k,k<P.length→P[k]?=some (pgN f n D k)
 pos:∀ k a b,a<n→0≤f k a b
 less:∀ k a b,a<n→f (k+1) a b≤f k a b
 bd:∀ k a b,(f k a b).natAbs≤800
 sum:∀ k,k<n→(Go.Pl.aR (List.range n) fun a=>Go.Pl.aR (List.range D) fun b=>f k a b * sgP ((a:Int)+b))=e
theorem uM (E:World)(g:PH)(s:Own)(v u:Value)(l:List Cl)(hv:ao g v l)(hu:ao g u l)(hf:cU l) :
  Ctr Tryz.prog E 28 #[.agg #[v],.agg #[u]] g s (fun r g' s'=>r=vb true∧g=g'∧s=s'):=by
 obtain ⟨rs,hrs,hallr⟩:=hv;obtain ⟨qs,hqs,hallq⟩:=hu;have hlr:=hallr.length;have hlq:=hallq.length;obtain ⟨rp,rc,rfl⟩:=za2 hrs;obtain ⟨qp,qc,rfl⟩:=za2 hqs;have hl:=hf.1;refine za9 (args:=[.agg #[.slice rp rs.length rc],.agg #[.slice qp qs.length qc]]) func28 I ntmps28 (bE I) ?_;refine rZ (bW (bO I) fun b2=>?_);refine bW (bO I) fun b3=>?_;refine aT I (sQ (rZ (lU (fA cH I bG I) (lK (qL (v:=.slice rp rs.length rc) dg I (cO 1 I I)) (lU (eN az I) (lU (fA cH I bG I) (lK (qL (v:=.slice qp qs.length qc) dg I (cO 0 I I)) (lU (eN az I) (lU (SU.eq (v':=vb false) (nQ I I) (zd9 vb (zf5 oM))) (tZ (cF I (kP (tN (sQ (rZ (aT I (bK ?_)))))))))))))))));refine oP (ι:=Nat) (fun k=>[(2,pp b2 0),(3,pp b3 0),(5,vi k)]) (fun _=>g) (fun _=>pt b3 (.cells #[.slice qp qs.length qc] 31 (0,0))::pt b2 (.cells #[.slice rp rs.length rc] 31 (0,0))::s) (fun k=>k≤rs.length) (fun k=>rs.length - k) 0 sB I I (zf4 _) ?_;rintro k hk;refine sQ (sW I (lU (fA cH I bG I) (lK (qL (v:=.slice rp rs.length rc) dg I (cO 1 I I)) (lU (eN az I) (yL I (tZ ?_))))));refine iP I (fun hlt=>?_) (fun hlt=>?_)
 ·have hkr:k<rs.length:=oM;have hkq:k<qs.length:=oM;have hkl:k<l.length:=oM;have hb1:=za4 hrs oM;have hb2:=za4 hqs oM;have hgr:rs[((k:Nat):Int).toNat]?=some rs[k]:=gE hkr;have hgq:qs[((k:Nat):Int).toNat]?=some qs[k]:=gE hkq;have hR:=hallr.get (gE hkl) (gE hkr);have hQ:=hallq.get (gE hkl) (gE hkq);have hxl:=hf.2 _ (gM hkl);generalize l[k]=x at *;generalize rs[k]=r at *;generalize qs[k]=q at *;obtain ⟨r1,r2,⟨r3,r4,r5⟩⟩:=r;obtain ⟨q1,q2,⟨q3,q4,q5⟩⟩:=q;refine kP (tN (sQ (bK (sQ ?_))));refine dW [] [(0,2),(1,1),(2,2),(3,2),(4,1),(5,2),(6,1),(7,2),(8,2),(9,1),(10,0),(11,2)] ze1 kR ?_;refine pU I (fA cH I bG I) (pK I (qL (v:=.slice rp rs.length rc) dg I (cO 1 I I)) (yM I (pU I (iA az aw I I hb1 oM sL) (pK I (eA eO aw I (za5 hrs) hgr) (pU I (fA cH I bG I) (pK I (qL (v:=.slice qp qs.length qc) dg I (cO 0 I I)) (yM I (pU I (iA az aw I I hb2 oM sL) (pK I (eA eO aw I (za5 hqs) hgq) (SP.o I (cL call72 I (rv E g _ x x ⟨r1,r2,⟨r3,r4,r5⟩⟩ ⟨q1,q2,⟨q3,q4,q5⟩⟩ hR hQ hxl)) dC (.inr iR) ?_))))))))));rintro _ _ _ ⟨rfl,rfl,rfl⟩;rw[show decide (x=x)=true from zf6 rfl];refine pU I (SU.not I) (pN (tN (cF I (kP (bN (tN (rG (lM I (yD I (lA I (nL ?_)))))))))));exact gA (k+1) sB I I oM oM
 ·refine xI (tX (tX (bX (tN (rZ (aT I (rE (dR (s':=s) uR ?_))))))));exact za6 (.inl I) results28 I ⟨I,I,I⟩
def prI (L:List Cl)(n:Nat)(id:Int):List (Int×Int):=if jD n id=0 then [((L.getD (id.toNat / 2 ^ n) fK).id,1)] else []
section
variable {L:List Cl}{f:Int→Nat}{n:Nat}(h:Cov L f n)
include h
end
structure ProjOk (l:List Cl)(T:List (List Int)):Prop where
 map:D1 (aF l T) l (prI l T.length)
 more:l.length≤(aF l T).length
 eul:ES (aF l T)=ES l
 rt:Rt (aF l T)
 open0:bU l T=0
theorem yO {m n:Nat}(hn:n≤6):((m:Nat):Int).fdiv (2 ^ min ((n:Nat):Int).toNat IntKind.i64.bits)=((m / 2 ^ n:Nat):Int):=by
 have h1:min ((n:Nat):Int).toNat IntKind.i64.bits=n:=by
  have:IntKind.i64.bits=64:=rfl;rw[this,Int.toNat_natCast];omega
 rw[h1,Int.fdiv_eq_ediv_of_nonneg _ (Int.le_of_lt (Int.pow_pos dC)),Int.natCast_ediv,Int.natCast_pow];rfl
theorem Tryz.buildJ78 (x:Int)(w:World):(Instr.build 78 #[(0,vi x)]).run Tryz.prog w = .ok (.agg #[vi x,.slice none 0 0]) w:=by
 have h1:(vi x).cells = #[vi x]:=rfl;simp[Instr.build,Instr.fill,h1];rfl
theorem zt {L:List Cl}(hL:Rt L){T:List (List Int)}(hT:T.length≤6):∀ z∈dz L T,∃ k c,L[k]?=some c∧z.id.toNat / 2 ^ T.length=k∧z.id=(z.id.toNat:Int):=fun z hz=>by
 obtain ⟨d,hd,rfl⟩:=ze9.1 hz;have hd:=(dp _ _).1 hd;rw[zu] at hd;obtain ⟨c,hc,s,hs,rfl⟩:=(sb hL).1 hd;have h1:=sub_le (nt.1 hs).2;have h2:=ld L c.id T;refine⟨ixB L c.id,c,hL.ix_get hc,?_,?_⟩
 ·show (bId T.length (ixB L c.id) s).toNat / 2 ^ T.length=_;unfold bId;rw[Int.toNat_natCast,Nat.mul_comm,Nat.mul_add_div (Nat.two_pow_pos _),Nat.div_eq_of_lt oM,Nat.add_zero]
 ·show bId T.length (ixB L c.id) s=((bId T.length (ixB L c.id) s).toNat:Int);unfold bId;rw[Int.toNat_natCast]
theorem tz (E:World)(hE:E.drawn=0)(g:PH)(s:Own)(v tv:Value)(l:List Cl)(T:List (List Int))(hv:ao g v l)(hf:cU l)(hw:∀ c∈l,dJ c.id)(ht:aH g tv T)(hT:T.length<1099511627776)(hTl:∀ t∈T,t.length<1099511627776) :
  Ctr Tryz.prog E 14 #[.agg #[v],tv] g s (fun x g' s'=>s=s'∧Le g g'∧∃ u,x = .agg #[u]∧Ims g' u ((aF l T).map fun c=>(c.id,prI (ae l) T.length c.id))):=by
 obtain ⟨vp,vc,rfl⟩:=hv.form;refine za9 (args:=[.agg #[.slice vp l.length vc],tv]) func14 I ntmps14 (bE I) ?_;refine rZ (bW (bO I) fun b2=>?_);refine bW (aL zeroValue45) fun b4=>?_;refine tZ (rZ (bW (aL zeroValue45) fun b5=>?_));refine tZ (rZ (lK (qV 2 aY ar I I I) (lM I (lW (cL call32 I (kJ E hE g _ _ tv l T hv hf hw ht hT hTl)) ?_))));rintro _ g1 _ ⟨rfl,hle1,pv,rfl,hcov⟩;refine lM I (yX I (yX I (lA I (aT I (sQ (rZ (lK (qV 2 aY ar I I I) (lM I (lW (cL call12 I (j5 E hE g1 _ _ tv l T (hv.mono hle1) hf hw (ht.mono hle1) hT hTl)) ?_)))))))));rintro _ g2 _ ⟨rfl,hle2,u,rfl,hu⟩;obtain ⟨up,uc,rfl⟩:=hu.form;refine lU (SU.field cH I dg I I) (lU (eN az I) (lM I (tZ (bK ?_))));obtain ⟨us,hus,hallu⟩:=hu;have hul:=hallu.length;have hBl:(aF l T).length<1099511627776:=by
  unfold aF;split
  ·simp
  ·rename_i hb;have hop:bU l T=0:=zg7 fun k=>hb (.inl k);obtain ⟨hok,hT6⟩:=cJ hop;have hRt:=gY hok;have hLt:ae l=aa l:=aJ hRt.asc;exact (bw (e6 (by rw[hLt]; exact hRt) hT6)).1
 generalize hBd:aF l T=B at *;refine zb4 78 2 ?_;refine oP (ι:=Nat×PH×Value×List Im) (fun z=>[(4,pp b4 0),(5,pp b5 0),(6,pv),(20,.slice up B.length uc),(21,vi B.length),(22,vi z.1)]) (fun z=>z.2.1) (fun z=>rowA l8 78 z.2.2.1 z.2.2.2::pt b5 (.cells #[z.2.2.1] 45 (0,0))::pt b4 (.cells #[.slice none 0 0] 45 (0,0))::pt b2 (.cells #[.slice vp l.length vc] 31 (0,0))::s) (fun z=>z.1≤us.length∧Le g2 z.2.1∧au (ImR z.2.1) ((B.take z.1).map fun c=>(c.id,prI (ae l) T.length c.id)) z.2.2.2) (fun z=>us.length - z.1) (0,g2,.slice none 0 0,[]) sB I I ⟨zf4 _,zb7 _,trivial⟩ ?_;rintro ⟨k,g3,ov,acc⟩ ⟨hk,hle3,hacc⟩;dsimp only at hk hle3 hacc ⊢;have hal:=hacc.length;rw[ze4,ze2] at hal;refine rZ (yL I (tZ (sQ ?_)));refine iP I (fun hlt=>?_) (fun hlt=>?_)
 ·have hkr:k<us.length:=oM;have hkB:k<B.length:=oM;have hop:bU l T=0∧(aU (dz (ae l) T)).2=0:=by
   refine Decidable.byContradiction fun hn=>?_;have:aF l T=[]:=by
    unfold aF;rw[zf8];by_cases h:bU l T=0
    ·exact .inr fun k=>hn ⟨h,k⟩
    ·exact .inl h
   rw[hBd] at this;rw[this] at hkB;exact absurd hkB (by simp)
  have hBe:B=dz (ae l) T:=by
   rw[← hBd];unfold aF;rw[zf7];rintro (h | h)
   ·exact h hop.1
   ·exact h hop.2
  have hcov:=(hcov hop.1).mono (hle2.trans hle3);obtain ⟨hok,hT6⟩:=cJ hop.1;have hRt:=gY hok;have hLt:ae l=aa l:=aJ hRt.asc;have hRt:Rt (ae l):=by rw[hLt]; exact hRt
  have hb1:=za4 hus oM;have hgr:us[((k:Nat):Int).toNat]?=some us[k]:=gE hkr;have hR:=hallu.get (gE hkB) (gE hkr);have hxm:B[k]∈B:=gM hkB;have htk:B.take (k+1)=B.take k++[B[k]]:=tS hkB;generalize B[k]=x at *;generalize us[k]=r at *;obtain ⟨xi,xd,xp,xn,xc⟩:=r;obtain ⟨hxi,-,-⟩:=hR;dsimp only at hxi;subst hxi;have hxB:x∈dz (ae l) T:=by rw[← hBe]; exact hxm
  obtain ⟨ix,c0,hc0,hix,hnat⟩:=zt hRt hT6 x hxB;have hlt62:=qq hRt hT6 x hxB;have hix1:=(zf3.1 hc0).1;have hLf:=hRt.few;generalize hLd:ae l=L at *;obtain ⟨bc,mc,cv,iv,hpv,hbc,hcv,-,-⟩:=id hcov;subst hpv;obtain ⟨cs,hcs,hallc⟩:=hcv;obtain ⟨cp,cc,rfl⟩:=za2 hcs;have hcl:=hallc.length;have hgc:cs[((ix:Nat):Int).toNat]?=some (cs[ix]'oM):=gE _;have hRc:=hallc.get hc0 (gE (i:=ix) oM);have hbcs:=za4 hcs oM;generalize cs[ix]'oM=rc at *;obtain ⟨ci,cd,ep,en,ec⟩:=rc;obtain ⟨hci,-,-⟩:=hRc;dsimp only at hci;have hpr:prI L T.length x.id=if jD T.length x.id=0 then [(ci,1)] else []:=by
   unfold prI;rw[hix,zg8,hc0,hci];rfl
  refine kP (tN (sQ (bK (rZ (lU (iA az aw I I hb1 oM sL) (lK (eA eO aw I (za5 (za3 hus hle3)) hgr) (bW (aL zk9) fun b9=>?_)))))));refine oZ (sK 0 aw I I I I I sB) (tZ (rZ (lU (fA am I zT3 I) (lK (qL (v:=vi x.id) iT3 I (cO 0 I I)) (lU (za1 I (buildJ78 _)) (bW (aL zeroValue78) fun b10=>?_))))));refine oZ (sK 0 tQ I I I I I sB) (tZ (sQ (sW I (lU (fA am I zT3 I) (lK (qL (v:=vi x.id) iT3 I (cO 1 I I)) (lW (cL call38 I (jY E g3 _ _ L T x.id hcov hT6 oM hlt62)) ?_))))));rintro _ _ _ ⟨rfl,rfl,rfl⟩;refine yE I (tZ ?_);refine iP I (fun hdeg=>?_) (fun hdeg=>?_)
  ·have hpr1:prI L T.length x.id=[(ci,1)]:=by rw[hpr,zf8 hdeg]
   refine dW [18] [(0,2),(1,2),(2,2),(3,1),(4,2),(5,1),(6,2),(7,2),(8,2),(9,1),(10,2),(11,2),(12,2),(13,1),(14,0),(15,2),(16,0),(17,2),(18,0)] ze1 kR ?_;refine yM I (pU I (nC I) (pU I (fA mB I bG I) (pK I (qL (v:=.slice cp cs.length cc) dg I (cK hbc I)) (pU I (fA am I zT3 I) (pK I (qL (v:=vi x.id) iT3 I (cO 1 I I)) (yM I (pU I (nC I) (pU I (fA mB I zT3 I) (pK I (qL (v:=vi T.length) iT3 I (cK hbc I)) (pU I (SU.eq (v':=vi ix) (SU.shr I I oM) (zd9 vi (by rw[hnat,yO hT6,hix]))) ?_))))))))));refine pU I (iA az aw I I hbcs oM sL) (pU I (fC am I zT3 I hbcs) (pK I (aZ (e:=encCell) (o:=0) (u:=vi ci) iT3 I (za5 hcs) hgc I) (SP.o I (cL call39 I (An E g3 _ 1 dC dC)) dC (.inr iR) ?_)));rintro _ g4 _ ⟨rfl,rfl,hle4⟩;refine pU I (za1 I (build87 _ _ _)) (SP.o I (bS sty76 I I I (ab ⟨I,trivial⟩) dC) dC (.inr iR) ?_);rintro _ _ _ ⟨b50,rfl,rfl,rfl⟩;refine SP.freeze fun g5 hle5 hb50=>?_;have hTm:SlA nj g5 (.slice (some ⟨b50,0,none⟩) 1 1) [(ci,1)]:=SlA.lit hb50 rfl rfl;refine pU I (fA vI I sizeOf76 I) (SP.on I (SO.store1 0 sizeOf76 I I I I (by show 1<2; decide) I) (.inl dC) ?_);rintro _ _ _ ⟨rfl,rfl⟩;refine pN (tN (rG (lU (fA rM I oA I) (lK (qL (v:=ov) isAgg43 I (cO 3 I I)) (lK (qV 0 isAgg78 tQ I I I) (lW (bS sty43 I I I (ab ⟨I,trivial⟩) dC) ?_))))));rintro _ _ _ ⟨b55,rfl,rfl,rfl⟩;refine lW (aP (e:=l8) (l:=acc) 2 ⟨x.id,⟨some ⟨b50,0,none⟩,1,1⟩⟩ sty43 I I I I I oM oM) ?_;rintro v56 _ _ ⟨rfl,rfl⟩;refine zd1 fun ⟨w0,hw0⟩=>?_;obtain ⟨q56,d56,rfl⟩:=ag (e:=l8) (l:=acc++[⟨x.id,⟨some ⟨b50,0,none⟩,1,1⟩⟩]) (i:=2) hw0 rfl;clear hw0 w0;refine lU (fA rM I oA I) (oZ (SO.store1 3 oA I I I I (by show 0<1; decide) I) ?_);refine nL (bN (tN (rG (yD I (lM I (nL (dR (.cons _ (.cons _ (.refl _))) ?_)))))));exact gA (k+1,g5,_,acc++[⟨x.id,⟨some ⟨b50,0,none⟩,1,1⟩⟩]) sB I I ⟨by dsimp only; omega,hle3.trans (hle4.trans hle5),by
    dsimp only;rw[htk,zg3];refine (hacc.mono fun _ _=>ImR.mono (hle4.trans hle5)).append ⟨⟨I,?_⟩,trivial⟩;dsimp only;rw[hpr1];exact hTm⟩ (by dsimp only; omega)
  ·have hpr1:prI L T.length x.id=[]:=by rw[hpr,zf7 hdeg]
   refine kP (tN (rG (lU (fA rM I oA I) (lK (qL (v:=ov) isAgg43 I (cO 3 I I)) (lK (qV 0 isAgg78 tQ I I I) (lW (bS sty43 I I I (ab ⟨I,trivial⟩) dC) ?_))))));rintro _ _ _ ⟨b55,rfl,rfl,rfl⟩;refine lW (aP (e:=l8) (l:=acc) 2 ⟨x.id,⟨none,0,0⟩⟩ sty43 I I I I I oM oM) ?_;rintro v56 _ _ ⟨rfl,rfl⟩;refine zd1 fun ⟨w0,hw0⟩=>?_;obtain ⟨q56,d56,rfl⟩:=ag (e:=l8) (l:=acc++[⟨x.id,⟨none,0,0⟩⟩]) (i:=2) hw0 rfl;clear hw0 w0;refine lU (fA rM I oA I) (oZ (SO.store1 3 oA I I I I (by show 0<1; decide) I) ?_);refine nL (bN (tN (rG (yD I (lM I (nL (dR (.cons _ (.cons _ (.refl _))) ?_)))))));exact gA (k+1,g3,_,acc++[⟨x.id,⟨none,0,0⟩⟩]) sB I I ⟨by dsimp only; omega,hle3,by
    dsimp only;rw[htk,zg3];refine hacc.append ⟨⟨I,?_⟩,trivial⟩;dsimp only;rw[hpr1];exact zb8 _ _⟩ (by dsimp only; omega)
 ·have hke:k=us.length:=oM;subst hke;rw[tL oM] at hacc;refine fS fun g4 hle4 hs4=>?_;obtain ⟨q4,d4,rfl⟩:=Sl.form hs4;refine xI (tX (tX (bX (tN (rZ (lK (qV 0 isAgg45 sizeOf45 I I I) (oZ (sK 1 sizeOf45 I I I I I ⟨I,trivial⟩) (tZ (rE ?_)))))))));exact ST.retCD 1 s (.inl I) results14 I isAgg45 sizeOf45 I I uR ⟨I,hle1.trans (hle2.trans (hle3.trans hle4)),_,I,acc,hs4,hacc.mono fun _ _=>ImR.mono hle4⟩
end Go.Proofs.YtcfkpajlakidbaaGreatDoor
