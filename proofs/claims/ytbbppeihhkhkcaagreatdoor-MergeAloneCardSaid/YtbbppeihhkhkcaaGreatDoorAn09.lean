/- 9 -/
import Derived.Test.YtbbppeihhkhkcaaGreatDoorAn08
import Derived.SizedLaws
set_option linter.unusedSimpArgs false
set_option linter.unusedVariables false
namespace Go.Proofs.YtbbppeihhkhkcaaGreatDoor
open _root_.Go.Proofs.Tryz _root_.Go.Proofs.YtbbppeihhkhkcaaGreatDoor.Tryz
open Go Go.Sy Go.Pl Go.Proofs
set_option maxRecDepth 100000
set_option maxHeartbeats 1000000
theorem DD (E:World)(g0:PH)(bt bu:Nat)(tv uv:Value)(A B:List Cl)(hT:Tab g0 tv A)(hU:Tab g0 uv B)(hA:aJ A)(c6:(A.map Cl.id).Nodup)(h1:g0 bt=some (.cells #[tv] 105 (0,0)))(h2:g0 bu=some (.cells #[uv] 105 (0,0))) :
  tP E (.func (.func 92) #[] #[pp bt 0,pp bu 0]) (vd A B) A g0:=by
 intro g s c r d c3 hc;replace hT:=hT.mono d;replace hU:=hU.mono d;replace h1:=d _ _ h1;replace h2:=d _ _ h2;obtain ⟨rp,f,rfl,c7⟩:=eX hc;refine cz.mk (cap:=[pp bt 0,pp bu 0]) call92 ?_;have a2:=hT;obtain ⟨ba,ma,c9,ra,rfl,a3,a4,d0,H⟩:=hT;obtain ⟨bb,mb,d1,rb,rfl,R,S,d2,J⟩:=hU;have a5:=fun id (h:id∈qm A [c.id])=>D0 h;have L:vd A B c=(qm A [c.id]).all (wY A B):=rfl;generalize hC:qm A [c.id]=C at *;refine zb2 (args:=[rcv ⟨c.id,c.dim,⟨rp,c.sides.length,f⟩⟩,pp bt 0,pp bu 0]) func92 I ntmps92 (bE I)<|rZ (bW (bO I) fun b3=>?_);refine aT I<|sQ<|rZ<|SL.K (qL isAgg105 I<|cK h1 I)<|lU (fA ao I zT3 I)<|SL.K (qL (v:=vi c.id) iT3 I<|cO 0 I I)<|lW (bS sty52 I I I (ab ⟨I,trivial⟩) dC) ?_;rintro _ _ _ ⟨a9,rfl,rfl,rfl⟩;refine zb5 fun g1 q T=>?_;have b0:dp g1 (.slice (some ⟨a9,0,none⟩) 1 1) [c.id]:=SlA.lit T rfl rfl;refine lW (SO.call call93 I<|vJ E g1 _ _ _ A [c.id] (a2.mono q) hA b0 (by simp)) ?_;rintro _ g2 _ ⟨m,rfl,U,rfl⟩;rw[hC];refine SL.freezeMap fun g3 V b1=>?_;obtain ⟨es,clk,o,j⟩:=b1;refine lW (SO.range underlying143 I o) ?_;rintro _ _ _ ⟨it,rfl,rfl,rfl⟩;refine tZ<|bK ?_;have a:=q.trans<|U.trans V;refine oP (ι:=List MapEntry×List (Int×Value)) (fun _=>[(1,pp bt 0),(2,pp bu 0),(13,pp it 0)]) (fun _=>g3)
  (fun i=>iter it m es clk i.1::pt b3 (.cells #[vi c.id,vi c.dim,.slice rp c.sides.length f] 56 (0,0))::s)
  (fun i=>lV (iu C) es i.1 i.2∧∀ p∈i.2,wY A B p.1=true) (fun i=>C.length - i.2.length)
  ([],[]) sB rfl rfl ⟨lV.nil _ _,by simp⟩ ?_
 rintro ⟨vis,vl⟩ ⟨M,b⟩;dsimp only at M b ⊢;have W:=M.len j;simp only[iu,ze8] at W;refine rZ<|lW (SO.nextP 0 I I o j M) ?_;rintro _ _ _ ⟨rfl,N⟩
 rcases N with ⟨rfl,rfl,O⟩ | ⟨e,pr,he,b2,X,Y,t,rfl,rfl⟩
 ·have Z:vd A B c=true:=by
   rw[L,zk2];intro id k;have:(id,vb true)∈iu C:=zf4.2 ⟨id,k,rfl⟩;exact b _<|O.symm.subset this
  exact yX I<|tZ<|sQ<|za1 I<|xI<|tX<|tX<|bX<|tN<|rZ<|aT I<|rE<|dR (s':=s) (.cons _<|.cons _<|.refl _)<|ST.less a<|za8 (.inl I) results92 I ⟨by rw[Z],I,I⟩
 ·obtain ⟨id,k,rfl⟩:=zf4.1 b2;have a0:=t.len j;simp only[iu,ze8,ze7,ze9] at a0;obtain ⟨x,hx⟩:=a5 id k;obtain ⟨b4,c5⟩:=aG hx;have b5:=hA.2 x b4;obtain ⟨y,b7,d3,b8⟩:=dD H gW id;have u:an g ((ah A id).getD aH) y:=b8;rw[hx] at u;obtain ⟨yi,yd,yp,yn,yc⟩:=y;obtain ⟨z,a1,b9,c0⟩:=dD J gW id;obtain ⟨zi,zd,zp,zn,zc⟩:=z;have D:(ex (rb.map aq) id).isSome=(ah B id).isSome:=b9;have F:an g ((ah B id).getD aH) ⟨zi,zd,zp,zn,zc⟩:=c0;cases l:ah B id with
  | none =>
   have n:vd A B c=false:=by
    rw[L,List.all_eq_false];exact⟨id,k,by unfold wY; rw[l]; simp⟩
   refine yX I<|tZ<|sQ<|za2 I<|kP<|tN<|bK<|rZ<|SL.K (SQ.entryP 0 I I o j he X Y)<|yX I<|aT I<|rZ<|SL.K (qL isAgg105 I<|cK (a _ _ h2) I)<|lU (nC I)<|lU (fA kI I jx I)<|SL.K (qL jB I<|cK (a _ _ R) I)<|lM I<|SL.K (SQ.eq (v':=.tuple #[rcv ⟨zi,zd,zp,zn,zc⟩,vb false]) (SQ.lookupOk mty125 I I<|bh.known<|S.mono a) (by rw[a1,D,l]; rfl)) ?_;refine lM I (yX I<|yX I<|bW (aL zl7) fun b6=>?_);refine oZ (sK 0 aw I I I I I sB)<|aT I<|sQ<|dW [] [(0,2),(1,2),(2,2),(3,1),(4,2),(5,2),(6,1),(7,2),(8,1),(9,1),(10,0),(11,2),(12,2)] ze5 kR<|yM I<|pU I (SU.not I)<|yM I<|yI I<|yG I<|yG I<|yI I<|yG I<|yI I<|yI I<|fO I (gZ I I I dC) dC ⟨by exact zb9 _,(by exact .refl _)⟩ ?_;refine yG I<|pU I (wT I I)<|pN<|tN<|za2 I<|rZ<|aT I<|rE<|bR<|tR<|bR<|tR ?_;refine dR (s':=s) (.cons _<|.cons _<|.cons _<|.refl _)<|ST.less a ?_;exact za8 (.inl I) results92 I ⟨by rw[n],I,I⟩
  | some w =>
   rw[l] at F;have c1:an g w ⟨zi,zd,zp,zn,zc⟩:=F;have G:wY A B id=decide (x=w):=by unfold wY; rw[l,hx]; rfl
   refine yX I<|tZ<|sQ<|za2 I<|kP<|tN<|bK<|rZ<|SL.K (SQ.entryP 0 I I o j he X Y)<|yX I<|aT I<|rZ<|SL.K (qL isAgg105 I<|cK (a _ _ h2) I)<|lU (nC I)<|lU (fA kI I jx I)<|SL.K (qL jB I<|cK (a _ _ R) I)<|lM I<|SL.K (SQ.eq (v':=.tuple #[rcv ⟨zi,zd,zp,zn,zc⟩,vb true]) (SQ.lookupOk mty125 I I<|bh.known<|S.mono a) (by rw[a1,D,l]; rfl)) ?_;refine lM I (yX I<|yX I<|bW (aL zl7) fun b6=>?_);refine oZ (sK 0 aw I I I I I sB)<|aT I<|sQ<|dW [] [(0,2),(1,2),(2,2),(3,1),(4,2),(5,2),(6,1),(7,2),(8,1),(9,1),(10,0),(11,2),(12,2)] ze5 kR<|yM I<|pU I (SU.not I)<|yM I<|SP.gq I (gT I I I dC) (qL isAgg105 I<|cK (a _ _ h1) I) dC<|zb3 I (gT I I I dC) (nC I) dC<|zb3 I (gT I I I dC) (fA kI I jx I) dC<|SP.gq I (gT I I I dC) (qL jB I<|cK (a _ _ a3) I) dC<|yJ I<|SP.gq I (gT I I I dC) (SQ.eq (v':=rcv ⟨yi,yd,yp,yn,yc⟩) (SQ.lookup mty125 I I<|bh.known<|a4.mono a)<|by rw[b7]) dC ?_;refine SP.gq I (gT I I I dC) (qV 0 dT aw I I I) dC<|SP.go I (gT I I I dC) (SO.call call82 I<|ud E g3 _ x w ⟨yi,yd,yp,yn,yc⟩ ⟨zi,zd,zp,zn,zc⟩ (u.mono a) (c1.mono a) b5) dC (.inr iR) ?_;rintro _ _ _ ⟨rfl,rfl,rfl⟩;refine zb3 I (gT I I I dC) (SU.notP I) dC<|pU I (wF I I)<|pN<|tN ?_;refine iP I (fun P=>?_) (fun P=>?_)
   ·have n:vd A B c=false:=by
     rw[L,List.all_eq_false];exact⟨id,k,by rw[G]; simpa using P⟩
    exact rZ<|aT I<|rE<|bR<|tR<|bR<|tR<|dR (s':=s) (.cons _<|.cons _<|.cons _<|.refl _)<|ST.less a<|za8 (.inl I) results92 I ⟨by rw[n],I,I⟩
   ·have c2:x=w:=zh2 P;refine kP (bN (dR (s':=iter it m es clk (vis++[e])::pt b3 (.cells #[vi c.id,vi c.dim,.slice rp c.sides.length f] 56 (0,0))::s) (.cons _ (.refl _)) ?_));exact ST.again (vis++[e],vl++[(id,vb true)]) sB I I ⟨t,fun p Q=>by
     rcases zf5.1 Q with Q | Q
     ·exact b p Q
     ·simp at Q; subst Q; rw[G]; simpa using c2⟩ lN
theorem DC (E:World)(g:PH)(s:Own)(v u:Value)(a b:List Cl)(D:ai g v a)(F:ai g u b)(G:aJ a)(hb:aJ b) :
  Ctr Tryz.prog E 24 #[.agg #[v],.agg #[u]] g s (fun r g' s'=>s=s'∧Le g g'∧∃ x,r = .agg #[x]∧fV (mns g' g) x (mB (am a)<|am b)):=by
 obtain ⟨p1,c1,rfl⟩:=D.form;obtain ⟨p2,c2,rfl⟩:=F.form;have w:=bT G;have y:=iW a;refine zb2 (args:=[.agg #[.slice p1 a.length c1],.agg #[.slice p2 b.length c2]]) func24 I ntmps24 (bE I)<|rZ (bW (bO I) fun b2=>?_);refine bW (bO I) fun b3=>bW (aL zl9) fun b4=>tZ<|SC.cut (ι:=Nat×Nat×Value×Value×PH) (fun i=>[(2,pp b2 0),(3,pp b3 0),(4,pp b4 0),(5,pp i.1 0),(6,pp i.2.1 0)]) (fun i=>i.2.2.2.2)
  (fun i=>pt i.2.1 (.cells #[i.2.2.2.1] 105 (0,0))::pt i.1 (.cells #[i.2.2.1] 105 (0,0))::pt b4 (.cells #[.slice none 0 0] 29 (0,0))::pt b3 (.cells #[.slice p2 b.length c2] 29 (0,0))::pt b2 (.cells #[.slice p1 a.length c1] 29 (0,0))::s)
  (fun i=>Le g i.2.2.2.2∧C2 (em<|mns i.2.2.2.2 g) i.2.2.2.2 i.2.2.1 (am a)∧Tab i.2.2.2.2 i.2.2.2.1 (am b)) ?_ ?_
 ·refine SC.drawX [] ze5 kR ?_;refine SX.q (i:=0) I kR (qV 2 aj ae I I I) dC<|SX.q (i:=2) I kR (qV 1 aj ae I I I) dC ?_
  repeat' (first
   | ((with_reducible refine SB.k 7 ?_); first | (refine SB.on (i:=7) rfl (sK 0 sizeOf105 rfl rfl rfl rfl rfl sB) (.inr (by rintro _ _ _ ⟨rfl,rfl⟩; exact⟨by exact Le.trans (by assumption) (by assumption),(by exact .cons _<|.cons _<|.refl _)⟩)) ?_; rintro _ _ _ ⟨rfl,rfl⟩) | (refine SB.on (i:=7) rfl (sK 1 sizeOf105 rfl rfl rfl rfl rfl sB) (.inr (by rintro _ _ _ ⟨rfl,rfl⟩; exact⟨by exact Le.trans (by assumption) (by assumption),(by exact .cons _<|.cons _<|.refl _)⟩)) ?_; rintro _ _ _ ⟨rfl,rfl⟩))
   | ((with_reducible refine SB.k 6 ?_); first | (refine SB.on (i:=6) rfl (sK 1 sizeOf105 rfl rfl rfl rfl rfl sB) (.inr (by rintro _ _ _ ⟨rfl,rfl⟩; exact⟨by exact Le.trans (by assumption) (by assumption),(by exact .cons _<|.cons _<|.refl _)⟩)) ?_; rintro _ _ _ ⟨rfl,rfl⟩) | (refine SB.on (i:=6) rfl (sK 0 sizeOf105 rfl rfl rfl rfl rfl sB) (.inr (by rintro _ _ _ ⟨rfl,rfl⟩; exact⟨by exact Le.trans (by assumption) (by assumption),(by exact .cons _<|.cons _<|.refl _)⟩)) ?_; rintro _ _ _ ⟨rfl,rfl⟩))
   | ((with_reducible refine SB.k 5 ?_); first | (refine SB.o (i:=5) rfl (aL zl3) dC (.inr (by rintro _ _ _ ⟨b6,rfl,rfl,rfl⟩; exact⟨by assumption,(by exact .cons _<|.refl _)⟩)) ?_; rintro _ _ _ ⟨b6,rfl,rfl,rfl⟩) | (refine SB.o (i:=5) rfl (aL zl3) dC (.inr (by rintro _ _ _ ⟨b6,rfl,rfl,rfl⟩; exact⟨by exact zb9 _,(by exact .cons _<|.refl _)⟩)) ?_; rintro _ _ _ ⟨b6,rfl,rfl,rfl⟩) | (refine SB.o (i:=5) rfl (aL zl3) dC (.inr (by rintro _ _ _ ⟨b6,rfl,rfl,rfl⟩; exact⟨by assumption,(by exact .cons _<|.cons _<|.refl _)⟩)) ?_; rintro _ _ _ ⟨b6,rfl,rfl,rfl⟩) | (refine SB.o (i:=5) rfl (aL zl3) dC (.inr (by rintro _ _ _ ⟨b6,rfl,rfl,rfl⟩; exact⟨by exact zb9 _,(by exact .cons _<|.cons _<|.refl _)⟩)) ?_; rintro _ _ _ ⟨b6,rfl,rfl,rfl⟩) | (refine SB.o (i:=5) rfl (aL zl3) dC (.inr (by rintro _ _ _ ⟨b6,rfl,rfl,rfl⟩; exact⟨by exact Le.trans (by assumption) (by assumption),(by exact .cons _<|.refl _)⟩)) ?_; rintro _ _ _ ⟨b6,rfl,rfl,rfl⟩) | (refine SB.o (i:=5) rfl (aL zl3) dC (.inr (by rintro _ _ _ ⟨b6,rfl,rfl,rfl⟩; exact⟨by exact Le.trans (by assumption) (by assumption),(by exact .cons _<|.cons _<|.refl _)⟩)) ?_; rintro _ _ _ ⟨b6,rfl,rfl,rfl⟩))
   | ((with_reducible refine SB.k 4 ?_); first | (refine SB.o (i:=4) rfl (aL zl3) dC (.inr (by rintro _ _ _ ⟨b5,rfl,rfl,rfl⟩; exact⟨by assumption,(by exact .cons _<|.refl _)⟩)) ?_; rintro _ _ _ ⟨b5,rfl,rfl,rfl⟩) | (refine SB.o (i:=4) rfl (aL zl3) dC (.inr (by rintro _ _ _ ⟨b5,rfl,rfl,rfl⟩; exact⟨by exact zb9 _,(by exact .cons _<|.refl _)⟩)) ?_; rintro _ _ _ ⟨b5,rfl,rfl,rfl⟩) | (refine SB.o (i:=4) rfl (aL zl3) dC (.inr (by rintro _ _ _ ⟨b5,rfl,rfl,rfl⟩; exact⟨by assumption,(by exact .cons _<|.cons _<|.refl _)⟩)) ?_; rintro _ _ _ ⟨b5,rfl,rfl,rfl⟩) | (refine SB.o (i:=4) rfl (aL zl3) dC (.inr (by rintro _ _ _ ⟨b5,rfl,rfl,rfl⟩; exact⟨by exact zb9 _,(by exact .cons _<|.cons _<|.refl _)⟩)) ?_; rintro _ _ _ ⟨b5,rfl,rfl,rfl⟩) | (refine SB.o (i:=4) rfl (aL zl3) dC (.inr (by rintro _ _ _ ⟨b5,rfl,rfl,rfl⟩; exact⟨by exact Le.trans (by assumption) (by assumption),(by exact .cons _<|.refl _)⟩)) ?_; rintro _ _ _ ⟨b5,rfl,rfl,rfl⟩) | (refine SB.o (i:=4) rfl (aL zl3) dC (.inr (by rintro _ _ _ ⟨b5,rfl,rfl,rfl⟩; exact⟨by exact Le.trans (by assumption) (by assumption),(by exact .cons _<|.cons _<|.refl _)⟩)) ?_; rintro _ _ _ ⟨b5,rfl,rfl,rfl⟩))
   | ((with_reducible refine SB.k 3 ?_); first | (refine SB.o (i:=3) rfl (SO.call call52 rfl<|od E g1 _ _ b (F.mono e) hb) dC (.inr (by rintro uv g2 _ ⟨rfl,c,j⟩; exact⟨by exact Le.trans (by assumption) (by assumption),(by exact .refl _)⟩)) ?_; rintro uv g2 _ ⟨rfl,c,j⟩; obtain ⟨bu,rfl⟩:=j.ptr) | (refine SB.o (i:=3) rfl (SO.call call52 rfl<|od E g1 _ _ b (F.mono e) hb) dC (.inr (by rintro uv g2 _ ⟨rfl,c,j⟩; exact⟨by exact Le.trans (by assumption) (by assumption),(by exact .cons _<|.refl _)⟩)) ?_; rintro uv g2 _ ⟨rfl,c,j⟩; obtain ⟨bu,rfl⟩:=j.ptr) | (refine SB.o (i:=3) rfl (SO.call call52 rfl<|od E g1 _ _ b (F.mono e) hb) dC (.inr (by rintro uv g2 _ ⟨rfl,c,j⟩; exact⟨by exact Le.trans (by assumption) (by assumption),(by exact .cons _<|.cons _<|.refl _)⟩)) ?_; rintro uv g2 _ ⟨rfl,c,j⟩; obtain ⟨bu,rfl⟩:=j.ptr))
   | ((with_reducible refine SB.k 1 ?_); first | (refine SB.o (i:=1) rfl (SO.call call52 rfl<|wj E g _ _ a D G) dC (.inr (by rintro tv g1 _ ⟨rfl,e,f⟩; exact⟨by assumption,(by exact .refl _)⟩)) ?_; rintro tv g1 _ ⟨rfl,e,f⟩; have t:Tab g1 tv (am a):=f.mono (zb9 _) fun _ _=>em.cr<|fw _ _; obtain ⟨bt,rfl⟩:=t.ptr) | (refine SB.o (i:=1) rfl (SO.call call52 rfl<|wj E g _ _ a D G) dC (.inr (by rintro tv g1 _ ⟨rfl,e,f⟩; exact⟨by assumption,(by exact .cons _<|.refl _)⟩)) ?_; rintro tv g1 _ ⟨rfl,e,f⟩; have t:Tab g1 tv (am a):=f.mono (zb9 _) fun _ _=>em.cr<|fw _ _; obtain ⟨bt,rfl⟩:=t.ptr) | (refine SB.o (i:=1) rfl (SO.call call52 rfl<|wj E g _ _ a D G) dC (.inr (by rintro tv g1 _ ⟨rfl,e,f⟩; exact⟨by assumption,(by exact .cons _<|.cons _<|.refl _)⟩)) ?_; rintro tv g1 _ ⟨rfl,e,f⟩; have t:Tab g1 tv (am a):=f.mono (zb9 _) fun _ _=>em.cr<|fw _ _; obtain ⟨bt,rfl⟩:=t.ptr))
   | ((with_reducible refine SX.k 5 ?_); first | refine zd8 1 5 kD ?_ ?_ | refine zd8 1 4 kD ?_ ?_ | refine SX.br3 3 4 5 kD ?_ ?_ ?_)
   | ((with_reducible refine SX.k 4 ?_); first | refine zd7 1 kD ?_ | refine zd8 4 5 kD ?_ ?_ | refine zd8 3 5 kD ?_ ?_ | refine zd8 3 4 kD ?_ ?_)
   | ((with_reducible refine SX.k 3 ?_); first | refine zd7 5 kD ?_ | refine zd7 4 kD ?_ | refine zd7 3 kD ?_)
   | ((with_reducible refine SX.k 2 ?_); refine zd7 6 kD ?_)
   | ((with_reducible refine SX.k 1 ?_); refine zd7 7 kD ?_)
   | ((with_reducible refine SX.k 0 ?_); refine SX.nil kD ?_; first | exact za9 (b5,b6,pp bt 0,pp bu 0,g2) sB rfl rfl ⟨e.trans c,f.mono c fun _ _=>em.mono<|ik c,j⟩ | (refine ST.perm (zk3 _ _ _) ?_; exact za9 (b5,b6,pp bt 0,pp bu 0,g2) sB I I ⟨e.trans c,f.mono c fun _ _=>em.mono<|ik c,j⟩))
   | (refine SX.k 6 ?_; refine SX.br3 1 4 5 kD ?_ ?_ ?_))
 rintro ⟨b5,b6,tv,uv,g2⟩ ⟨z,f,j⟩;dsimp only at z f j ⊢;have t:Tab g2 tv (am a):=f.mono (zb9 _) fun _ _=>em.cr<|fw _ _;refine SC.freeze fun g3 m H=>?_;refine SC.freeze fun g4 l A=>?_;have n:=z.trans<|m.trans l;have J:=t.mono<|m.trans l;have B:=j.mono<|m.trans l;refine rZ<|SL.K (qL isAgg105 I<|cK A I)<|lU (SU.mkFunc I)<|lW (SO.call call91 I<|xZ (em<|mns g2 g) E g4 _ _ _ (am a) (vd (am a)<|am b) (fun _ _ h=>em.cr ((fw _ _).trans<|m.trans l) h) (f.mono (m.trans l) fun _ _ h=>h) y w<|DD E g4 b5 b6 _ _ _ _ J B w y A<|l _ _ H) ?_;rintro _ g5 _ ⟨rfl,p,x,L,rfl,C,M⟩;have N:fV (mns g5 g) x _:=⟨L,C.mono<|jU n,M.mono fun _ _=>em.mono<|ik<|(m.trans l).trans p⟩;obtain ⟨q,d,rfl⟩:=C.form;exact oZ (sK 0 ae I I I I I sB)<|tZ<|rE<|ST.retCD 0 s (.inl I) results24 I aj ae I I uR ⟨I,n.trans p,_,I,N⟩
theorem B7 (E:World)(g:PH)(s:Own)(v u:Value)(a b:List Cl)(c:ai g v a)(d:ai g u b)(e:aJ a)(hb:aJ b) :
  Ctr Tryz.prog E 24 #[.agg #[v],.agg #[u]] g s (fun r g' s'=>s=s'∧Le g g'∧∃ x,r = .agg #[x]∧ai g' x (mB (am a)<|am b)) :=
 (DC E g s v u a b c d e hb).mono fun _ _ _ ⟨f,h,x,i,j⟩=>⟨f,h,x,i,j.cells<|fw _ _⟩
theorem Tryz.sty161:STy Tryz.prog 161 4 1 1 (vb false):=⟨underlying161,⟨t4,by kernel_rfl,by kernel_rfl,by kernel_rfl,by kernel_rfl⟩,rfl,by decide⟩
def i9:Enc Bool 1:=⟨fun n=>[vb n],fun _=>rfl,fun _ u hu=>by simp at hu; subst hu; rfl,by decide⟩
def gN (A:List Cl)(m:List Int):List Bool:=A.map fun c=>m.contains c.id
theorem Cv (A:List Cl):gN A []=List.replicate A.length false:=by
 unfold gN;induction A with
 | nil=>rfl
 | cons d t ih=>simp[List.replicate_succ] at ih ⊢; exact ih
theorem Cw {A:List Cl}{m:List Int}{k:Nat}{c:Cl}(h:A[k]?=some c):(gN A m)[k]?=some (m.contains c.id):=by simp[gN,h]
theorem Cu {A:List Cl}{m:List Int}{k:Nat}{c:Cl}(hn:(A.map Cl.id).Nodup)(h:A[k]?=some c):(gN A m).set k true=gN A (m++[c.id]):=by
 obtain ⟨g,i⟩:=zf7.1 h;apply List.ext_getElem?;intro q;rw[List.getElem?_set];unfold gN;simp only[zi2,ze8];split
 ·rename_i e;subst e;simp[g,i]
 ·rename_i a;cases f:A[q]? with
  | none=>rfl
  | some d =>
   obtain ⟨j,l⟩:=zf7.1 f;have hd:¬ d.id=c.id:=fun e=>by
    have n:(A.map Cl.id)[q]?=some c.id:=by simp[f,e]
    have o:(A.map Cl.id)[k]?=some c.id:=by simp[h]
    obtain ⟨i1,e1⟩:=zf7.1 n;obtain ⟨i2,e2⟩:=zf7.1 o
    rcases Nat.lt_or_gt_of_ne a with b | b
    ·exact zd1.1 hn k q i2 i1 b<|e2.trans e1.symm
    ·exact zd1.1 hn q k i1 i2 b<|e1.trans e2.symm
   simp[hd]
def Az (L:List (Int×List ak)):List (Int×Int):=L.foldl (fun zl p=>p.2.foldl (fun zl r=>fx zl r.cell<|p.1 * r.sign) zl) []
def EB (L:List (Int×List ak)):List (Int×List Int):=L.zipIdx.foldl (fun ml p=>p.1.2.foldl (fg p.2) ml) []
def mH (L:List (Int×List ak)):Int :=
 if (Az L).any (fun p=>decide (p.2≠0)) then 24
 else if (EB L).any (fun p=>decide ((p.2.length:Int)≠2)) then 25
 else if ((jz<|dF<|EB L).length:Int)≠L.length then 25 else 0
def qk (tl:List Cl)(c:Cl):List (Int×List ak):=c.sides.map fun x=>(x.sign,ay tl x)
theorem CF (tl:List Cl)(c:Cl):bC tl c=mH (qk tl c):=by
 have a:fy tl c.sides=Az (qk tl c):=by
  unfold fy Az qk;rw[List.foldl_map];rfl
 have b:e8 tl c.sides=EB (qk tl c):=by
  unfold e8 EB qk;rw[List.zipIdx_map,List.foldl_map];rfl
 have d:(qk tl c).length=c.sides.length:=by simp[qk]
 unfold bC mH;rw[a,b,d]
def CX (φ:Int→Int)(r:ak):ak:=⟨φ r.cell,r.sign⟩
def xE (φ:Int→Int)(L:List (Int×List ak)):List (Int×List ak):=L.map fun p=>(p.1,p.2.map<|CX φ)
def AD (L:List (Int×List ak)):List Int:=L.flatMap fun p=>p.2.map ak.cell
def lL {α:Type}(φ:Int→Int)(zl:List (Int×α)):List (Int×α):=zl.map fun p=>(φ p.1,p.2)
section
variable {φ:Int→Int}{K:Int→Prop}(hφ:∀ a b,K a→K b→φ a=φ b→a=b)
include hφ
theorem D9 {zl:List (Int×Int)}{k:Int}(x:Int)(hz:∀ p∈zl,K p.1)(b:K k):fx (lL φ zl) (φ k) x=lL φ (fx zl k x):=by
 induction zl with
 | nil=>rfl
 | cons p r ih =>
  obtain ⟨a,z⟩:=p;have c:=hz (a,z) (by simp);simp only[lL,zg6,fx] at ih ⊢;by_cases h:k=a
  ·subst h; simp
  ·rw[zg2 h,zg2 fun e=>h<|hφ k a b c e];simp only[zg6];rw[ih fun p d=>hz p (by simp[d])]
theorem Eb {zl:List (Int×List Int)}{k:Int}(x:Int)(hz:∀ p∈zl,K p.1)(b:K k):gJ (lL φ zl) (φ k) x=lL φ (gJ zl k x):=by
 induction zl with
 | nil=>rfl
 | cons p r ih =>
  obtain ⟨a,z⟩:=p;have c:=hz (a,z) (by simp);simp only[lL,zg6,gJ] at ih ⊢;by_cases h:k=a
  ·subst h; simp
  ·rw[zg2 h,zg2 fun e=>h<|hφ k a b c e];simp only[zg6];rw[ih fun p d=>hz p (by simp[d])]
omit hφ in
theorem Ea {zl:List (Int×Int)}{k x:Int}(hz:∀ p∈zl,K p.1)(d:K k):∀ p∈fx zl k x,K p.1:=by
 induction zl with
 | nil=>intro p b; simp[fx] at b; subst b; exact d
 | cons q r ih =>
  obtain ⟨a,z⟩:=q;have c:=hz (a,z) (by simp);intro p b;simp only[fx] at b;split at b
  ·rcases zf3.1 b with rfl | b
   ·exact c
   ·exact hz p (by simp[b])
  ·rcases zf3.1 b with rfl | b
   ·exact c
   ·exact ih (fun p b=>hz p<|by simp[b]) p b
omit hφ in
theorem Ec {zl:List (Int×List Int)}{k x:Int}(hz:∀ p∈zl,K p.1)(d:K k):∀ p∈gJ zl k x,K p.1:=by
 induction zl with
 | nil=>intro p b; simp[gJ] at b; subst b; exact d
 | cons q r ih =>
  obtain ⟨a,z⟩:=q;have c:=hz (a,z) (by simp);intro p b;simp only[gJ] at b;split at b
  ·rcases zf3.1 b with rfl | b
   ·exact c
   ·exact hz p (by simp[b])
  ·rcases zf3.1 b with rfl | b
   ·exact c
   ·exact ih (fun p b=>hz p<|by simp[b]) p b
theorem tY (t:Int):∀ (l:List ak) (zl:List (Int×Int)),(∀ r∈l,K r.cell)→(∀ p∈zl,K p.1) →
  (l.map<|CX φ).foldl (fun zl r=>fx zl r.cell<|t * r.sign) (lL φ zl)=lL φ (l.foldl (fun zl r=>fx zl r.cell<|t * r.sign) zl)∧∀ p∈l.foldl (fun zl r=>fx zl r.cell<|t * r.sign) zl,K p.1
 | [],zl,_,hz=>⟨rfl,hz⟩
 | r::l,zl,hl,hz=>by
  have hr:=hl r (by simp);have:=tY t l (fx zl r.cell<|t * r.sign) (fun q a=>hl q<|by simp[a])<|Ea hz hr;simp only[zg6,zj1];rw[show (CX φ r).cell=φ r.cell from rfl,show (CX φ r).sign=r.sign from rfl,D9 hφ _ hz hr];exact this
theorem yf (t:Int):∀ (l:List ak) (zl:List (Int×List Int)),(∀ r∈l,K r.cell)→(∀ p∈zl,K p.1) →
  (l.map<|CX φ).foldl (fg t) (lL φ zl)=lL φ (l.foldl (fg t) zl)∧∀ p∈l.foldl (fg t) zl,K p.1
 | [],zl,_,hz=>⟨rfl,hz⟩
 | r::l,zl,hl,hz=>by
  have hr:=hl r (by simp);have:=yf t l (gJ zl r.cell t) (fun q a=>hl q<|by simp[a])<|Ec hz hr;simp only[zg6,zj1];rw[show fg t (lL φ zl) (CX φ r)=lL φ (gJ zl r.cell t) from Eb hφ _ hz hr];exact this
theorem xJ:∀ (L:List (Int×List ak)) (zl:List (Int×Int)),(∀ k∈AD L,K k)→(∀ p∈zl,K p.1) →
  (xE φ L).foldl (fun zl p=>p.2.foldl (fun zl r=>fx zl r.cell<|p.1 * r.sign) zl) (lL φ zl)=lL φ (L.foldl (fun zl p=>p.2.foldl (fun zl r=>fx zl r.cell<|p.1 * r.sign) zl) zl)
 | [],_,_,_=>rfl
 | p::L,zl,hl,hz=>by
  obtain ⟨a,b⟩:=tY hφ p.1 p.2 zl (fun r hr=>hl _<|List.mem_flatMap.2 ⟨p,by simp,zf4.2 ⟨r,hr,rfl⟩⟩) hz;simp only[xE,zg6,zj1] at a ⊢;rw[a];exact xJ L _ (fun k c=>hl k (by simp only[AD,zh7,zf5]; exact .inr c)) b
theorem A6:∀ (L:List (Int×List ak)) (i:Nat) (zl:List (Int×List Int)),(∀ k∈AD L,K k)→(∀ p∈zl,K p.1) →
  ((xE φ L).zipIdx i).foldl (fun ml p=>p.1.2.foldl (fg p.2) ml) (lL φ zl)=lL φ ((L.zipIdx i).foldl (fun ml p=>p.1.2.foldl (fg p.2) ml) zl)
 | [],_,_,_,_=>rfl
 | p::L,i,zl,hl,hz=>by
  obtain ⟨a,b⟩:=yf hφ i p.2 zl (fun r hr=>hl _<|List.mem_flatMap.2 ⟨p,by simp,zf4.2 ⟨r,hr,rfl⟩⟩) hz;simp only[xE,zg6,List.zipIdx_cons,zj1] at a ⊢;rw[a];exact A6 L (i+1) _ (fun k c=>hl k (by simp only[AD,zh7,zf5]; exact .inr c)) b
end
theorem Br {α:Type}(φ:Int→Int)(zl:List (Int×α))(q:α→Bool):(lL φ zl).any (fun p=>q p.2)=zl.any (fun p=>q p.2):=by
 simp only[lL,List.any_map];rfl
theorem DJ (φ:Int→Int)(ml:List (Int×List Int)):dF (lL φ ml)=dF ml:=by
 simp only[dF,lL,List.foldl_map];rfl
theorem xw {φ:Int→Int}{L:List (Int×List ak)}(hφ:∀ a∈AD L,∀ b∈AD L,φ a=φ b→a=b):mH (xE φ L)=mH L:=by
 have d:Az (xE φ L)=lL φ (Az L):=xJ (K:=fun k=>k∈AD L) (fun a b c hb=>hφ a c b hb) L [] (fun _ h=>h) (by simp);have e:EB (xE φ L)=lL φ (EB L):=A6 (K:=fun k=>k∈AD L) (fun a b c hb=>hφ a c b hb) L 0 [] (fun _ h=>h) (by simp);unfold mH;rw[d,e,Br φ _ fun z=>decide (z≠0),Br φ _ fun l:List Int=>decide ((l.length:Int)≠2),DJ];have f:(xE φ L).length=L.length:=by simp[xE]
 rw[f]
def code (k q:Nat):Int:=if q<k then ((q * 16+k:Nat):Int) else ((k * 16+(q+1):Nat):Int)
def FU (n:Nat):List (Int×List ak):=(List.range n).reverse.map fun k:Nat=>(dz k,(List.range<|n - 1).reverse.map fun q:Nat=>⟨code k q,dz q⟩)
theorem Ff:∀ n,n<10→2<n→mH (FU n)=0:=by decide +kernel
theorem iY (b:Nat)(a:Int)(l:List Int):eV b (a::l)=(if b % 2=1 then [a] else [])++eV (b / 2) l:=by
 unfold eV;have hz:∀ (l:List Int) (i:Nat),((l.zipIdx<|i+1).filter fun p=>b / 2 ^ p.2 % 2 == 1).map (·.1)=((l.zipIdx i).filter fun p=>b / 2 / 2 ^ p.2 % 2 == 1).map (·.1):=by
  intro l;induction l with
  | nil=>intro i; rfl
  | cons x r ih =>
   intro i;have c:b / 2 ^ (i+1)=b / 2 / 2 ^ i:=by rw[Nat.pow_succ,Nat.mul_comm,Nat.div_div_eq_div_mul]
   simp only[List.zipIdx_cons,zi9,c];have:=ih<|i+1;split
   ·simp only[zg6,this]
   ·exact this
 simp only[List.zipIdx_cons,zi9,Nat.pow_zero,Nat.div_one];by_cases h:b % 2=1
 ·simp only[h,if_true,beq_self_eq_true,zg6];rw[hz l 0];rfl
 ·have d:(b % 2 == 1)=false:=by simpa using h
  simp only[h,d,if_false,Bool.false_eq_true];rw[hz l 0];rfl
theorem BU (l:List Int):∀ b,(eV b l).Sublist l:=by
 induction l with
 | nil=>intro b; exact .slnil
 | cons a r ih =>
  intro b;rw[iY];split
  ·exact (ih _).cons_cons a
  ·exact (ih _).cons a
theorem Dt (l:List Int):∀ b,b≠0→b<2 ^ l.length→eV b l≠[]:=by
 induction l with
 | nil=>intro b c h; simp at h; exact absurd h c
 | cons a r ih =>
  intro b c h;rw[iY];split
  ·simp
  ·rename_i d;rw[zf1,Nat.pow_succ] at h;simpa using ih (b / 2) oM oM
theorem wP {x l:List Int}(h:x.Sublist l):∃ b,b<2 ^ l.length∧eV b l=x:=by
 induction h with
 | slnil=>exact⟨0,by simp,rfl⟩
 | cons a _ ih =>
  obtain ⟨b,hb,e⟩:=ih;refine⟨2 * b,by rw[zf1,Nat.pow_succ]; omega,?_⟩;rw[iY,zg2 oM,show 2 * b / 2=b by omega,e];rfl
 | cons_cons a _ ih =>
  obtain ⟨b,hb,e⟩:=ih;refine⟨2 * b+1,by rw[zf1,Nat.pow_succ]; omega,?_⟩;rw[iY,zg3 oM,show (2 * b+1) / 2=b by omega,e];rfl
theorem j8 (t x:List Int):x∈bL t↔x.Sublist t∧x≠[]:=by
 unfold bL;constructor
 ·intro h;obtain ⟨i,d,rfl⟩:=zf4.1 h;have:=List.mem_range.1 d;exact⟨BU _ _,Dt _ _ oM oM⟩
 ·rintro ⟨h,c⟩;obtain ⟨b,hb,rfl⟩:=wP h;have f:b≠0:=fun e=>by
   subst e;apply c;have:∀ l:List Int,eV 0 l=[]:=by
    intro l;induction l with
    | nil=>rfl
    | cons a r ih=>rw[iY]; simpa using ih
   exact this t
  exact zf4.2 ⟨b - 1,List.mem_range.2 oM,by rw[show b - 1+1=b by omega]⟩
structure iC (all:List (List Int)):Prop where
 strict:e6 all
 form:∀ s∈all,s≠[]∧ec s∧s.length≤9
 faces:∀ s∈all,2≤s.length→∀ k,k<s.length→s.eraseIdx k∈all
theorem iC.nil:iC []:=⟨List.Pairwise.nil,by simp,by simp⟩
theorem iC.add {all:List (List Int)}{t:List Int}(h:iC all)(f:ec t)(hl:t.length≤9):iC (eI all t):=by
 refine⟨kT all t,fun s c=>?_,fun s c b k d=>?_⟩
 ·rcases (jq all t s).1 c with a | a
  ·exact h.form s a
  ·obtain ⟨b,g⟩:=(j8 t s).1 a;exact⟨g,f.sublist b,zk9 b.length_le hl⟩
 ·refine (jq all t _).2 ?_
  rcases (jq all t s).1 c with a | a
  ·exact .inl<|h.faces s a b k d
  ·refine .inr<|(j8 t _).2 ⟨(List.eraseIdx_sublist s k).trans ((j8 t s).1 a).1,fun e=>?_⟩;have:=ze4 List.length e;rw[List.length_eraseIdx] at this;simp[d] at this;omega
theorem ix:∀ (ls acc:List (List Int)) {all:List (List Int)},aW acc ls=some all→iC acc→acc.length≤4000→iC all∧all.length≤4000
 | [],acc,all,h,hg,hl=>by cases h; exact⟨hg,hl⟩
 | s::r,acc,all,h,hg,hl=>by
  unfold aW at h;split at h
  ·exact ix r acc h hg hl
  ·rename_i hb;split at h
   ·cases h
   ·rename_i b;refine ix r _ h (hg.add (lg s) ?_) oM;cases c:dA s with
    | nil=>simp
    | cons a q =>
     rw[c] at hb;simp[jC] at hb;simp;omega
section
variable {all:List (List Int)}(hg:iC all)
include hg
theorem iC.get_lb {t:List Int}(c:t∈all):all[lbL all t]?=some t:=by
 obtain ⟨d,a⟩:=oH t hg.strict.srt;have f:e6 (all.take (lbL all t)++all.drop (lbL all t)):=by rw[zj4]; exact hg.strict
 have hd:=(List.pairwise_append.1 f).2.1;have hm:t∈all.drop (lbL all t):=by
  have:t∈all.take (lbL all t)++all.drop (lbL all t):=by rw[zj4]; exact c
  rcases zf5.1 this with h | h
  ·have:=d t h;rw[cH] at this;exact absurd this dC
  ·exact h
 have e:all[lbL all t]?=(all.drop<|lbL all t)[0]?:=by simp
 rw[e];cases b:all.drop (lbL all t) with
 | nil=>rw[b] at hm; simp at hm
 | cons y r =>
  rw[b] at hm hd a
  rcases zf3.1 hm with rfl | hm
  ·rfl
  ·exact absurd ((zk5.1 hd).1 t hm) (a y<|by simp)
theorem iC.lb_get {k:Nat}(b:k<all.length):lbL all all[k]=k:=by
 have e:=hg.get_lb<|gM b;obtain ⟨c,d⟩:=zf7.1 e;have a:¬ ar all[k] all[k]<0:=by rw[cH]; decide
 rcases Nat.lt_trichotomy (lbL all all[k]) k with h | h | h
 ·have:=zd1.1 hg.strict _ _ c b h;rw[d] at this;exact absurd this a
 ·exact h
 ·have:=zd1.1 hg.strict _ _ b c h;rw[d] at this;exact absurd this a
end
def ixC (all:List (List Int))(t:List Int):Int:=((lbL all t:Nat):Int)+1
theorem iC.inj {all:List (List Int)}(hg:iC all){t u:List Int}(b:t∈all)(c:u∈all)(h:ixC all t=ixC all u):t=u:=by
 have a:=hg.get_lb b;have d:=hg.get_lb c;have:lbL all t=lbL all u:=by unfold ixC at h; omega
 rw[this,d] at a;injection a with a
 exact a.symm
theorem iC.lt {all:List (List Int)}(hg:iC all){t u:List Int}(b:t∈all)(c:u∈all)(h:ar t u<0):ixC all t<ixC all u:=by
 obtain ⟨i1,e1⟩:=zf7.1<|hg.get_lb b;obtain ⟨i2,e2⟩:=zf7.1<|hg.get_lb c;unfold ixC
 rcases Nat.lt_trichotomy (lbL all t) (lbL all u) with a | a | a
 ·omega
 ·have:t=u:=hg.inj b c (by unfold ixC; omega);subst this;rw[cH] at h;exact absurd h dC
 ·have:=zd1.1 hg.strict _ _ i2 i1 a;rw[e1,e2] at this;exact absurd h<|iJ this
def fN (all:List (List Int))(s:List Int):List ak:=if s.length≤1 then [] else (List.range s.length).reverse.map fun k:Nat=>⟨ixC all<|s.eraseIdx k,dz k⟩
def jb (all:List (List Int))(s:List Int):Cl:=⟨ixC all s,(s.length:Int) - 1,fN all s⟩
theorem yw {s:List Int}(g:ec s):∀ {i j:Nat},i<j→j<s.length→ar (s.eraseIdx j) (s.eraseIdx i)<0:=by
 induction s with
 | nil=>intro i j _ h; simp at h
 | cons a r ih =>
  intro i j k c;obtain ⟨l,m⟩:=zk5.1 g;cases j with
  | zero=>omega
  | succ j =>
   simp only[zf1] at c;cases i with
   | zero =>
    cases r with
    | nil=>simp at c
    | cons b q =>
     have d:=l b (by simp);have hl:((a::b::q).eraseIdx<|j+1).length=((a::b::q).eraseIdx 0).length:=by
      simp[List.length_eraseIdx] at c ⊢;omega
     rw[gP hl];simp only[List.eraseIdx_cons_succ,List.eraseIdx_cons_zero,ic];have:ie a b = -1:=by unfold ie; rw[zg3 d]
     simp[this]
   | succ i =>
    have f:=ih m (i:=i) (j:=j) oM oM;have hl:(r.eraseIdx j).length=(r.eraseIdx i).length:=by
     rw[List.length_eraseIdx,List.length_eraseIdx,zg3 oM,zg3 oM]
    have e:((a::r).eraseIdx<|j+1).length=((a::r).eraseIdx<|i+1).length:=by simp[hl]
    rw[gP hl] at f;rw[gP e];simp only[List.eraseIdx_cons_succ,ic];have:ie a a=0:=by unfold ie; rw[zg2 oM,zg2 oM]
    simpa [this] using f
theorem sY {A:List Cl}(h:(A.map Cl.id).Nodup){x:Cl}(a:x∈A):ah A x.id=some x:=by
 induction A with
 | nil=>simp at a
 | cons c t ih =>
  simp only[zg6,zk4] at h;unfold ah
  rcases zf3.1 a with rfl | a
  ·simp
  ·have b:¬ c.id=x.id:=fun e=>h.1 (by rw[e]; exact zf4.2 ⟨x,a,I⟩);rw[zi8];simp only[b,decide_false];exact ih h.2 a
theorem zO (c:Cl):ci (ci c)=ci c:=by
 unfold ci;rw[← bI (di c.sides) (aI.refl _)]
theorem fK (l:List Cl):aa (aa l)=aa l:=by
 have a:sortBy Cl.id (aa l)=aa l:=(bI (iZ l)<|aI.refl _).symm;show (sortBy Cl.id<|aa l).map ci=aa l;rw[a];unfold aa;rw[zi7];exact zc9 fun c _=>zO c
theorem Df {α:Type}{key:α→Int}{l:List α}(h:l.Pairwise fun a b=>key b<key a):sortBy key l=l.reverse:=by
 refine (bI ?_ ⟨by simp,fun c=>?_⟩).symm
 ·unfold Srt;rw[List.pairwise_reverse];exact h.imp fun h=>by omega
 ·rw[List.filter_reverse];have:∀ m:List α,m.Pairwise (fun a b=>key b<key a)→(∀ a∈m,(key a == c)=true)→m.reverse=m:=by
   intro m hm d
   match m,hm,d with
   | [],_,_=>rfl
   | [_],_,_=>rfl
   | a::b::r,hm,d =>
    have i:=(zk5.1 hm).1 b (by simp);have e:=d a (by simp);have f:=d b (by simp);simp at e f;omega
  exact this _ (h.sublist List.filter_sublist) fun a g=>(zh6.1 g).2
section
variable {all:List (List Int)}(hg:iC all)
include hg
theorem iC.face {s:List Int}(b:s∈all){k:Nat}(a:k<s.length)(c:2≤s.length):s.eraseIdx k∈all∧(s.eraseIdx k).length=s.length - 1 :=
 ⟨hg.faces s b c k a,by rw[List.length_eraseIdx,zg3 a]⟩
theorem iC.sides {s:List Int}(a:s∈all):sortBy ak.cell (aU all s s.length)=fN all s:=by
 have c:=(hg.form s a).1;have d:=(hg.form s a).2.1;by_cases m:s.length≤1
 ·have o:s.length=1:=by have:=List.length_pos_iff.2 c; omega
  unfold fN;rw[zg3 m,o];have:fM all s 0=[]:=by
   unfold fM;have p:(s.eraseIdx 0).length=0:=by rw[List.length_eraseIdx,zg3 oM]; omega
   rw[zg2 oM]
  simp[aU,List.range_succ,this,sortBy]
 ·have f:2≤s.length:=oM;have e:aU all s s.length=(List.range s.length).map fun k:Nat=>(⟨ixC all<|s.eraseIdx k,dz k⟩:ak):=by
   unfold aU;rw[List.flatMap_def];have:(List.range s.length).map (fM all s)=(List.range s.length).map fun k:Nat=>[(⟨ixC all<|s.eraseIdx k,dz k⟩:ak)]:=zc9 fun k g=>by
    have g:=List.mem_range.1 g;unfold fM;rw[(hg.face a g f).2,zg3 oM];rfl
   rw[this];generalize List.range s.length=R;induction R with
   | nil=>rfl
   | cons x r ih=>simp only[zg6,List.flatten_cons,ih]; rfl
  unfold fN;rw[zg2 m,e,List.map_reverse];refine Df ?_;rw[zk6];refine List.Pairwise.imp_of_mem ?_<|List.pairwise_lt_range (n:=s.length);intro i j h b l;have h:=List.mem_range.1 h;have b:=List.mem_range.1 b;exact hg.lt (hg.face a b f).1 (hg.face a h f).1<|yw d l b
theorem iC.cells:aa (bc all)=all.map (jb all):=by
 rw[rN];apply List.ext_getElem?;intro k;simp only[zi2];by_cases a:k<all.length
 ·rw[ju a,List.getElem?_eq_getElem a];simp only[Option.map_some,zg9];unfold ci nJ jb;simp only[hg.sides<|gM a,ixC,hg.lb_get a]
 ·rw[List.getElem?_eq_none (by rw[bJ]; omega),List.getElem?_eq_none oM];rfl
theorem iC.ids:((all.map<|jb all).map Cl.id).Pairwise (· < ·):=by
 rw[zi7,zk6];refine List.Pairwise.imp_of_mem ?_ hg.strict;intro a b c hb h;exact hg.lt c hb h
theorem iC.find {s:List Int}(a:s∈all):ah (all.map<|jb all) (ixC all s)=some (jb all s) :=
 sY (x:=jb all s) (hg.ids.imp fun h=>by omega) (zf4.2 ⟨s,a,rfl⟩)
end
theorem BK (k:Nat):dz k=1∨dz k = -1:=by unfold dz; omega
theorem rC {all:List (List Int)}{s:List Int}(h:2≤s.length){i:Nat}(a:i<s.length):(fN all s)[i]?=some ⟨ixC all<|s.eraseIdx<|s.length - 1 - i,dz ((s.length - 1 - i:Nat):Int)⟩:=by
 unfold fN;rw[zg2 oM,zi2,List.getElem?_reverse (by simpa using a)];simp only[zi6];rw[List.getElem?_range oM];rfl
theorem tG {all:List (List Int)}{s:List Int}:(fN all s).length=if s.length≤1 then 0 else s.length:=by
 unfold fN;split <;> simp
section
variable {all:List (List Int)}(hg:iC all)
include hg
theorem iC.formOk {s:List Int}(f:s∈all):cQ (all.map<|jb all) (jb all s)=0:=by
 obtain ⟨g,j,w⟩:=hg.form s f;have y:=List.length_pos_iff.2 g;have b:(jb all s).sides.length=if s.length≤1 then 0 else s.length:=tG
 have a:(jb all s).dim=(s.length:Int) - 1:=rfl;have r:fQ (jb all s)=false:=by unfold fQ; rw[a]; simp; omega
 have c:aO (jb all s)=false:=by
  unfold aO;rw[a,b];split
  ·simp; omega
  ·simp; omega
 have t:(List.range (jb all s).sides.length).any (jg (all.map<|jb all)<|jb all s)=false:=by
  rw[zk7];intro i e;have e:=List.mem_range.1 e;rw[b] at e;split at e
  ·omega
  ·rename_i hl;have c:2≤s.length:=oM;have l:=rC (all:=all) c e;have m:=hg.face f (k:=s.length - 1 - i) oM c;unfold jg;rw[show (jb all s).sides[i]?=_ from l];show ¬ cw _ _ i ⟨ixC all<|s.eraseIdx<|s.length - 1 - i,_⟩=true;unfold cw;dsimp only;rw[hg.find m.1];have hd:(jb all<|s.eraseIdx<|s.length - 1 - i).dim=(jb all s).dim - 1:=by
    show ((s.eraseIdx<|s.length - 1 - i).length:Int) - 1=(s.length:Int) - 1 - 1;rw[m.2];omega
   simp only[Option.isSome_some,Bool.not_true,Bool.false_or,Option.getD_some,hd,ne_eq,not_true_eq_false,decide_false];by_cases n:i>0
   ·have o:=rC (all:=all) c (i:=i - 1) oM;rw[show (jb all s).sides[i - 1]?=_ from o];have p:=hg.face f (k:=s.length - 1 - (i - 1)) oM c;have:=hg.lt p.1 m.1<|yw j oM oM;simp;omega
   ·simp[n]
 have u:(jb all s).sides.any bV=false:=by
  rw[zk7];intro x d;show ¬ bV x=true;have d:x∈fN all s:=d;unfold fN at d;split at d
  ·simp at d
  ·obtain ⟨k,_,rfl⟩:=zf4.1 d
   rcases BK k with h | h <;> simp[bV,h]
 have v:(decide ((jb all s).dim=1)&&decide (nf (jb all s).sides≠0))=false:=by
  by_cases hd:(jb all s).dim=1
  ·rw[a] at hd;have q:s.length=2:=oM;have:nf (jb all s).sides=0:=by
    show nf (fN all s)=0;unfold fN;rw[zg2 oM,q];simp[List.range_succ,nf,dz]
   rw[this];simp
  ·simp[hd]
 unfold cQ;rw[r,c,t,u,v];rfl
end
theorem Ad (s:List Int):∀ {k q:Nat},k≤q→(s.eraseIdx k).eraseIdx q=(s.eraseIdx<|q+1).eraseIdx k:=by
 induction s with
 | nil=>intro k q _; rfl
 | cons a r ih =>
  intro k q h;cases k with
  | zero=>simp
  | succ k =>
   cases q with
   | zero=>omega
   | succ q =>
    simp only[List.eraseIdx_cons_succ];rw[ih oM]
theorem re {s:List Int}(m:s.Nodup){a b i:Nat}(n:a<b)(hb:b<s.length)(q:i<s.length):s[i]∈(s.eraseIdx b).eraseIdx a↔i≠a∧i≠b:=by
 have c:∀ {j k:Nat} (f:j<s.length) (g:k<s.length),s[j]=s[k]→j=k:=fun {j k} f g e=>by
  rcases Nat.lt_trichotomy j k with h | h | h
  ·exact absurd e<|zd1.1 m j k f g h
  ·exact h
  ·exact absurd e.symm<|zd1.1 m k j g f h
 rw[List.mem_eraseIdx_iff_getElem];constructor
 ·rintro ⟨j,l,o,e⟩;have d:=l;rw[List.length_eraseIdx,zg3 hb] at d;rw[List.getElem_eraseIdx] at e;split at e
  ·have:=c _ _ e;omega
  ·have:=c _ _ e;omega
 ·rintro ⟨p,r⟩
  rcases Nat.lt_or_ge i b with h | h
  ·refine⟨i,by rw[List.length_eraseIdx,zg3 hb]; omega,p,?_⟩;rw[List.getElem_eraseIdx,dif_pos h]
  ·refine⟨i - 1,by rw[List.length_eraseIdx,zg3 hb]; omega,oM,?_⟩;rw[List.getElem_eraseIdx,dif_neg oM];congr 1;omega
theorem Ae {s:List Int}(g:s.Nodup){a b c d:Nat}(e:a<b)(hb:b<s.length)(f:c<d)(hd:d<s.length)(h:(s.eraseIdx b).eraseIdx a=(s.eraseIdx d).eraseIdx c):a=c∧b=d:=by
 have key:∀ i,i<s.length→((i≠a∧i≠b)↔(i≠c∧i≠d)):=fun i j=>by
  rw[← re g e hb j,← re g f hd j,h]
 have m:=key a oM;have k:=key b hb;have n:=key c oM;have l:=key d hd;omega
def Gv (all:List (List Int))(s:List Int)(c:Int):Int:=ixC all ((s.eraseIdx (c % 16).toNat).eraseIdx (c / 16).toNat)
theorem Bj {n k q:Nat}(c:k<n)(d:q<n - 1):∃ a b:Nat,a<b∧b<n∧code k q=((a * 16+b:Nat):Int)∧((q<k∧a=q∧b=k)∨(k≤q∧a=k∧b=q+1)):=by
 unfold code;by_cases h:q<k
 ·rw[zg3 h]; exact⟨q,k,h,c,I,.inl ⟨h,I,I⟩⟩
 ·rw[zg2 h]; exact⟨k,q+1,oM,oM,I,.inr ⟨oM,I,I⟩⟩
theorem jY {a b:Nat}(h:b<16):((((a * 16+b:Nat):Int) % 16).toNat=b)∧((((a * 16+b:Nat):Int) / 16).toNat=a):=oM
section
variable {all:List (List Int)}(hg:iC all)
include hg
theorem iC.aroundOk {s:List Int}(t:s∈all)(C:2<s.length):bC (all.map<|jb all) (jb all s)=0:=by
 obtain ⟨D,u,G⟩:=hg.form s t;have v:s.Nodup:=u.imp fun h=>by omega
 have A:∀ a b,a<b→b<s.length→(s.eraseIdx b).eraseIdx a∈all:=fun a b e hb=>by
  have w:=hg.face t (k:=b) hb oM;exact (hg.face w.1 (k:=a) (by rw[w.2]; omega) (by rw[w.2]; omega)).1
 have g:qk (all.map<|jb all) (jb all s)=xE (Gv all s) (FU s.length):=by
  unfold qk xE FU;show (fN all s).map _=_;unfold fN;rw[zg2 oM,zi7,zi7];refine zc9 fun k j=>?_;have j:k<s.length:=by simpa using j
  have B:=hg.face t j oM;simp only[Function.comp_def];congr 1;unfold ay;rw[hg.find B.1];show fN all (s.eraseIdx k)=_;unfold fN;rw[B.2,zg2 oM,zi7];refine zc9 fun q l=>?_;have l:q<s.length - 1:=by simpa using l
  obtain ⟨a,b,e,hb,z,i⟩:=Bj j l;simp only[Function.comp_def,CX];congr 1;unfold Gv;rw[z,(jY (a:=a) (b:=b) oM).1,(jY (a:=a) (b:=b) oM).2]
  rcases i with ⟨_,rfl,rfl⟩ | ⟨h,rfl,rfl⟩
  ·rfl
  ·rw[Ad s h]
 rw[CF,g,xw,Ff _ oM C];have f:∀ x∈AD (FU s.length),∃ a b:Nat,a<b∧b<s.length∧x=((a * 16+b:Nat):Int):=by
  intro x m;obtain ⟨p,E,m⟩:=List.mem_flatMap.1 m;obtain ⟨k,j,rfl⟩:=zf4.1 E;obtain ⟨r,hr,rfl⟩:=zf4.1 m;obtain ⟨q,l,rfl⟩:=zf4.1 hr;obtain ⟨a,b,e,hb,z,_⟩:=Bj (n:=s.length) (k:=k) (q:=q) (by simpa using j) (by simpa using l);exact⟨a,b,e,hb,z⟩
 intro x m y F h;obtain ⟨a,b,e,hb,rfl⟩:=f x m;obtain ⟨c,d,o,hd,rfl⟩:=f y F;unfold Gv at h;rw[(jY (a:=a) (b:=b) oM).1,(jY (a:=a) (b:=b) oM).2,(jY (a:=c) (b:=d) oM).1,(jY (a:=c) (b:=d) oM).2] at h;obtain ⟨rfl,rfl⟩:=Ae v e hb o hd<|hg.inj (A a b e hb) (A c d o hd) h;rfl
end
theorem uK {tl:List Cl}:∀ {l:List Cl} {n:Int},(∀ x∈l,n<x.id)→l.Pairwise (fun a b=>a.id<b.id)→(∀ x∈l,cQ tl x=0)→iz tl l n=none
 | [],_,_,_,_=>rfl
 | x::r,n,d,e,c=>by
  have i:=d x (by simp);obtain ⟨f,g⟩:=zk5.1 e;unfold iz;rw[zg2 oM,zg2 (by rw[c x (by simp)]; simp)];exact uK f g fun y h=>c y (by simp[h])
theorem uJ {tl:List Cl}:∀ {l:List Cl},(∀ x∈l,x.dim>1→bC tl x=0)→n4 tl l=none
 | [],_=>rfl
 | x::r,h=>by
  unfold n4;rw[zg2 fun ⟨a,b⟩=>b<|h x (by simp) a];exact uJ fun y c=>h y (by simp[c])
theorem yx {l:List Cl}(g:l.length≤4000)(d:∀ x∈aa l,0<x.id)(c:(aa l).Pairwise fun a b=>a.id<b.id)(e:∀ x∈aa l,cQ (aa l) x=0)(f:∀ x∈aa l,x.dim>1→bC (aa l) x=0):ap l=(0,0):=by
 unfold ap;rw[zg2 oM,bP c,uK d c e,uJ f];rfl
theorem wC (ls:List (List Int)):ap (dy ls)=(0,0):=by
 unfold dy;cases h:aW [] ls with
 | none=>rfl
 | some all =>
  obtain ⟨hg,hl⟩:=ix ls [] h iC.nil (by simp);dsimp only;have d:aa (aa<|bc all)=all.map (jb all):=by rw[fK,hg.cells]
  have c:=hg.ids;rw[zk6] at c;refine yx (by rw[hg.cells]; simpa using hl) ?_ ?_ ?_ ?_ <;> rw[d]
  ·intro x a;obtain ⟨s,_,rfl⟩:=zf4.1 a;show 0<ixC all s;unfold ixC;omega
  ·exact c
  ·intro x a;obtain ⟨s,b,rfl⟩:=zf4.1 a;exact hg.formOk b
  ·intro x a hd;obtain ⟨s,b,rfl⟩:=zf4.1 a;refine hg.aroundOk b ?_;have:(s.length:Int) - 1>1:=hd;omega
open Go.ChangeShapes Go.WideShapes Go.ChangeAt Go.RowKit
set_option maxRecDepth 100000
section
variable {H:Type}{enc:TypeId×Value→H}{W:World}{base:Nat}{spare:Nat→Bool}{hd:Bool}
end
inductive Cn (E:Int→Int→Prop):Int→Int→Prop
 | refl (a:Int):Cn E a a
 | step {a b c:Int} (h:E a b∨E b a) (r:Cn E b c):Cn E a c
theorem Cn.trans {E:Int→Int→Prop}{a b c:Int}(h:Cn E a b)(k:Cn E b c):Cn E a c:=by
 induction h with
 | refl _=>exact k
 | step h _ ih=>exact .step h<|ih k
theorem Cn.one {E:Int→Int→Prop}{a b:Int}(h:E a b):Cn E a b:=.step (.inl h) (.refl b)
theorem Cn.symm {E:Int→Int→Prop}{a b:Int}(h:Cn E a b):Cn E b a:=by
 induction h with
 | refl _=>exact .refl _
 | step h _ ih=>exact ih.trans<|.step h.symm<|.refl _
theorem Cn.mono {E E':Int→Int→Prop}(h:∀ a b,E a b→Cn E' a b){a b:Int}(c:Cn E a b):Cn E' a b:=by
 induction c with
 | refl _=>exact .refl _
 | step e _ ih =>
  rcases e with e | e
  ·exact (h _ _ e).trans ih
  ·exact (h _ _ e).symm.trans ih
theorem Cn.iso {E:Int→Int→Prop}{a b:Int}(h:∀ b,¬ E a b∧¬ E b a)(c:Cn E a b):a=b:=by
 cases c with
 | refl _=>rfl
 | step e _ =>
  rcases e with e | e
  ·exact absurd e (h _).1
  ·exact absurd e (h _).2
theorem Cn.add {E E':Int→Int→Prop}{x y:Int}(h:∀ a b,E' a b↔E a b∨(a=x∧b=y))(a b:Int):Cn E' a b↔Cn E a b∨(Cn E a x∧Cn E y b)∨(Cn E a y∧Cn E x b):=by
 have g:Cn E' x y:=.one<|(h x y).2<|.inr ⟨rfl,rfl⟩;have hm:∀ {a b:Int},Cn E a b→Cn E' a b:=fun i=>i.mono fun a b e=>.one<|(h a b).2<|.inl e;constructor
 ·intro i;induction i with
  | refl _=>exact .inl<|.refl _
  | step e _ ih =>
   have key:∀ {p q r:Int},Cn E p q→(Cn E q r∨(Cn E q x∧Cn E y r)∨(Cn E q y∧Cn E x r))→Cn E p r∨(Cn E p x∧Cn E y r)∨(Cn E p y∧Cn E x r):=by
    rintro p q r f (c | ⟨c,d⟩ | ⟨c,d⟩)
    ·exact .inl<|f.trans c
    ·exact .inr<|.inl ⟨f.trans c,d⟩
    ·exact .inr<|.inr ⟨f.trans c,d⟩
   rcases e with e | e
   ·rcases (h _ _).1 e with e | ⟨rfl,rfl⟩
    ·exact key (.one e) ih
    ·rcases ih with c | ⟨_,d⟩ | ⟨_,d⟩
     ·exact .inr<|.inl ⟨.refl _,c⟩
     ·exact .inr<|.inl ⟨.refl _,d⟩
     ·exact .inl d
   ·rcases (h _ _).1 e with e | ⟨rfl,rfl⟩
    ·exact key (Cn.one e).symm ih
    ·rcases ih with c | ⟨_,d⟩ | ⟨_,d⟩
     ·exact .inr<|.inr ⟨.refl _,c⟩
     ·exact .inl d
     ·exact .inr<|.inr ⟨.refl _,d⟩
 ·rintro (f | ⟨f,c⟩ | ⟨f,c⟩)
  ·exact hm f
  ·exact (hm f).trans<|g.trans<|hm c
  ·exact (hm f).trans<|g.symm.trans<|hm c
def eG (ml:List (Int×List Int))(a b:Int):Prop:=∃ p∈ml,p.2.head?=some a∧b∈p.2
def RZ (e:En)(z:Int×Int):Prop:=e.id=z.1∧e.sum=z.2
def RM (e:En)(p:Int×List Int):Prop:=e.id=p.1∧e.many=p.2.length∧p.2.head?=some (e.fst:Int)
theorem te {x:Int}(h : -9223372036854775808≤x∧x<9223372036854775808):wr x=x:=zl2 _ oM
theorem Eu {i:Nat}{c p:Int}:∀ {es:List En} {zl:List (Int×Int)},ax RZ es zl→(∀ e∈es,wr (e.sum+p)=e.sum+p)→wr (0+p)=p→ax RZ (lv i c p es) (fx zl c p)
 | [],[],_,_,g=>⟨⟨rfl,g⟩,trivial⟩
 | e::es,(a,z)::zl,h,hb,g=>by
  obtain ⟨⟨b,d⟩,j⟩:=h;have b:e.id=a:=b;have d:e.sum=z:=d;simp only[lv,fx];by_cases f:e.id=c
  ·rw[zg3 f,zg3 (by rw[← b,f])];exact⟨⟨b,by show wr (e.sum+p)=z+p; rw[hb e (by simp),d]⟩,j⟩
  ·rw[zg2 f,zg2 (by rw[← b]; exact fun e=>f e.symm)];exact⟨⟨b,d⟩,Eu j (fun x k=>hb x<|by simp[k]) g⟩
 | [],_::_,h,_,_=>h.elim
 | _::_,[],h,_,_=>h.elim
theorem Ev {i:Nat}{c p:Int}:∀ {es:List En} {ml:List (Int×List Int)},ax RM es ml→(∀ e∈es,wr (e.many+1)=e.many+1)→ax RM (lv i c p es) (gJ ml c i) ∧
  ∀ a b,eG (gJ ml c i) a b↔eG ml a b∨(a=jS i c es∧b=i)
 | [],[],_,_=>by
  refine⟨⟨⟨rfl,by rfl,rfl⟩,trivial⟩,fun a b=>?_⟩;constructor
  ·rintro ⟨q,d,j,m⟩;simp[gJ] at d;subst d;simp at j m;exact .inr ⟨j.symm,m⟩
  ·rintro (⟨q,d,_⟩ | ⟨rfl,rfl⟩)
   ·simp at d
   ·exact⟨(c,[(i:Int)]),by simp[gJ],I,by simp⟩
 | e::es,(k,l)::ml,h,hb=>by
  obtain ⟨⟨j,m,n⟩,t⟩:=h;have j:e.id=k:=j;have m:e.many=l.length:=m;have n:l.head?=some (e.fst:Int):=n;simp only[lv,gJ,jS];by_cases o:e.id=c
  ·rw[zg3 o,zg3 (by rw[← j,o]),zg3 o];have s:(l++[(i:Int)]).head?=some (e.fst:Int):=by
    cases l with
    | nil=>simp at n
    | cons x r=>simpa using n
   refine⟨⟨⟨j,by show wr (e.many+1)=_; rw[hb e (by simp),m]; simp,s⟩,t⟩,fun a b=>?_⟩;constructor
   ·rintro ⟨q,d,g,f⟩
    rcases zf3.1 d with rfl | d
    ·dsimp only at g f;rw[s] at g
     rcases zf5.1 f with f | f
     ·exact .inl ⟨(k,l),by simp,by rw[n,g],f⟩
     ·simp at f;injection g with g
      exact .inr ⟨g.symm,f⟩
    ·exact .inl ⟨q,by simp[d],g,f⟩
   ·rintro (⟨q,d,g,f⟩ | ⟨rfl,rfl⟩)
    ·rcases zf3.1 d with rfl | d
     ·exact⟨(k,l++[(i:Int)]),by simp,by rw[s,← n,g],by simp[f]⟩
     ·exact⟨q,by simp[d],g,f⟩
    ·exact⟨(k,l++[(i:Int)]),by simp,s,by simp⟩
  ·rw[zg2 o,zg2 (by rw[← j]; exact fun e=>o e.symm),zg2 o];obtain ⟨i1,i2⟩:=Ev (i:=i) (c:=c) (p:=p) t fun x u=>hb x (by simp[u]);refine⟨⟨⟨j,m,n⟩,i1⟩,fun a b=>?_⟩;have e1:∀ L,eG ((k,l)::L) a b↔(l.head?=some a∧b∈l)∨eG L a b:=fun L=>by
    unfold eG;simp
   rw[e1,e1,i2,or_assoc]
 | [],_::_,h,_=>h.elim
 | _::_,[],h,_=>h.elim
structure Sd (n t k:Nat)(es:List En)(part:List Int)(zl:List (Int×Int))(ml:List (Int×List Int)):Prop where
 z:ax RZ es zl
 m:ax RM es ml
 bz:∀ e∈es,-(t:Int)≤e.sum∧e.sum≤t∧0≤e.many∧e.many≤t
 bf:∀ e∈es,e.fst<k
 bm:∀ p∈ml,∀ x∈p.2,0≤x∧x<k
 len:part.length=n
 bp:∀ a,a<k→0≤part.getD a 0∧part.getD a 0<k
 cn:∀ a b:Nat,a<k→b<k→(part.getD a 0=part.getD b 0↔Cn (eG ml) a b)
theorem iM {ml:List (Int×List Int)}{k:Nat}(h:∀ p∈ml,∀ x∈p.2,0≤x∧x<(k:Int)){a b:Int}(hl:eG ml a b):(0≤a∧a<k)∧(0≤b∧b<k):=by
 obtain ⟨p,c,d,e⟩:=hl;exact⟨h p c a<|List.mem_of_head? d,h p c b e⟩
theorem Sd.open {n t k:Nat}{es:List En}{part:List Int}{zl:List (Int×Int)}{ml:List (Int×List Int)}(h:Sd n t k es part zl ml)(f:k<n):Sd n t (k+1) es (part.set k k) zl ml:=by
 have hl:=h.len;have g1:(part.set k (k:Int)).getD k 0=k:=by rw[zh3,List.getElem?_set]; simp[hl,f]
 have g2:∀ a,a≠k→(part.set k (k:Int)).getD a 0=part.getD a 0:=fun a c=>by
  rw[zh3,zh3,List.getElem?_set,zg2 fun e=>c e.symm]
 have iso:∀ b,¬ eG ml k b∧¬ eG ml b k:=fun b=>⟨fun e=>by have:=iM h.bm e; omega,fun e=>by have:=iM h.bm e; omega⟩;refine⟨h.z,h.m,h.bz,fun e g=>by have:=h.bf e g; omega,fun p i x j=>by have:=h.bm p i x j; omega,by simp[hl],fun a c=>?_,fun a b c hb=>?_⟩
 ·by_cases e:a=k
  ·subst e; rw[g1]; omega
  ·rw[g2 a e]; have:=h.bp a oM; omega
 ·by_cases e:a=k <;> by_cases e2:b=k
  ·subst e; subst e2; exact⟨fun _=>.refl _,fun _=>I⟩
  ·subst e;rw[g1,g2 b e2];have:=h.bp b oM;exact⟨fun h=>by omega,fun d=>by have:=d.iso iso; omega⟩
  ·subst e2;rw[g1,g2 a e];have:=h.bp a oM;exact⟨fun h=>by omega,fun d=>by have:=d.symm.iso iso; omega⟩
  ·rw[g2 a e,g2 b e2];exact h.cn a b oM oM
theorem lh {m:Nat}{old now:Int}{p:List Int}{a:Nat}(h:a<p.length)(hm:a<m):(eF m old now p).getD a 0=if p.getD a 0=now then old else p.getD a 0:=by
 rw[zh3,zh3];simp only[eF,List.getElem?_mapIdx,List.getElem?_eq_getElem h,Option.map_some,Option.getD_some,hm,true_and]
theorem DP {i:Nat}{c:Int}{es:List En}(h:∀ e∈es,e.fst<i+1):jS i c es<i+1:=by
 induction es with
 | nil=>exact Nat.lt_succ_self i
 | cons e r ih =>
  unfold jS;split
  ·exact h e (by simp)
  ·exact ih fun x a=>h x (by simp[a])
theorem yK {P:En→Prop}{i:Nat}{c p:Int}(hn:P (En.up ⟨c,0,0,i⟩ p))(b:∀ e,P e→P (e.up p))(d:∀ e,P e→P e):∀ {es:List En},(∀ e∈es,P e)→∀ e∈lv i c p es,P e
 | [],_,e,a=>by simp[lv] at a; subst a; exact hn
 | x::r,h,e,a=>by
  unfold lv at a;split at a
  ·rcases zf3.1 a with rfl | a
   ·exact b x (h x<|by simp)
   ·exact h e (by simp[a])
  ·rcases zf3.1 a with rfl | a
   ·exact h e (by simp)
   ·exact yK hn b d (fun y f=>h y<|by simp[f]) e a
theorem y5 {P:Int→Prop}{c:Int}{i:Int}(d:P i):∀ {ml:List (Int×List Int)},(∀ p∈ml,∀ x∈p.2,P x)→∀ p∈gJ ml c i,∀ x∈p.2,P x
 | [],_,p,b,x,a=>by simp[gJ] at b; subst b; simp at a; subst a; exact d
 | (k,l)::r,h,p,b,x,a=>by
  unfold gJ at b;split at b
  ·rcases zf3.1 b with rfl | b
   ·rcases zf5.1 a with a | a
    ·exact h (k,l) (by simp) x a
    ·simp at a; subst a; exact d
   ·exact h p (by simp[b]) x a
  ·rcases zf3.1 b with rfl | b
   ·exact h (k,l) (by simp) x a
   ·exact y5 d (fun q e=>h q<|by simp[e]) p b x a
theorem Sd.next {n t i:Nat}{es:List En}{part:List Int}{zl:List (Int×Int)}{ml:List (Int×List Int)}{x r:ak}(h:Sd n t (i+1) es part zl ml)(w:i<n)(A:t<1000000)(s:x.sign=1∨x.sign = -1)(hr:r.sign=1∨r.sign = -1) :
  Sd n (t+1) (i+1) (my i x.sign (es,part) r).1 (my i x.sign (es,part) r).2 (jO x zl r) (fg i ml r):=by
 have B:=sk s hr;have u:wr (x.sign * r.sign)=x.sign * r.sign:=te oM;unfold my jO fg;dsimp only;rw[u];generalize x.sign * r.sign=p at *;have hl:=h.len;have f:=Ev (i:=i) (c:=r.cell) (p:=p) h.m fun e d=>by have:=h.bz e d; exact te oM
 have j:=DP (c:=r.cell) h.bf;refine⟨Eu h.z (fun e d=>by have:=h.bz e d; exact te oM) (by rw[Int.zero_add]; exact te oM),f.1,?_,?_,?_,by rw[mq]; exact hl,fun a g=>?_,fun a b g hb=>?_⟩
 ·have:∀ e∈lv i r.cell p es,(-(t:Int)≤e.sum∧e.sum≤t∧0≤e.many∧e.many≤t)∨(-((t+1:Nat):Int)≤e.sum∧e.sum≤((t+1:Nat):Int)∧0≤e.many∧e.many≤((t+1:Nat):Int)):=by
   have k:=h.bz;clear h f j hl;generalize l:lv i r.cell p es=fs;intro e d;subst l;induction es with
   | nil =>
    simp[lv] at d;subst d;right;simp only[En.up];rw[te oM,te oM];omega
   | cons y q ih =>
    unfold lv at d;split at d
    ·rcases zf3.1 d with rfl | d
     ·right;have:=k y (by simp);simp only[En.up];rw[te oM,te oM];omega
     ·exact .inl (k e<|by simp[d])
    ·rcases zf3.1 d with rfl | d
     ·exact .inl (k e<|by simp)
     ·exact ih (fun z hz=>k z<|by simp[hz]) d
  intro e d
  rcases this e d with o | o <;> omega
 ·exact yK (P:=fun e=>e.fst<i+1) (Nat.lt_succ_self i) (fun e d=>d) (fun e d=>d) h.bf
 ·exact y5 (P:=fun x=>0≤x∧x<((i+1:Nat):Int)) oM h.bm
 ·rw[lh oM g];split
  ·exact h.bp _ j
  ·exact h.bp a g
 ·rw[lh oM g,lh oM hb,Cn.add (x:=(jS i r.cell es:Int)) (y:=(i:Int)) f.2 a b];rw[← h.cn a b g hb,← h.cn a _ g j,← h.cn i b oM hb,← h.cn a i g oM,← h.cn _ b j hb];generalize part.getD a 0=pa;generalize part.getD b 0=pb;generalize part.getD i 0=pi;generalize part.getD (jS i r.cell es) 0=pf;by_cases o:pa=pi <;> by_cases v:pb=pi <;> simp[o,v] <;> omega
theorem Sd.inner {n i:Nat}{x:ak}(a:i<n)(b:x.sign=1∨x.sign = -1):∀ (l:List ak) {t:Nat} {es:List En} {part:List Int} {zl:List (Int×Int)} {ml:List (Int×List Int)},Sd n t (i+1) es part zl ml→t+l.length<1000000→(∀ r∈l,r.sign=1∨r.sign = -1) →
  Sd n (t+l.length) (i+1) (l.foldl (my i x.sign) (es,part)).1 (l.foldl (my i x.sign) (es,part)).2 (l.foldl (jO x) zl) (l.foldl (fg i) ml)
 | [],_,_,_,_,_,h,_,_=>h
 | r::l,t,es,part,zl,ml,h,c,hr=>by
  simp only[zf1] at c;have d:=h.next (x:=x) (r:=r) a oM b (hr r<|by simp);have:=Sd.inner a b l d oM (fun q e=>hr q<|by simp[e]);simp only[zj1,zf1];rw[show t+(l.length+1)=t+1+l.length by omega];exact this
theorem Sd.outer {tl:List Cl}{n:Nat}:∀ (l:List ak) {t k:Nat} {es:List En} {part:List Int} {zl:List (Int×Int)} {ml:List (Int×List Int)},Sd n t k es part zl ml→k+l.length≤n→t+64 * l.length<1000000→(∀ x∈l,x.sign=1∨x.sign = -1)→(∀ x∈l,(ay tl x).length≤64∧∀ r∈ay tl x,r.sign=1∨r.sign = -1) →
  ∃ t',Sd n t' (k+l.length) ((l.zipIdx k).foldl (oh tl) (es,part)).1 ((l.zipIdx k).foldl (oh tl) (es,part)).2 (l.foldl (fun zl x=>(ay tl x).foldl (jO x) zl) zl)<|(l.zipIdx k).foldl (fun ml p=>(ay tl p.1).foldl (fg p.2) ml) ml
 | [],t,_,_,_,_,_,h,_,_,_,_=>⟨t,h⟩
 | x::l,t,k,es,part,zl,ml,h,d,e,b,c=>by
  simp only[zf1] at d e;have f:=c x (by simp);have g:=(h.open oM).inner (x:=x) oM (b x<|by simp) (ay tl x) oM f.2;obtain ⟨t',i⟩:=Sd.outer l g oM oM (fun y a=>b y<|by simp[a]) (fun y a=>c y<|by simp[a]);refine⟨t',?_⟩;simp only[List.zipIdx_cons,zj1,zf1];rw[show k+(l.length+1)=k+1+l.length by omega];exact i
theorem o0 {α β:Type}{R:α→β→Prop}{p:α→Bool}{q:β→Bool}(h:∀ a b,R a b→p a=q b):∀ {l:List α} {m:List β},ax R l m→l.any p=m.any q
 | [],[],_=>rfl
 | a::l,b::m,hr=>by simp only[List.any_cons,h a b hr.1,o0 h hr.2]
 | [],_::_,hr=>hr.elim
 | _::_,[],hr=>hr.elim
theorem tM {ml:List (Int×List Int)}(q:∀ p∈ml,p.2.length=2)(a b:Int):Rch (j4<|dF ml) a b↔Cn (eG ml) a b:=by
 have f:∀ x y,y∈fj (dF ml) x→Cn (eG ml) x y:=fun x y k=>by
  obtain ⟨p,g,h⟩:=(lx ml x y).1 k
  rcases h with h | h
  ·exact .one ⟨p,g,by rw[h]; rfl,by rw[h]; simp⟩
  ·exact (Cn.one (E:=eG ml) ⟨p,g,by rw[h]; rfl,by rw[h]; simp⟩).symm
 have j:∀ x,j4 (dF ml) x≠none:=fun x=>by simp[j4]
 constructor
 ·intro h;induction h with
  | refl _ _=>exact .refl _
  | step x y _ l hl k _ ih =>
   simp only[j4,zg9] at hl;subst hl;exact (f x y k).trans ih
 ·intro h;induction h with
  | refl a=>exact .refl a<|j a
  | @step x y z e _ ih =>
   have key:∀ u v,eG ml u v→v=u∨v∈fj (dF ml) u:=fun u v ⟨p,g,m,i⟩=>by
    have:=q p g
    match o:p.2,this with
    | [c,d],_ =>
     rw[o] at m i;simp at m i;subst m
     rcases i with i | i
     ·exact .inl i
     ·exact .inr<|(lx ml c v).2 ⟨p,g,.inl (by rw[o,i])⟩
   rcases e with e | e
   ·rcases key x y e with rfl | n
    ·exact ih
    ·exact .step x y z _ I n ih
   ·rcases key y x e with rfl | n
    ·exact ih
    ·refine .step x y z _ I ?_ ih;obtain ⟨p,g,r⟩:=(lx ml y x).1 n;exact (lx ml x y).2 ⟨p,g,r.symm⟩
theorem oD {l:List Int}(hn:l.Nodup)(hb:∀ x∈l,0≤x):(l.map Int.toNat).Nodup:=by
 rw[List.Nodup,zk6];refine List.Pairwise.imp_of_mem ?_ hn;intro a b d c f e;have:=hb a d;have:=hb b c;omega
theorem l9 {l:List Int}{n:Nat}(hn:l.Nodup)(hb:∀ x∈l,0≤x∧x<(n:Int)):l.length≤n:=by
 have b:=oD hn fun x a=>(hb x a).1;have:=ef (l:=List.range n) b List.nodup_range fun x a=>by
  obtain ⟨y,c,rfl⟩:=zf4.1 a;have:=hb y c;exact List.mem_range.2 oM
 simpa using this
theorem tx {tl:List Cl}{c:Cl}(A:AOk tl c)(D:0<c.sides.length):i7 tl c=bC tl c:=by
 obtain ⟨F,G,H⟩:=A;have start:Sd c.sides.length 0 0 [] (List.replicate c.sides.length 0) [] []:=⟨trivial,trivial,by simp,by simp,by simp,by simp,by simp,fun a b y=>by omega⟩;obtain ⟨t,hd⟩:=start.outer c.sides (tl:=tl) oM oM G H;have e1:((c.sides.zipIdx 0).foldl (oh tl) ([],List.replicate c.sides.length 0))=nm tl c.sides c.sides.length:=rfl;rw[e1] at hd;have hz:ax RZ (nm tl c.sides c.sides.length).1 (fy tl c.sides):=hd.z;have hm:ax RM (nm tl c.sides c.sides.length).1 (e8 tl c.sides):=hd.m;unfold i7 bC;rw[o0 (p:=fun e=>decide (e.sum≠0)) (q:=fun p:Int×Int=>decide (p.2≠0)) (fun a b h=>by rw[h.2]) hz];rw[o0 (p:=fun e=>decide (e.many≠2)) (q:=fun p:Int×List Int=>decide ((p.2.length:Int)≠2)) (fun a b h=>by rw[h.2.1]) hm];split
 ·rfl
 ·split
  ·rfl
  ·rename_i B;have E:∀ p∈e8 tl c.sides,p.2.length=2:=fun p J=>by
    have:=zk7.1 ((zj9 _).mp B) p J;simp at this;omega
   have k:∀ p∈e8 tl c.sides,∀ x∈p.2,0≤x∧x<((0+c.sides.length:Nat):Int):=hd.bm;rw[Nat.zero_add] at k;have w:∀ a b:Nat,a<c.sides.length→b<c.sides.length→((nm tl c.sides c.sides.length).2.getD a 0=(nm tl c.sides c.sides.length).2.getD b 0↔Rch (j4<|dF<|e8 tl c.sides) a b):=fun a b y hb=>by
    rw[tM E];exact hd.cn a b oM oM
   have K:=hd.len;have f:∀ x:Int,x∈jz (dF<|e8 tl c.sides)↔Rch (j4<|dF<|e8 tl c.sides) 0 x:=fun x=>vU (cnt:=nZ<|dF<|e8 tl c.sides) (fun v v' h=>jL h) (ln _) (zl1<|zc6 _ _) (by simp[j4]) x;have o:(jz<|dF<|e8 tl c.sides).Nodup:=jK _ _ _ _ (by simp);have r:∀ x∈jz (dF<|e8 tl c.sides),0≤x∧x<(c.sides.length:Int):=fun x j=>by
    have hr:=(tM E 0 x).1<|(f x).1 j;have:∀ a b,Cn (eG<|e8 tl c.sides) a b→(0≤a∧a<(c.sides.length:Int))→(0≤b∧b<(c.sides.length:Int)):=by
     intro a b h;induction h with
     | refl _=>exact fun h=>h
     | step e _ ih =>
      intro _
      rcases e with e | e
      ·exact ih (iM k e).2
      ·exact ih (iM k e).1
    exact this 0 x hr oM
   generalize (nm tl c.sides c.sides.length).2=part at *;generalize jz (dF<|e8 tl c.sides)=seen at *;by_cases d:∀ a,a<c.sides.length→part.getD a 0=part.getD 0 0
   ·have L:part.any (fun x=>decide (x≠part.getD 0 0))=false:=by
     rw[zk7];intro x j;obtain ⟨i,u,rfl⟩:=zc8 j;have:=d i oM;rw[zh3,List.getElem?_eq_getElem u] at this;simpa using this
    have g:seen.length=c.sides.length:=by
     refine Nat.le_antisymm (l9 o r) ?_;have M:=ef (m:=List.range c.sides.length) (l:=seen.map Int.toNat) List.nodup_range (oD o fun x j=>(r x j).1) fun i u=>by
      have u:=List.mem_range.1 u;exact zf4.2 ⟨(i:Int),(f i).2<|(w 0 i D u).1 (d i u).symm,by simp⟩
     simpa using M
    rw[L,g];simp
   ·have N:part.any (fun x=>decide (x≠part.getD 0 0))=true:=by
     simp only[Classical.not_forall] at d;obtain ⟨a,y,s⟩:=d;rw[zk1];refine⟨part.getD a 0,?_,by simpa using s⟩;rw[zh3,List.getElem?_eq_getElem oM];exact gM _
    have g:(seen.length:Int)≠c.sides.length:=by
     simp only[Classical.not_forall] at d;obtain ⟨a,y,s⟩:=d;have C:(a:Int) ∉ seen:=fun h=>s ((w 0 a D y).2<|(f a).1 h).symm;have:=l9 (l:=(a:Int)::seen) (n:=c.sides.length) (zk4.2 ⟨C,o⟩) fun x j=>by
      rcases zf3.1 j with rfl | j
      ·omega
      ·exact r x j
     simp at this;omega
    rw[N,zg3 rfl,zg3 g]
theorem dB {tl:List Cl}:∀ {l:List Cl} {n:Int},iz tl l n=none→l.Pairwise (fun a b=>a.id<b.id)∧(∀ x∈l,n<x.id)∧∀ x∈l,cQ tl x=0
 | [],_,_=>⟨List.Pairwise.nil,by simp,by simp⟩
 | x::r,n,h=>by
  unfold iz at h;split at h
  ·cases h
  ·rename_i e;split at h
   ·cases h
   ·rename_i f;obtain ⟨g,d,i⟩:=dB h;refine⟨zk5.2 ⟨d,g⟩,fun y c=>?_,fun y c=>?_⟩
    ·rcases zf3.1 c with rfl | c
     ·omega
     ·have:=d y c; omega
    ·rcases zf3.1 c with rfl | c
     ·exact zh2 f
     ·exact i y c
theorem dG (l:List Cl):aF l=ap l:=by
 unfold aF ap;split
 ·rfl
 ·cases h:iz (am l) (aa l) 0 with
  | some p=>rfl
  | none =>
   obtain ⟨f,_,d⟩:=dB h;have g:=bP f;have key:∀ m:List Cl,(∀ x∈m,x∈aa l)→nq (aa l) m=n4 (am l) m:=by
    intro m;induction m with
    | nil=>intro _; rfl
    | cons x r ih =>
     intro hm;have c:=hm x (by simp);unfold nq n4;rw[ih fun y i=>hm y (by simp[i])];by_cases hd:x.dim>1
     ·have a:=AN d c;have hn:0<x.sides.length:=by
       have b:=d x c;unfold cQ at b;split at b
       ·cases b
       ·split at b
        ·cases b
        ·rename_i e;simp[aO] at e;have:=e.2 hd;omega
      rw[g] at a ⊢;rw[tx a hn]
     ·simp[hd]
   rw[key _ fun x c=>c]
set_option maxRecDepth 10000
theorem lE {l:List Cl}(h:(ap l).2=0):iz (am l) (aa l) 0=none:=by
 unfold ap at h;split at h
 ·simp at h
 ·cases a:iz (am l) (aa l) 0 with
  | none=>rfl
  | some p=>rw[a] at h; exact absurd h<|vX a
theorem Ds (a b:List Cl):cX a b=EJ a b:=by
 have hb:cI a b=oc a b:=by
  unfold cI oc;rw[dG,dG];by_cases c:(ap a).2=0
  ·by_cases d:(ap b).2=0
   ·rw[bP (dB<|lE c).1,bP (dB<|lE d).1,au,au]
   ·simp[d]
  ·simp[c]
 unfold cX EJ;rw[hb,dG]
section
variable {A:List (List Int)}(hA:iC A)
include hA
end
theorem Fp {tl:List Cl}{c:Cl}(r:0≤c.dim∧c.dim≤8)(k:aO c=false)(l:∀ x∈c.sides,∃ d,ah tl x.cell=some d∧d.dim=c.dim - 1)(m:c.sides.Pairwise fun a b=>a.cell<b.cell)(n:∀ x∈c.sides,x.sign=1∨x.sign = -1)(o:c.dim=1→nf c.sides=0):cQ tl c=0:=by
 have e1:fQ c=false:=by unfold fQ; simp; omega
 have e3:(List.range c.sides.length).any (jg tl c)=false:=by
  rw[zk7];intro i e;have e:=List.mem_range.1 e;obtain ⟨d,f,g⟩:=l _<|gM e;unfold jg;rw[List.getElem?_eq_getElem e];show ¬ cw _ _ i c.sides[i]=true;unfold cw;rw[f];simp only[Option.isSome_some,Bool.not_true,Bool.false_or,Option.getD_some,g,ne_eq,not_true_eq_false,decide_false];by_cases j:i>0
  ·have p:=zd1.1 m (i - 1) i oM e oM;rw[List.getElem?_eq_getElem oM];simp;omega
  ·simp[j]
 have e4:c.sides.any bV=false:=by
  rw[zk7];intro x q
  rcases n x q with h | h <;> simp[bV,h]
 have e5:(decide (c.dim=1)&&decide (nf c.sides≠0))=false:=by
  by_cases hd:c.dim=1
  ·rw[o hd]; simp
  ·simp[hd]
 unfold cQ;rw[e1,k,e3,e4,e5];rfl
section
variable {A B:List (List Int)}(hA:iC A)(hB:iC B)
include hA hB
end
section
variable {A B:List (List Int)}(hA:iC A)(hB:iC B)
include hA hB
end
structure Few (a:List Cl)(A:List (List Int)):Prop where
 good:iC A
 cells:a=A.map (jb A)
 small:∀ s∈A,s.length≤3
 few:A.length≤14
def xD (tl:List Cl)(l:List ak)(r:Int):Int:=(l.flatMap fun x=>(ay tl x).map fun q=>if q.cell=r then x.sign * q.sign else 0).sum
def kL (tl:List Cl)(x:ak)(r:Int):Nat:=((ay tl x).filter fun q=>decide (q.cell=r)).length
def cntR (tl:List Cl)(l:List ak)(r:Int):Nat:=(l.map fun x=>kL tl x r).sum
def lf (tl:List Cl)(l:List ak)(a b:Int):Prop:=∃ x∈l,∃ y∈l,x.cell=a∧y.cell=b∧∃ r,0<kL tl x r∧0<kL tl y r
theorem ur (zl:List (Int×Int))(k x r:Int):eO (fx zl k x) r=eO zl r+if r=k then x else 0:=by
 induction zl with
 | nil =>
  simp only[fx,eO];split <;> simp
 | cons p q ih =>
  obtain ⟨a,z⟩:=p;simp only[fx];by_cases h:k=a
  ·subst h;simp only[if_true,eO];split <;> simp
  ·rw[zg2 h];simp only[eO,ih];by_cases hr:r=a
   ·subst hr;rw[zg3 rfl,zg3 rfl,zg2 fun e=>h e.symm];omega
   ·rw[zg2 hr,zg2 hr]
theorem rt (x:ak)(r:Int):∀ (l:List ak) (zl:List (Int×Int)),eO (l.foldl (jO x) zl) r=eO zl r+(l.map fun q=>if q.cell=r then x.sign * q.sign else 0).sum
 | [],zl=>by simp
 | q::l,zl=>by
  simp only[zj1,zg6,List.sum_cons];rw[rt x r l,jO,ur];by_cases h:r=q.cell
  ·rw[zg3 h,zg3 h.symm]; omega
  ·rw[zg2 h,zg2 fun e=>h e.symm]; omega
theorem uq (tl:List Cl)(l:List ak)(r:Int):eO (fy tl l) r=xD tl l r:=by
 have:∀ (l:List ak) (zl:List (Int×Int)),eO (l.foldl (fun zl x=>(ay tl x).foldl (jO x) zl) zl) r=eO zl r+xD tl l r:=by
  intro l;induction l with
  | nil=>intro zl; simp[xD]
  | cons x q ih =>
   intro zl;simp only[zj1];rw[ih,rt];simp only[xD,zh7,List.sum_append];omega
 have h:=this l [];simpa [fy,eO] using h
theorem o3 (ml:List (Int×Int))(k x:Int):(fx ml k x).map Prod.fst=if ml.any (fun p=>decide (p.1=k)) then ml.map Prod.fst else ml.map Prod.fst++[k]:=by
 induction ml with
 | nil=>simp[fx]
 | cons p r ih =>
  obtain ⟨a,l⟩:=p;simp only[fx];by_cases h:k=a
  ·subst h;simp
  ·have b:¬ a=k:=fun e=>h e.symm;rw[zg2 h];simp only[zg6,ih,List.any_cons,b,decide_false,Bool.false_or];split <;> simp
theorem Ar {ml:List (Int×Int)}(h:(ml.map Prod.fst).Nodup)(k x:Int):((fx ml k x).map Prod.fst).Nodup:=by
 rw[o3];split
 ·exact h
 ·rename_i d;rw[List.nodup_append];refine⟨h,by simp,fun a f b hb e=>d ?_⟩;simp at hb;subst hb;obtain ⟨p,g,c⟩:=zf4.1 f;rw[zk1];exact⟨p,g,by simp[c,e]⟩
theorem kZ (tl:List Cl)(l:List ak):((fy tl l).map Prod.fst).Nodup:=by
 have a:∀ (x:ak) (q:List ak) (zl:List (Int×Int)),(zl.map Prod.fst).Nodup→((q.foldl (jO x) zl).map Prod.fst).Nodup:=by
  intro x q;induction q with
  | nil=>intro zl h; exact h
  | cons r t ih=>intro zl h; exact ih _<|Ar h _ _
 have b:∀ (q:List ak) (zl:List (Int×Int)),(zl.map Prod.fst).Nodup→((q.foldl (fun zl x=>(ay tl x).foldl (jO x) zl) zl).map Prod.fst).Nodup:=by
  intro q;induction q with
  | nil=>intro zl h; exact h
  | cons x t ih=>intro zl h; exact ih _<|a _ _ _ h
 exact b _ _ (by simp)
theorem nS:∀ {zl:List (Int×Int)},(zl.map Prod.fst).Nodup→∀ p∈zl,eO zl p.1=p.2
 | [],_,p,b=>by simp at b
 | (a,z)::r,h,p,b=>by
  simp only[zg6,zk4] at h
  rcases zf3.1 b with rfl | b
  ·simp[eO]
  ·simp only[eO];rw[zg2 fun e=>h.1<|zf4.2 ⟨p,b,e⟩];exact nS h.2 p b
theorem oJ:∀ {zl:List (Int×Int)} {k:Int},eO zl k≠0→∃ p∈zl,p.1=k∧p.2=eO zl k
 | [],_,h=>by simp[eO] at h
 | (a,z)::r,k,h=>by
  simp only[eO] at h ⊢;split
  ·rename_i e;exact⟨(a,z),by simp,e.symm,I⟩
  ·rename_i e;rw[zg2 e] at h;obtain ⟨p,b,c,d⟩:=oJ h;exact⟨p,by simp[b],c,d⟩
theorem oz (tl:List Cl)(l:List ak):(fy tl l).any (fun p=>decide (p.2≠0))=false↔∀ r,xD tl l r=0:=by
 rw[zk7];constructor
 ·intro h r;rw[← uq];refine zh2 fun a=>?_;obtain ⟨p,b,_,c⟩:=oJ a;exact h p b (by simpa [c] using a)
 ·intro h p b;have:=nS (kZ tl l) p b;rw[uq,h] at this;simp[← this]
theorem ru (i r:Int):∀ (l:List ak) (ml:List (Int×List Int)),fj (l.foldl (fg i) ml) r=fj ml r++List.replicate (l.filter fun q=>decide (q.cell=r)).length i
 | [],ml=>by simp
 | q::l,ml=>by
  simp only[zj1];rw[ru i r l,fg,uw,zi9];by_cases h:r=q.cell
  ·rw[zg3 h,zg3 (by simp[h])];simp[List.replicate_succ]
  ·rw[zg2 h,zg2 (by simp; exact fun e=>h e.symm)]
theorem ym (tl:List Cl)(l:List ak)(r:Int):fj (e8 tl l) r=l.zipIdx.flatMap fun p=>List.replicate (kL tl p.1 r) (p.2:Int):=by
 have:∀ (q:List (ak×Nat)) (ml:List (Int×List Int)),fj (q.foldl (fun ml p=>(ay tl p.1).foldl (fg p.2) ml) ml) r=fj ml r++q.flatMap fun p=>List.replicate (kL tl p.1 r) (p.2:Int):=by
  intro q;induction q with
  | nil=>intro ml; simp
  | cons p t ih =>
   intro ml;simp only[zj1];rw[ih,ru];simp[kL]
 have h:=this l.zipIdx [];simpa [e8,fj] using h
theorem A7 (tl:List Cl)(l:List ak)(r:Int):(fj (e8 tl l) r).length=cntR tl l r:=by
 rw[ym];have:∀ (l:List ak) (k:Nat),((l.zipIdx k).flatMap fun p=>List.replicate (kL tl p.1 r) (p.2:Int)).length=cntR tl l r:=by
  intro l;induction l with
  | nil=>intro k; rfl
  | cons x q ih=>intro k; simp only[List.zipIdx_cons,zh7,ze7,List.length_replicate,ih,cntR,zg6,List.sum_cons]
 exact this l 0
theorem og (tl:List Cl)(l:List ak)(r i:Int):i∈fj (e8 tl l) r↔∃ k:Nat,i=k∧∃ x,l[k]?=some x∧0<kL tl x r:=by
 rw[ym,List.mem_flatMap];constructor
 ·rintro ⟨⟨x,k⟩,a,b⟩;obtain ⟨c,rfl⟩:=List.mem_replicate.1 b;refine⟨k,I,x,?_,Nat.pos_of_ne_zero c⟩;simpa using List.mem_zipIdx_iff_getElem?.1 a
 ·rintro ⟨k,rfl,x,d,e⟩;exact⟨(x,k),List.mem_zipIdx_iff_getElem?.2 (by simpa using d),List.mem_replicate.2 ⟨Nat.ne_of_gt e,I⟩⟩
theorem nU:∀ {ml:List (Int×List Int)},(ml.map Prod.fst).Nodup→∀ p∈ml,fj ml p.1=p.2
 | [],_,p,b=>by simp at b
 | (a,z)::r,h,p,b=>by
  simp only[zg6,zk4] at h
  rcases zf3.1 b with rfl | b
  ·simp[fj]
  ·simp only[fj];rw[zg2 fun e=>h.1<|zf4.2 ⟨p,b,e⟩];exact nU h.2 p b
theorem oK:∀ {ml:List (Int×List Int)} {k:Int},fj ml k≠[]→∃ p∈ml,p.1=k∧p.2=fj ml k
 | [],_,h=>by simp[fj] at h
 | (a,z)::r,k,h=>by
  simp only[fj] at h ⊢;split
  ·rename_i e;exact⟨(a,z),by simp,e.symm,I⟩
  ·rename_i e;rw[zg2 e] at h;obtain ⟨p,b,c,d⟩:=oK h;exact⟨p,by simp[b],c,d⟩
theorem Bt:∀ {ml:List (Int×List Int)} {k x:Int},(∀ p∈ml,p.2≠[])→∀ p∈gJ ml k x,p.2≠[]
 | [],_,_,_,p,b=>by simp[gJ] at b; subst b; simp
 | (a,l)::r,k,x,h,p,b=>by
  unfold gJ at b;split at b
  ·rcases zf3.1 b with rfl | b
   ·simp
   ·exact h p (by simp[b])
  ·rcases zf3.1 b with rfl | b
   ·exact h _ (by simp)
   ·exact Bt (fun q c=>h q<|by simp[c]) p b
theorem F9 (tl:List Cl)(l:List ak):∀ p∈e8 tl l,p.2≠[]:=by
 have a:∀ (i:Int) (q:List ak) (ml:List (Int×List Int)),(∀ p∈ml,p.2≠[])→∀ p∈q.foldl (fg i) ml,p.2≠[]:=by
  intro i q;induction q with
  | nil=>intro ml h; exact h
  | cons r t ih=>intro ml h; exact ih _<|Bt h
 have b:∀ (q:List (ak×Nat)) (ml:List (Int×List Int)),(∀ p∈ml,p.2≠[])→∀ p∈q.foldl (fun ml p=>(ay tl p.1).foldl (fg p.2) ml) ml,p.2≠[]:=by
  intro q;induction q with
  | nil=>intro ml h; exact h
  | cons x t ih=>intro ml h; exact ih _<|a _ _ _ h
 exact b _ _ (by simp)
theorem ye (tl:List Cl)(l:List ak):(e8 tl l).any (fun p=>decide ((p.2.length:Int)≠2))=false↔∀ r,cntR tl l r=0∨cntR tl l r=2:=by
 rw[zk7];constructor
 ·intro h r;rw[← A7];by_cases a:fj (e8 tl l) r=[]
  ·left; rw[a]; rfl
  ·right;obtain ⟨p,b,_,c⟩:=oK a;have:=h p b;rw[c] at this;simp at this;omega
 ·intro h p b;have d:=nU (kE tl l) p b;have c:=h p.1;rw[← A7,d] at c;have e:=List.length_pos_iff.2<|F9 tl l p b;simp;omega
theorem Ga (tl:List Cl)(l:List ak):∀ p∈e8 tl l,∀ x∈p.2,0≤x∧x<(l.length:Int):=fun p b x a=>by
 rw[← nU (kE tl l) p b] at a;obtain ⟨k,rfl,y,c,_⟩:=(og tl l p.1 x).1 a;have:=(zf7.1 c).1;omega
theorem Dl {ml:List (Int×List Int)}{n:Nat}(k:∀ p∈ml,p.2.length=2)(hb:∀ p∈ml,∀ x∈p.2,0≤x∧x<(n:Int))(t:0<n):(jz<|dF ml).length=n↔∀ a:Nat,a<n→Cn (eG ml) 0 a:=by
 have c:∀ x:Int,x∈jz (dF ml)↔Rch (j4<|dF ml) 0 x:=fun x=>vU (cnt:=nZ<|dF ml) (fun v v' h=>jL h) (ln _) (zl1<|zc6 _ _) (by simp[j4]) x;have d:(jz<|dF ml).Nodup:=jK _ _ _ _ (by simp);have f:∀ x∈jz (dF ml),0≤x∧x<(n:Int):=fun x g=>by
  have hr:=(tM k 0 x).1<|(c x).1 g;have:∀ a b,Cn (eG ml) a b→(0≤a∧a<(n:Int))→(0≤b∧b<(n:Int)):=by
   intro a b h;induction h with
   | refl _=>exact fun h=>h
   | step e _ ih =>
    intro _
    rcases e with e | e
    ·exact ih (iM hb e).2
    ·exact ih (iM hb e).1
  exact this 0 x hr oM
 generalize jz (dF ml)=seen at *;constructor
 ·intro hl a u;refine Classical.byContradiction fun o=>?_;have q:(a:Int) ∉ seen:=fun h=>o<|(tM k 0 a).1<|(c a).1 h;have:=l9 (l:=(a:Int)::seen) (n:=n) (zk4.2 ⟨q,d⟩) fun x g=>by
   rcases zf3.1 g with rfl | g
   ·omega
   ·exact f x g
  simp at this;omega
 ·intro j;refine Nat.le_antisymm (l9 d f) ?_;have s:=ef (m:=List.range n) (l:=seen.map Int.toNat) List.nodup_range (oD d fun x g=>(f x g).1) fun i r=>by
   have r:=List.mem_range.1 r;exact zf4.2 ⟨(i:Int),(c i).2<|(tM k 0 i).2<|j i r,by simp⟩
  simpa using s
theorem Cn.map {E E':Int→Int→Prop}{f:Int→Int}(h:∀ a b,E a b→Cn E' (f a) (f b)){a b:Int}(c:Cn E a b):Cn E' (f a) (f b):=by
 induction c with
 | refl _=>exact .refl _
 | step e _ ih =>
  rcases e with e | e
  ·exact (h _ _ e).trans ih
  ·exact (h _ _ e).symm.trans ih
theorem kG {tl:List Cl}{c:Cl}(L:0<c.sides.length)(M:(c.sides.map ak.cell).Nodup) :
  bC tl c=0↔(∀ r,xD tl c.sides r=0)∧(∀ r,cntR tl c.sides r=0∨cntR tl c.sides r=2)∧∀ x∈c.sides,∀ y∈c.sides,Cn (lf tl c.sides) x.cell y.cell:=by
 unfold bC;generalize c.sides=l at *;by_cases J:(fy tl l).any (fun p=>decide (p.2≠0))=false
 ·rw[zg2 (by rw[J]; simp)];by_cases hm:(e8 tl l).any (fun p=>decide ((p.2.length:Int)≠2))=false
  ·rw[zg2 (by rw[hm]; simp)];have N:∀ p∈e8 tl l,p.2.length=2:=fun p D=>by
    have:=zk7.1 hm p D;simp at this;omega
   have O:=Dl N (Ga tl l) L;have o:∀ {i j:Nat} {x y:ak},l[i]?=some x→l[j]?=some y→x.cell=y.cell→i=j:=fun {i j x y} n g e=>by
    obtain ⟨i1,e1⟩:=zf7.1 n;obtain ⟨i2,e2⟩:=zf7.1 g;have key:∀ {a b:Nat} (E:a<l.length) (hb:b<l.length),a<b→l[a].cell≠l[b].cell:=fun {a b} E hb h=>by
     have:=zd1.1 M a b (by simpa using E) (by simpa using hb) h;simpa using this
    rcases Nat.lt_trichotomy i j with h | h | h
    ·exact absurd (by rw[e1,e2]; exact e)<|key i1 i2 h
    ·exact h
    ·exact absurd (by rw[e1,e2]; exact e.symm)<|key i2 i1 h
   have t:(∀ a:Nat,a<l.length→Cn (eG<|e8 tl l) 0 a)↔∀ x∈l,∀ y∈l,Cn (lf tl l) x.cell y.cell:=by
    constructor
    ·intro d x A y s;obtain ⟨i,n,rfl⟩:=zc8 A;obtain ⟨j,g,rfl⟩:=zc8 s;have F:=(d i n).symm.trans<|d j g;have:=F.map (f:=fun a=>(l.getD a.toNat ⟨0,0⟩).cell) (E':=lf tl l) fun a b hl=>by
      obtain ⟨p,D,B,C⟩:=hl;rw[← nU (kE tl l) p D] at B C;obtain ⟨k,rfl,x,A,K⟩:=(og tl l p.1 a).1<|List.mem_of_head? B;obtain ⟨m,rfl,y,s,P⟩:=(og tl l p.1 b).1 C;refine .one ⟨x,zg4 A,y,zg4 s,?_,?_,p.1,K,P⟩
      ·simp[zh3,A]
      ·simp[zh3,s]
     simpa [zh3,n,g] using this
    ·intro d;have key:∀ a b,Cn (lf tl l) a b→∀ (i:Nat) (x:ak),l[i]?=some x→x.cell=a→∀ (j:Nat) (y:ak),l[j]?=some y→y.cell=b→Cn (eG<|e8 tl l) (i:Int) (j:Int):=by
      have one:∀ {a b:Int},lf tl l a b→∀ (i:Nat) (x:ak),l[i]?=some x→x.cell=a→∃ (j:Nat) (y:ak),l[j]?=some y∧y.cell=b∧Cn (eG<|e8 tl l) (i:Int) (j:Int):=by
       rintro a b ⟨x',Q,y,s,rfl,rfl,r,B,C⟩ i x n G;obtain ⟨i',H,rfl⟩:=zc8 Q;obtain ⟨j,g,rfl⟩:=zc8 s;have R:=o n (List.getElem?_eq_getElem H) G;subst R;refine⟨j,l[j],List.getElem?_eq_getElem g,I,?_⟩;have m1:=(og tl l r i).2 ⟨i,rfl,l[i],List.getElem?_eq_getElem H,B⟩;have m2:=(og tl l r j).2 ⟨j,rfl,l[j],List.getElem?_eq_getElem g,C⟩;obtain ⟨p,D,_,S⟩:=oK (ml:=e8 tl l) (k:=r) fun e=>by rw[e] at m1; simp at m1
       rw[← S] at m1 m2;cases K:p.2 with
       | nil=>rw[K] at m1; simp at m1
       | cons u q =>
        have V:∀ v∈p.2,eG (e8 tl l) u v:=fun v W=>⟨p,D,by rw[K]; rfl,W⟩;exact (Cn.one<|V _ m1).symm.trans<|Cn.one<|V _ m2
      intro a b F;induction F with
      | refl a =>
       intro i x n G j y g w;have:=o n g<|G.trans w.symm;subst this;exact .refl _
      | step e _ ih =>
       intro i x n G j y g w;have e':lf tl l _ _:=e.elim (fun e=>e) fun ⟨x,A,y,s,X,N,r,B,C⟩=>⟨y,s,x,A,N,X,r,C,B⟩;obtain ⟨k,z,Y,hz,F⟩:=one e' i x n G;exact F.trans<|ih k z Y hz j y g w
     intro a E;exact key _ _ (d _ (gM L) _<|gM E) 0 _ (List.getElem?_eq_getElem L) I a _ (List.getElem?_eq_getElem E) I
   rw[← t,← O];constructor
   ·intro h;refine⟨(oz tl l).1 J,(ye tl l).1 hm,?_⟩;refine zh2 fun Z=>?_;rw[zg3 oM] at h;exact absurd h dC
   ·rintro ⟨_,_,h⟩;rw[zg2 oM]
  ·have T:(e8 tl l).any (fun p=>decide ((p.2.length:Int)≠2))=true:=by simpa using hm
   rw[zg3 T];exact⟨fun h=>absurd h dC,fun h=>absurd ((ye tl l).2 h.2.1) hm⟩
 ·have U:(fy tl l).any (fun p=>decide (p.2≠0))=true:=by simpa using J
  rw[zg3 U];exact⟨fun h=>absurd h dC,fun h=>absurd ((oz tl l).2 h.1) J⟩
structure Fm (tl:List Cl)(c:Cl):Prop where
 dim:0≤c.dim∧c.dim≤8
 cnt:aO c=false
 found:∀ x∈c.sides,∃ d,ah tl x.cell=some d∧d.dim=c.dim - 1
 asc:c.sides.Pairwise fun a b=>a.cell<b.cell
 sg:∀ x∈c.sides,x.sign=1∨x.sign = -1
 one:c.dim=1→nf c.sides=0
theorem Fm.ok {tl:List Cl}{c:Cl}(h:Fm tl c):cQ tl c=0:=Fp h.dim h.cnt h.found h.asc h.sg h.one
theorem Gp {l:List ak}(c:l.Pairwise fun a b=>a.cell≤b.cell)(hd:∀ i x y,l[i]?=some x→l[i+1]?=some y→x.cell≠y.cell):l.Pairwise fun a b=>a.cell<b.cell:=by
 induction l with
 | nil=>exact List.Pairwise.nil
 | cons a r ih =>
  obtain ⟨d,e⟩:=zk5.1 c;have hr:=ih e fun i x y f g=>hd (i+1) x y (by simpa using f) (by simpa using g);refine zk5.2 ⟨fun b hb=>?_,hr⟩;cases r with
  | nil=>simp at hb
  | cons z q =>
   have hz:a.cell<z.cell:=by
    have:=d z (by simp);have:=hd 0 a z rfl rfl;omega
   rcases zf3.1 hb with rfl | hb
   ·exact hz
   ·have:=(zk5.1 hr).1 b hb;omega
theorem GH {tl:List Cl}{c:Cl}(h:cQ tl c=0)(l:c.sides.Pairwise fun a b=>a.cell≤b.cell):Fm tl c:=by
 unfold cQ at h;split at h
 ·cases h
 ·rename_i m;split at h
  ·cases h
  ·rename_i n;split at h
   ·cases h
   ·rename_i o;split at h
    ·cases h
    ·rename_i p;split at h
     ·cases h
     ·rename_i q;have f:∀ i x,c.sides[i]?=some x→cw tl c i x=false:=fun i x g=>by
       have j:=(zf7.1 g).1;have:=zk7.1 ((zj9 _).mp o) i<|List.mem_range.2 j;unfold jg at this;rw[g] at this;simpa using this
      refine⟨?_,by simpa using n,fun x g=>?_,Gp l fun i x y g r e=>?_,fun x g=>?_,fun hd=>?_⟩
      ·simp[fQ] at m; omega
      ·obtain ⟨i,j,rfl⟩:=zc8 g;have:=f i _<|List.getElem?_eq_getElem j;unfold cw at this;simp only[Bool.or_eq_false_iff,Bool.not_eq_false',decide_eq_false_iff_not,ne_eq,Decidable.not_not] at this;obtain ⟨⟨g1,g2⟩,_⟩:=this;obtain ⟨d,hd⟩:=zi1.1 g1;rw[hd] at g2;exact⟨d,hd,g2⟩
      ·have:=f (i+1) y r;unfold cw at this;rw[show i+1 - 1=i by omega,g] at this;simp[e] at this
      ·have:=zk7.1 ((zj9 _).mp p) x g;simp[bV] at this;by_cases k:x.sign=1
       ·exact .inl k
       ·exact .inr<|this k
      ·simpa [hd] using q
structure Rt (l:List Cl):Prop where
 few:l.length≤4000
 asc:l.Pairwise fun a b=>a.id<b.id
 pos:∀ x∈l,0<x.id
 form:∀ x∈l,Fm l x
 around:∀ x∈l,x.dim>1→bC l x=0
theorem Rt.canon {l:List Cl}(h:Rt l):aa l=l:=by
 unfold aa;rw[(bI (key:=Cl.id) (h.asc.imp fun h=>by omega)<|aI.refl l).symm];have:∀ c∈l,ci c=c:=fun c a=>by
  unfold ci;rw[(bI (key:=ak.cell) ((h.form c a).asc.imp fun h=>by omega)<|aI.refl c.sides).symm]
 rw[zc9 this];simp
theorem Rt.tab {l:List Cl}(h:Rt l):am l=l:=by rw[bP (by rw[h.canon]; exact h.asc),h.canon]
theorem Rt.check {l:List Cl}(h:Rt l):ap l=(0,0):=by
 refine yx h.few ?_ ?_ ?_ ?_ <;> rw[h.canon]
 ·exact h.pos
 ·exact h.asc
 ·exact fun x a=>(h.form x a).ok
 ·exact h.around
theorem Rt.find {l:List Cl}(h:Rt l){c:Cl}(a:c∈l):ah l c.id=some c:=by
 refine sY ?_ a;rw[List.Nodup,zk6];exact h.asc.imp fun h=>by omega
theorem kS {tl:List Cl}:∀ {l:List Cl},n4 tl l=none→∀ x∈l,x.dim>1→bC tl x=0
 | [],_,x,a,_=>by simp at a
 | y::r,h,x,a,hd=>by
  unfold n4 at h;split at h
  ·cases h
  ·rename_i hn
   rcases zf3.1 a with rfl | a
   ·exact zh2 fun h=>hn ⟨hd,h⟩
   ·exact kS h x a hd
theorem uI {tl:List Cl}:∀ {l:List Cl} {p:Int×Int},n4 tl l=some p→p.2≠0
 | [],_,h=>by cases h
 | y::r,p,h=>by
  unfold n4 at h;split at h
  ·rename_i hn; cases h; exact hn.2
  ·exact uI h
theorem xq (l:List Cl):∀ c∈aa l,c.sides.Pairwise fun a b=>a.cell≤b.cell:=fun c e=>by
 obtain ⟨d,_,rfl⟩:=zf4.1 e;exact di d.sides
theorem iI {l:List Cl}(h:(ap l).2=0):Rt (aa l):=by
 have a:=lE h;obtain ⟨b,g,i⟩:=dB a;have c:=bP b;have j:l.length≤4000:=CB h;refine⟨by rw[au]; exact j,b,g,fun x d=>GH (by rw[← c]; exact i x d)<|xq l x d,?_⟩;have e:n4 (am l) (aa l)=none:=by
  unfold ap at h;rw[zg2 oM,a] at h;cases f:n4 (am l) (aa l) with
  | none=>rfl
  | some p =>
   rw[f] at h;exact absurd h<|uI f
 rw[c] at e;exact kS e
theorem oC {l m:List Int}(h:l.Perm m):l.sum=m.sum:=by
 induction h with
 | nil=>rfl
 | cons x _ ih=>simp[ih]
 | swap x y l=>simp; omega
 | trans _ _ ih1 ih2=>exact ih1.trans ih2
theorem BV {l m:List Nat}(h:l.Perm m):l.sum=m.sum:=by
 induction h with
 | nil=>rfl
 | cons x _ ih=>simp[ih]
 | swap x y l=>simp; omega
 | trans _ _ ih1 ih2=>exact ih1.trans ih2
theorem fG {α:Type}{key:α→Int}(l:List α):(sortBy key l).Perm l:=by
 have a:∀ (x:α) (l:List α),(ins key x l).Perm (x::l):=by
  intro x l;induction l with
  | nil=>exact .refl _
  | cons y r ih =>
   unfold ins;split
   ·exact .refl _
   ·exact (ih.cons y).trans<|.swap x y r
 induction l with
 | nil=>exact .refl _
 | cons x r ih=>exact (a x _).trans<|ih.cons x
def inner (tl:List Cl)(x:ak)(r:Int):Int:=((ay tl x).map fun q=>if q.cell=r then x.sign * q.sign else 0).sum
theorem kz (tl:List Cl)(l:List ak)(r:Int):xD tl l r=(l.map fun x=>inner tl x r).sum:=by
 unfold xD;induction l with
 | nil=>rfl
 | cons x q ih=>simp only[zh7,List.sum_append,zg6,List.sum_cons,ih]; rfl
theorem BE {tl:List Cl}{l m:List ak}(h:l.Perm m)(r:Int):xD tl l r=xD tl m r:=by
 rw[kz,kz];exact oC<|h.map _
theorem CA {tl:List Cl}{l m:List ak}(h:l.Perm m)(r:Int):cntR tl l r=cntR tl m r:=BV (h.map _)
def sgn (b:Bool):Int:=if b then -1 else 1
theorem ug (b:Bool){a:Int}(h:a=1∨a = -1):uZ b a=sgn b * a∧(uZ b a=1∨uZ b a = -1):=by
 rcases h with rfl | rfl <;> cases b <;> exact⟨by decide,by decide⟩
theorem l5 {α:Type}{l:List α}{f g:α→Int}{K:Int}(h:∀ x∈l,f x=K * g x):(l.map f).sum=K * (l.map g).sum:=by
 induction l with
 | nil=>simp
 | cons x r ih =>
  simp only[zg6,List.sum_cons];rw[h x (by simp),ih fun y a=>h y (by simp[a]),Int.mul_add]
structure Nm (l:List Cl)(k:Int):Prop where
 inj:∀ a∈l,∀ b∈l,eJ a.id k=eJ b.id k→a=b
 pos:∀ a∈l,0<eJ a.id k
section
variable {l:List Cl}(h:Rt l){k:Int}(hn:Nm l k)(t:Int)
include h hn
omit hn in
theorem gK (c:Cl)(b:c∈l){x:ak}(e:x∈c.sides):∃ d∈l,d.id=x.cell∧ah l x.cell=some d∧d.dim=c.dim - 1:=by
 obtain ⟨d,hd,a⟩:=(h.form c b).found x e;obtain ⟨f,g⟩:=aG hd;exact⟨d,f,g,hd,a⟩
theorem Fc:((l.map<|aK k t).map Cl.id).Nodup:=by
 rw[zi7,List.Nodup,zk6];refine List.Pairwise.imp_of_mem ?_ h.asc;intro a b c hb d e;have:=hn.inj a c b hb e;subst this;omega
theorem uf:((aa<|l.map<|aK k t).map Cl.id).Nodup:=by
 have a:=Fc h hn t;have b:((aa<|l.map<|aK k t).map Cl.id).Perm ((l.map<|aK k t).map Cl.id):=by
  rw[rO];exact (fG _).map _
 exact b.symm.nodup a
omit h hn in
theorem Fb {c:Cl}(a:c∈l):ci (aK k t c)∈aa (l.map<|aK k t) :=
 zf4.2 ⟨_,(fD _ _).2<|zf4.2 ⟨c,a,rfl⟩,rfl⟩
omit h hn in
theorem rW {c':Cl}(b:c'∈aa (l.map<|aK k t)):∃ c∈l,c'=ci (aK k t c):=by
 obtain ⟨d,hd,rfl⟩:=zf4.1 b;obtain ⟨c,a,rfl⟩:=zf4.1<|(fD _ _).1 hd;exact⟨c,a,I⟩
theorem nO {c:Cl}(a:c∈l):ah (aa<|l.map<|aK k t) (eJ c.id k)=some (ci<|aK k t c) :=
 sY (x:=ci<|aK k t c) (uf h hn t) (Fb t a)
omit h hn in
theorem fe (c:Cl):(ci<|aK k t c).sides.Perm (c.sides.map<|bi k t c):=fG _
omit hn in
theorem nN {c:Cl}(d:c∈l){x:ak}(e:x∈c.sides):(bi k t c x).sign=sgn (jf t c x.cell) * (sgn (jy t c) * x.sign)∧((bi k t c x).sign=1∨(bi k t c x).sign = -1):=by
 have a:=ug (jy t c)<|(h.form c d).sg x e;have b:=ug (jf t c x.cell) a.2;exact⟨by rw[← a.1]; exact b.1,b.2⟩
theorem xS {c:Cl}(m:c∈l):Fm (aa<|l.map<|aK k t) (ci<|aK k t c):=by
 have r:=h.form c m;have n:(ci<|aK k t c).sides.length=c.sides.length:=by rw[(fe t c).length_eq,ze8]
 have f:∀ x',x'∈(ci<|aK k t c).sides↔∃ x∈c.sides,bi k t c x=x':=fun x'=>by rw[(fe t c).mem_iff,zf4]
 refine⟨r.dim,?_,fun x' i=>?_,?_,fun x' i=>?_,fun hd=>?_⟩
 ·have:=r.cnt;unfold aO at this ⊢;rw[n];exact this
 ·obtain ⟨x,o,rfl⟩:=(f x').1 i;obtain ⟨d,hd,j,_,u⟩:=gK h c m o;have:=nO h hn t hd;rw[j] at this;exact⟨_,this,u⟩
 ·have s:(ci<|aK k t c).sides.Pairwise fun a b=>a.cell≤b.cell:=di _;have p:((ci<|aK k t c).sides.map ak.cell).Nodup:=by
   refine ((fe t c).map ak.cell).symm.nodup ?_;rw[zi7,List.Nodup,zk6];refine List.Pairwise.imp_of_mem ?_ r.asc;intro a b y hb z e;obtain ⟨d,hd,j,_⟩:=gK h c m y;obtain ⟨d',v,q,_⟩:=gK h c m hb;have e:eJ a.cell k=eJ b.cell k:=e;rw[← j,← q] at e;have:=hn.inj d hd d' v e;subst this;omega
  rw[List.Nodup,zk6] at p;exact (s.and p).imp fun ⟨w,A⟩=>by omega
 ·obtain ⟨x,o,rfl⟩:=(f x').1 i;exact (nN h t m o).2
 ·have hd:c.dim=1:=hd;have s:=r.one hd;unfold nf at s ⊢;rw[oC<|(fe t c).map ak.sign,zi7];rw[l5 (g:=ak.sign) (K:=sgn<|jy t c) fun x o=>?_,s,Int.mul_zero];have p:=(nN (k:=k) h t m o).1;have w:jf t c x.cell=false:=by unfold jf; simp[hd]
  rw[w] at p;show (bi k t c x).sign=_;rw[p];unfold sgn;simp
theorem sF {c:Cl}(m:c∈l){x:ak}(n:x∈c.sides){e:Cl}(i:e∈l):kL (aa<|l.map<|aK k t) (bi k t c x) (eJ e.id k)=kL l x e.id:=by
 obtain ⟨d,hd,b,f,_⟩:=gK h c m n;unfold kL ay;rw[f,show (bi k t c x).cell=eJ d.id k by rw[b]; rfl,nO h hn t hd];show ((ci<|aK k t d).sides.filter _).length=_;rw[((fe t d).filter _).length_eq,List.filter_map,ze8];congr 1;refine List.filter_congr fun q o=>?_;obtain ⟨u,j,g,_⟩:=gK h d hd o;show decide (eJ q.cell k=eJ e.id k)=decide (q.cell=e.id);rw[decide_eq_decide,← g];by_cases a:u=e
 ·subst a; simp
 ·have p:¬ eJ u.id k=eJ e.id k:=fun e'=>a<|hn.inj u j e i e';have r:¬ u.id=e.id:=fun e'=>a (by have a1:=h.find j; have a2:=h.find i; rw[e',a2] at a1; injection a1 with a1; exact a1.symm);simp[p,r]
theorem px {c:Cl}(g:c∈l){x:ak}(i:x∈c.sides){r:Int}(hr:∀ e∈l,eJ e.id k≠r):kL (aa<|l.map<|aK k t) (bi k t c x) r=0:=by
 obtain ⟨d,hd,a,j,_⟩:=gK h c g i;unfold kL ay;rw[show (bi k t c x).cell=eJ d.id k by rw[a]; rfl,nO h hn t hd];show ((ci<|aK k t d).sides.filter _).length=_;rw[((fe t d).filter _).length_eq,List.length_eq_zero_iff,List.filter_eq_nil_iff];intro q' b;obtain ⟨q,m,rfl⟩:=zf4.1 b;obtain ⟨u,n,f,_⟩:=gK h d hd m;have:=hr u n;rw[f] at this;show ¬ decide (eJ q.cell k=r)=true;simpa using this
theorem BS {c:Cl}(r:c∈l)(g:c.dim>1){x:ak}(s:x∈c.sides){e:Cl}(v:e∈l) :
  inner (aa<|l.map<|aK k t) (bi k t c x) (eJ e.id k)=sgn (jy t c) * sgn ((decide (t>1)&&decide (c.dim - 1>1))&&decide (e.id.tmod t=1)) * inner l x e.id:=by
 obtain ⟨d,hd,f,i,j⟩:=gK h c r s;have m:=(nN (k:=k) h t r s).1;unfold inner ay;rw[i,show (bi k t c x).cell=eJ d.id k by rw[f]; rfl,nO h hn t hd];show ((ci<|aK k t d).sides.map _).sum=_;rw[oC<|(fe t d).map _,zi7];show _=_ * (d.sides.map _).sum;refine l5 fun q w=>?_;obtain ⟨u,y,a,_⟩:=gK h d hd w;have n:=(nN (k:=k) h t hd w).1;simp only[Function.comp_def];show (if eJ q.cell k=eJ e.id k then (bi k t c x).sign * (bi k t d q).sign else 0)=_;by_cases b:u=e
 ·subst b;rw[a,zg3 rfl,zg3 rfl,m,n];have o:jf t c x.cell=jy t d:=by
   unfold jf jy;rw[f];simp[g]
  have p:jf t d q.cell=((decide (t>1)&&decide (c.dim - 1>1))&&decide (q.cell.tmod t=1)):=by
   unfold jf;rw[j]
  rw[o,p];generalize jy t d=b1;generalize jy t c=b2;generalize ((decide (t>1)&&decide (c.dim - 1>1))&&decide (q.cell.tmod t=1))=b3;cases b1 <;> cases b2 <;> cases b3 <;> simp[sgn,Int.neg_mul,Int.mul_neg]
 ·have o:¬ eJ q.cell k=eJ e.id k:=fun e'=>b<|hn.inj u y e v (by rw[a]; exact e');have p:¬ q.cell=e.id:=fun e'=>b (by have a1:=h.find y; have a2:=h.find v; rw[a,e',a2] at a1; injection a1 with a1; exact a1.symm);rw[zg2 o,zg2 p,Int.mul_zero]
omit h hn in
theorem DL {tl:List Cl}{x:ak}{r:Int}(c:kL tl x r=0):inner tl x r=0:=by
 unfold kL at c;rw[List.length_eq_zero_iff,List.filter_eq_nil_iff] at c;unfold inner;have:((ay tl x).map fun q=>if q.cell=r then x.sign * q.sign else 0)=(ay tl x).map fun _=>(0:Int):=zc9 fun q d=>zg2 (by simpa using c q d);rw[this];generalize ay tl x=m;induction m with
 | nil=>rfl
 | cons a b ih=>simpa using ih
theorem zF {c:Cl}(n:c∈l)(p:c.dim>1):bC (aa<|l.map<|aK k t) (ci<|aK k t c)=0:=by
 have J:=h.form c n;have z:=xS h hn t n;have s:0<c.sides.length:=by
  have:=J.cnt;simp[aO] at this;have:=this.2 p;omega
 have w:(ci<|aK k t c).sides.length=c.sides.length:=by rw[(fe t c).length_eq,ze8]
 have nd:∀ {c:Cl},(c.sides.Pairwise fun a b=>a.cell<b.cell)→(c.sides.map ak.cell).Nodup:=fun h=>by
  rw[List.Nodup,zk6];exact h.imp fun h=>by omega
 obtain ⟨a1,a2,a3⟩:=(kG s<|nd J.asc).1<|h.around c n p;refine (kG (by rw[w]; exact s)<|nd z.asc).2 ⟨fun r=>?_,fun r=>?_,fun x' A y' B=>?_⟩
 ·rw[BE<|fe t c,kz,zi7];simp only[Function.comp_def];by_cases hr:∃ e∈l,eJ e.id k=r
  ·obtain ⟨e,d,rfl⟩:=hr;have o:=a1 e.id;rw[kz] at o;rw[l5 (g:=fun x=>inner l x e.id) (K:=sgn (jy t c) * sgn ((decide (t>1)&&decide (c.dim - 1>1))&&decide (e.id.tmod t=1))) fun x i=>BS h hn t n p i d,o,Int.mul_zero]
  ·have hr:∀ e∈l,eJ e.id k≠r:=fun e d e'=>hr ⟨e,d,e'⟩;rw[l5 (g:=fun _=>(0:Int)) (K:=0) fun x i=>by
    rw[DL (px h hn t n i hr)];rfl,Int.zero_mul]
 ·rw[CA<|fe t c];unfold cntR;rw[zi7];simp only[Function.comp_def];by_cases hr:∃ e∈l,eJ e.id k=r
  ·obtain ⟨e,d,rfl⟩:=hr;have o:=a2 e.id;unfold cntR at o;rw[zc9 (g:=fun x=>kL l x e.id) fun x i=>sF h hn t n i d];exact o
  ·have hr:∀ e∈l,eJ e.id k≠r:=fun e d e'=>hr ⟨e,d,e'⟩;left;rw[zc9 (g:=fun _=>0) fun x i=>px h hn t n i hr];generalize c.sides=m;induction m with
   | nil=>rfl
   | cons a b ih=>simpa using ih
 ·have j:∀ x',x'∈(ci<|aK k t c).sides↔x'∈c.sides.map (bi k t c):=fun x'=>(fe t c).mem_iff;obtain ⟨x,i,rfl⟩:=zf4.1<|(j x').1 A;obtain ⟨y,N,rfl⟩:=zf4.1<|(j y').1 B;have hm:∀ x∈c.sides,bi k t c x∈(ci<|aK k t c).sides:=fun x i=>(j _).2<|zf4.2 ⟨x,i,rfl⟩;refine (a3 x i y N).map (f:=fun a=>eJ a k) fun a b=>?_;rintro ⟨u,C,v,L,rfl,rfl,r,o,O⟩;obtain ⟨du,D,M,E,_⟩:=gK h c n C;have hr:∃ e∈l,e.id=r:=by
   unfold kL ay at o;rw[E] at o;obtain ⟨q,P⟩:=List.exists_mem_of_length_pos o;obtain ⟨F,G⟩:=zh6.1 P;obtain ⟨e,d,H,_⟩:=gK h du D (x:=q) F;exact⟨e,d,by rw[H]; simpa using G⟩
  obtain ⟨e,d,rfl⟩:=hr;exact .one ⟨_,hm u C,_,hm v L,I,I,eJ e.id k,by rw[sF h hn t n C d]; exact o,by rw[sF h hn t n L d]; exact O⟩
theorem BR:Rt (aa<|l.map<|aK k t):=by
 refine⟨by rw[au,ze8]; exact h.few,?_,fun x' a=>?_,fun x' a=>?_,fun x' a hd=>?_⟩
 ·have d:=jw<|l.map<|aK k t;have e:=uf h hn t;rw[zk6] at d;rw[List.Nodup,zk6] at e;exact (d.and e).imp fun ⟨f,g⟩=>by omega
 ·obtain ⟨c,b,rfl⟩:=rW t a;exact hn.pos c b
 ·obtain ⟨c,b,rfl⟩:=rW t a;exact xS h hn t b
 ·obtain ⟨c,b,rfl⟩:=rW t a;exact zF h hn t b hd
end
def Bd (l:List Cl):Prop:=∀ c∈l,c.id≤l.length
theorem A4 (ls:List (List Int)):Rt (dy ls)∧Bd (dy ls):=by
 have b:=iI (l:=dy ls) (by rw[wC]);have d:aa (dy ls)=dy ls:=by
  unfold dy;cases aW [] ls with
  | none=>rfl
  | some all=>exact fK _
 rw[d] at b;refine⟨b,?_⟩;unfold dy;cases h:aW [] ls with
 | none=>intro c a; simp at a
 | some all =>
  obtain ⟨hg,_⟩:=ix ls [] h iC.nil (by simp);dsimp only;rw[hg.cells];intro c a;obtain ⟨s,e,rfl⟩:=zf4.1 a;have:=(zf7.1<|hg.get_lb e).1;show ixC all s≤_;unfold ixC;rw[ze8];omega
theorem Eo {l:List Int}{x:Int}(h:x∈l):lbI l x<l.length:=by
 unfold lbI;induction l with
 | nil=>simp at h
 | cons a r ih =>
  rw[zi9]
  rcases zf3.1 h with rfl | h
  ·have:=zc6 (fun y=>decide (y<x)) r;simp;omega
  ·have:=ih h;split
   ·simp only[zf1]; omega
   ·simp only[zf1]; omega
theorem vS (a b:List Cl):Rt (cX a b)∧Bd (cX a b)∧(cX a b).length≤a.length * b.length:=by
 rw[Ds];unfold EJ;split
 ·exact⟨⟨by simp,List.Pairwise.nil,by simp,by simp,by simp⟩,fun c f=>by simp at f,by simp⟩
 ·rename_i g;split
  ·rename_i h;have e:(aa<|dP a b).length=a.length * b.length:=by
    rw[au];unfold dP;rw[jo,au,au]
   refine⟨iI h,fun c f=>?_,by rw[e]; exact Nat.le_refl _⟩;rw[e];obtain ⟨i,j,_⟩:=zJ (by simpa using g);have ta:=bP (dB<|lE i).1;have tb:=bP (dB<|lE j).1;obtain ⟨d,hd,rfl⟩:=zf4.1 f;have hd:=(fD _ _).1 hd;unfold dP at hd;rw[ta,tb] at hd;obtain ⟨x,k,hd⟩:=List.mem_flatMap.1 hd;obtain ⟨y,l,rfl⟩:=zf4.1 hd;have l1:=Eo (zf4.2 ⟨x,k,rfl⟩:x.id∈(aa a).map Cl.id);have l2:=Eo (zf4.2 ⟨y,l,rfl⟩:y.id∈(aa b).map Cl.id);rw[ze8,au] at l1 l2;show aX (aa a) (aa b) x.id y.id≤_;unfold aX;rw[au];have m:(lbI ((aa a).map Cl.id) x.id+1) * b.length≤a.length * b.length:=Nat.mul_le_mul_right _ l1;rw[Nat.succ_mul] at m;have n:((lbI ((aa a).map Cl.id) x.id * b.length:Nat):Int)=(lbI ((aa a).map Cl.id) x.id:Int) * (b.length:Int):=Int.natCast_mul _ _;rw[← n];omega
  ·exact⟨⟨by simp,List.Pairwise.nil,by simp,by simp,by simp⟩,fun c f=>by simp at f,by simp⟩
theorem zK:∀ n,n<7→2≤n→(ap<|wO n).2=0∧∀ c∈wO n,c.id≤90:=by decide +kernel
theorem ld:∀ (ls acc:List (List Int)) {all:List (List Int)},aW acc ls=some all→(∀ x∈ls,x.length≤2)→all.length≤acc.length+3 * ls.length
 | [],acc,all,h,_=>by cases h; simp
 | s::r,acc,all,h,hl=>by
  have b:=hl s (by simp);have c:(dA s).length≤s.length:=by
   unfold dA;exact zk9 (kX _ _) (by rw[gj]; exact Nat.le_refl _)
  simp only[zf1];unfold aW at h;split at h
  ·have:=ld r acc h fun x a=>hl x (by simp[a]);omega
  ·split at h
   ·cases h
   ·have d:=ld r _ h fun x a=>hl x (by simp[a]);have e:(eI acc<|dA s).length≤acc.length+3:=by
     unfold eI;refine zk9 (kX _ _) ?_;rw[(iX _).length_eq,ze7];have:2 ^ (dA s).length≤2 ^ 2:=Nat.pow_le_pow_right dC oM;simp[bL];omega
    omega
theorem rM:(dy [[0,1],[1,2],[0,2]]).length≤9:=by
 unfold dy;cases h:aW [] [[0,1],[1,2],[0,2]] with
 | none=>simp
 | some all =>
  have:=ld _ _ h dC;dsimp only;rw[au,bJ];simpa using this
theorem vT (m:Int)(ls:List (List Int))(y:Int):Rt (qy<|oy m ls y)∧∀ c∈qy (oy m ls y),c.id≤90:=by
 have key:∀ l:List Cl,Rt l→(l.length≤45→∀ c∈l,c.id≤90)→Rt (qy l)∧∀ c∈qy l,c.id≤90:=by
  intro l k n;unfold qy;split
  ·have e:=vS (dy [[0,1],[1,2],[0,2]])<|dy [[0,1],[1,2],[0,2]];refine⟨e.1,fun c d=>?_⟩;have o:=e.2.1 c d;have i:=e.2.2;have f:qq.length≤9 * 9:=zk9 i<|Nat.mul_le_mul rM rM;have g:c.id≤qq.length:=o;omega
  ·exact⟨k,n oM⟩
 have h:∀ ls,Rt (qy<|dy ls)∧∀ c∈qy (dy ls),c.id≤90:=fun ls=>key _ (A4 ls).1 fun hl c d=>by have:=(A4 ls).2 c d; omega
 have j:∀ a b,Rt (qy<|cX a b)∧∀ c∈qy (cX a b),c.id≤90:=fun a b=>key _ (vS a b).1 fun hl c d=>by have:=(vS a b).2.1 c d; omega
 have i:=dE y 5 dC dC;unfold oy
 repeat' split
 ·exact h _
 ·exact j _ _
 ·have f:=zK (2+bU y 5).toNat oM oM;have g:=iI f.1;rw[show aa (wO (2+bU y 5).toNat)=wO (2+bU y 5).toNat from fK _] at g;exact key _ g fun _=>f.2
 ·exact j _ _
 ·exact h _
 ·exact h _
theorem Fj:∀ k∈[1,3,5],∀ a,a<91→∀ b,b<91→eJ (a:Nat) k=eJ (b:Nat) k→a=b:=by decide +kernel
theorem Fi:∀ k∈[1,3,5],∀ a,a<91→0<a→0<eJ (a:Nat) k:=by decide +kernel
theorem rf (kd:Int)(ls:List (List Int))(y:Int):Rt (jR kd ls y):=by
 obtain ⟨c,f⟩:=vT (bU kd 8) ls y;have h:AB y∈[(1:Int),3,5]:=by
  have:=dE (IntKind.i64.wrap<|y.tdiv 7) 3 dC dC;unfold AB;generalize bU (IntKind.i64.wrap<|y.tdiv 7) 3=q at *
  rcases (by omega:q=0∨q=1∨q=2) with rfl | rfl | rfl <;> decide
 refine BR c ⟨fun a d b hb e=>?_,fun a d=>?_⟩ _
 ·have p1:=c.pos a d;have p2:=c.pos b hb;have q1:=f a d;have q2:=f b hb;have e1:((a.id.toNat:Nat):Int)=a.id:=Int.toNat_of_nonneg oM;have e2:((b.id.toNat:Nat):Int)=b.id:=Int.toNat_of_nonneg oM;have:=Fj _ h a.id.toNat oM b.id.toNat oM (by rw[e1,e2]; exact e);have g:a.id=b.id:=oM;have f1:=c.find d;have f2:=c.find hb;rw[g,f2] at f1;injection f1 with f1
  exact f1.symm
 ·have p1:=c.pos a d;have q1:=f a d;have e1:((a.id.toNat:Nat):Int)=a.id:=Int.toNat_of_nonneg oM;have:=Fi _ h a.id.toNat oM oM;rw[e1] at this;exact this
theorem F7:∀ k∈[1,3,5],∀ a,a<91→eJ (a:Nat) k≤300:=by decide +kernel
theorem yg (kd:Int)(ls:List (List Int))(y:Int):∀ c∈jR kd ls y,a7 c.id:=by
 intro c b;have e:=(rf kd ls y).pos c b;obtain ⟨f,g⟩:=vT (bU kd 8) ls y;have h:AB y∈[(1:Int),3,5]:=by
  have:=dE (IntKind.i64.wrap<|y.tdiv 7) 3 dC dC;unfold AB;generalize bU (IntKind.i64.wrap<|y.tdiv 7) 3=q at *
  rcases (by omega:q=0∨q=1∨q=2) with rfl | rfl | rfl <;> decide
 obtain ⟨a,d,rfl⟩:=rW (Fw y) b;have p1:=f.pos a d;have q1:=g a d;have e1:((a.id.toNat:Nat):Int)=a.id:=Int.toNat_of_nonneg oM;have:=F7 _ h a.id.toNat oM;rw[e1] at this;have i:(ci<|aK (AB y) (Fw y) a).id=eJ a.id (AB y):=rfl;rw[i] at e ⊢;unfold a7;omega
theorem DH (kd:Int)(ls:List (List Int))(y:Int):(jR kd ls y).length≤90:=by
 obtain ⟨b,e⟩:=vT (bU kd 8) ls y;have hl:(jR kd ls y).length=(qy<|oy (bU kd 8) ls y).length:=by
  unfold jR FT;rw[au,ze8]
 rw[hl];generalize qy (oy (bU kd 8) ls y)=B at *;have a:(B.map Cl.id).Nodup:=by
  rw[List.nodup_iff_pairwise_ne,zk6];exact b.asc.imp fun h=>by omega
 have:=sH a (m:=(List.range 90).map fun k=>((k:Nat):Int)+1) (fun x f=>by
  obtain ⟨c,d,rfl⟩:=zf4.1 f;have p1:=b.pos c d;have p2:=e c d;exact zf4.2 ⟨(c.id - 1).toNat,List.mem_range.2 oM,oM⟩)
 simpa using this
def part (l:List Cl)(p:Int→Bool):List Cl:=l.filter fun c=>p c.id
theorem Rt.same {l:List Cl}(h:Rt l){a b:Cl}(c:a∈l)(hb:b∈l)(e:a.id=b.id):a=b:=by
 have f1:=h.find c;have f2:=h.find hb;rw[e,f2] at f1;injection f1 with f1
 exact f1.symm
end Go.Proofs.YtbbppeihhkhkcaaGreatDoor
