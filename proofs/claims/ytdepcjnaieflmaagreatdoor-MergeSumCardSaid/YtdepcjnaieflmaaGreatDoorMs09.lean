/- 9 -/
import Derived.Test.YtdepcjnaieflmaaGreatDoorMs08
import Derived.SizedLaws
set_option linter.unusedSimpArgs false
set_option linter.unusedVariables false
namespace Go.Proofs.YtdepcjnaieflmaaGreatDoor
open _root_.Go.Proofs.Tryz _root_.Go.Proofs.YtdepcjnaieflmaaGreatDoor.Tryz
open Go Go.Sy Go.Pl Go.Proofs
set_option maxRecDepth 100000
set_option maxHeartbeats 1000000
theorem D0 (E:World)(g0:PH)(P Q:Nat)(tv uv:Value)(A B:List Cl)(hT:Tab g0 tv A)(hU:Tab g0 uv B)(hA:aK A)(c5:(A.map Cl.id).Nodup)(h1:g0 P=some (bY #[tv] 77))(h2:g0 Q=some (bY #[uv] 77)) :
  uh E (.func (.func 48) #[] #[pp P 0,pp Q 0]) (vA A B) A g0:=by
 intro g s c r d c3 hc;replace hT:=hT.mono d;replace hU:=hU.mono d;replace h1:=d _ _ h1;replace h2:=d _ _ h2;obtain ⟨rp,f,rfl,c6⟩:=ee hc;refine cz.mk (cap:=[pp P 0,pp Q 0]) call48 ?_;have a2:=hT;obtain ⟨ba,ma,c7,ra,rfl,a3,a4,c9,H⟩:=hT;obtain ⟨bb,mb,d0,rb,rfl,R,S,d1,J⟩:=hU;have a5:=fun id (h:id∈qz A [c.id])=>Eo h;have K:vA A B c=(qz A [c.id]).all (xu A B):=rfl;generalize hC:qz A [c.id]=C at *;refine zb2 (args:=[rcv ⟨c.id,c.dim,⟨rp,c.sides.length,f⟩⟩,pp P 0,pp Q 0]) func48 I ntmps48 (bE I)<|rZ (bW (bO I) fun b3=>?_);refine aT I<|sQ<|rZ<|lK (qL isAgg77 I<|cK h1 I)<|lU (fA ao I zT3 I)<|lK (qL (v:=vi c.id) iT3 I<|cO 0 I I)<|lW (bS sty32 I I I (ae ⟨I,trivial⟩) dC) ?_;rintro _ _ _ ⟨a9,rfl,rfl,rfl⟩;refine zb5 fun g1 q T=>?_;have b0:dw g1 (.slice (some ⟨a9,0,none⟩) 1 1) [c.id]:=SlA.lit T rfl rfl;refine lW (SO.call call49 I<|vX E g1 _ _ _ A [c.id] (a2.mono q) hA b0 dO) ?_;rintro _ g2 _ ⟨m,rfl,U,rfl⟩;rw[hC];refine SL.freezeMap fun g3 V b1=>?_;obtain ⟨es,clk,o,j⟩:=b1;refine lW (SO.range underlying96 I o) ?_;rintro _ _ _ ⟨it,rfl,rfl,rfl⟩;refine tZ<|bK ?_;have a:=q.trans<|U.trans V;refine oP (ι:=List MapEntry×List (Int×Value)) (fun _=>[(1,pp P 0),(2,pp Q 0),(13,pp it 0)]) (fun _=>g3)
  (fun i=>iter it m es clk i.1::pt b3 (bY #[vi c.id,vi c.dim,.slice rp c.sides.length f] 37)::s)
  (fun i=>l6 (iD C) es i.1 i.2∧∀ p∈i.2,xu A B p.1=true) (fun i=>C.length - i.2.length)
  ([],[]) sB rfl rfl ⟨l6.nil _ _,by simp⟩ ?_
 rintro ⟨vis,vl⟩ ⟨L,b⟩;dsimp only at L b ⊢;have W:=L.len j;simp only[iD,ze9] at W;refine rZ<|lW (SO.nextP 0 I I o j L) ?_;rintro _ _ _ ⟨rfl,M⟩
 rcases M with ⟨rfl,rfl,N⟩ | ⟨e,pr,he,b2,X,Y,t,rfl,rfl⟩
 ·have Z:vA A B c=true:=by
   rw[K,zk3];intro id k;have:(id,vb true)∈iD C:=zf5.2 ⟨id,k,rfl⟩;exact b _<|N.symm.subset this
  exact yX I<|tZ<|sQ<|za1 I<|xI<|tX<|tX<|bX<|tN<|rZ<|aT I<|rE<|dR (s':=s) (.cons _<|.cons _<|.refl _)<|ST.less a<|za8 (.inl I) results48 I ⟨by rw[Z],I,I⟩
 ·obtain ⟨id,k,rfl⟩:=zf5.1 b2;have a0:=t.len j;simp only[iD,ze9,ze8,zf1] at a0;obtain ⟨x,hx⟩:=a5 id k;obtain ⟨b4,c4⟩:=aH hx;have b5:=hA.2 x b4;obtain ⟨y,b7,d2,b8⟩:=dG H ib id;have u:ak g ((ab A id).getD aA) y:=b8;rw[hx] at u;obtain ⟨yi,yd,yp,yn,yc⟩:=y;obtain ⟨z,a1,b9,c0⟩:=dG J ib id;obtain ⟨zi,zd,zp,zn,zc⟩:=z;have D:(eu (rb.map ap) id).isSome=(ab B id).isSome:=b9;have F:ak g ((ab B id).getD aA) ⟨zi,zd,zp,zn,zc⟩:=c0;cases l:ab B id with
  | none =>
   have n:vA A B c=false:=by
    rw[K,List.all_eq_false];exact⟨id,k,by unfold xu;rw[l];simp⟩
   refine yX I<|tZ<|sQ<|za2 I<|kP<|tN<|bK<|rZ<|lK (SQ.entryP 0 I I o j he X Y)<|yX I<|aT I<|rZ<|lK (qL isAgg77 I<|cK (a _ _ h2) I)<|lU (nC I)<|lU (fA qW I qp I)<|lK (qL qr I<|cK (a _ _ R) I)<|lM I<|lK (SQ.eq (v':=.tuple #[rcv ⟨zi,zd,zp,zn,zc⟩,vb false]) (SQ.lookupOk mty64 I I<|bh.known<|S.mono a) (by rw[a1,D,l];rfl)) ?_;refine lM I (yX I<|yX I<|bW (aL zl8) fun b6=>?_);refine oZ (sK 0 ar I I I I I sB)<|aT I<|sQ<|dW [] [(0,2),(1,2),(2,2),(3,1),(4,2),(5,2),(6,1),(7,2),(8,1),(9,1),(10,0),(11,2),(12,2)] ze6 kR<|yM I<|pU I (SU.not I)<|yM I<|yI I<|yG I<|yG I<|yI I<|yG I<|yI I<|yI I<|fO I (gZ I I I dC) dC ⟨by exact zb9 _,(by exact .refl _)⟩ ?_;refine yG I<|pU I (wT I I)<|pN<|tN<|za2 I<|rZ<|aT I<|rE<|bR<|tR<|bR<|tR ?_;refine dR (s':=s) (.cons _<|.cons _<|.cons _<|.refl _)<|ST.less a ?_;exact za8 (.inl I) results48 I ⟨by rw[n],I,I⟩
  | some w =>
   rw[l] at F;have c1:ak g w ⟨zi,zd,zp,zn,zc⟩:=F;have G:xu A B id=decide (x=w):=by unfold xu;rw[l,hx];rfl
   refine yX I<|tZ<|sQ<|za2 I<|kP<|tN<|bK<|rZ<|lK (SQ.entryP 0 I I o j he X Y)<|yX I<|aT I<|rZ<|lK (qL isAgg77 I<|cK (a _ _ h2) I)<|lU (nC I)<|lU (fA qW I qp I)<|lK (qL qr I<|cK (a _ _ R) I)<|lM I<|lK (SQ.eq (v':=.tuple #[rcv ⟨zi,zd,zp,zn,zc⟩,vb true]) (SQ.lookupOk mty64 I I<|bh.known<|S.mono a) (by rw[a1,D,l];rfl)) ?_;refine lM I (yX I<|yX I<|bW (aL zl8) fun b6=>?_);refine oZ (sK 0 ar I I I I I sB)<|aT I<|sQ<|dW [] [(0,2),(1,2),(2,2),(3,1),(4,2),(5,2),(6,1),(7,2),(8,1),(9,1),(10,0),(11,2),(12,2)] ze6 kR<|yM I<|pU I (SU.not I)<|yM I<|SP.gq I (gT I I I dC) (qL isAgg77 I<|cK (a _ _ h1) I) dC<|zb3 I (gT I I I dC) (nC I) dC<|zb3 I (gT I I I dC) (fA qW I qp I) dC<|SP.gq I (gT I I I dC) (qL qr I<|cK (a _ _ a3) I) dC<|yJ I<|SP.gq I (gT I I I dC) (SQ.eq (v':=rcv ⟨yi,yd,yp,yn,yc⟩) (SQ.lookup mty64 I I<|bh.known<|a4.mono a)<|by rw[b7]) dC ?_;refine SP.gq I (gT I I I dC) (qV 0 dn ar I I I) dC<|SP.go I (gT I I I dC) (SO.call call50 I<|uw E g3 _ x w ⟨yi,yd,yp,yn,yc⟩ ⟨zi,zd,zp,zn,zc⟩ (u.mono a) (c1.mono a) b5) dC (.inr iR) ?_;rintro _ _ _ ⟨rfl,rfl,rfl⟩;refine zb3 I (gT I I I dC) (SU.notP I) dC<|pU I (wF I I)<|pN<|tN ?_;refine iP I (fun O=>?_) (fun O=>?_)
   ·have n:vA A B c=false:=by
     rw[K,List.all_eq_false];exact⟨id,k,by rw[G];simpa using O⟩
    exact rZ<|aT I<|rE<|bR<|tR<|bR<|tR<|dR (s':=s) (.cons _<|.cons _<|.cons _<|.refl _)<|ST.less a<|za8 (.inl I) results48 I ⟨by rw[n],I,I⟩
   ·have c2:x=w:=zh3 O;refine kP (bN (dR (s':=iter it m es clk (vis++[e])::pt b3 (bY #[vi c.id,vi c.dim,.slice rp c.sides.length f] 37)::s) (.cons _ (.refl _)) ?_));exact ST.again (vis++[e],vl++[(id,vb true)]) sB I I ⟨t,fun p hp=>by
     rcases zf6.1 hp with hp | hp
     ·exact b p hp
     ·simp at hp;subst hp;rw[G];simpa using c2⟩ lN
theorem DZ (E:World)(g:PH)(s:Own)(v u:Value)(a b:List Cl)(J:ai g v a)(K:ai g u b)(L:aK a)(hb:aK b) :
  Ctr Tryz.prog E 13 #[.agg #[v],.agg #[u]] g s (fun r g' s'=>s=s'∧Le g g'∧∃ x,r = .agg #[x]∧fZ (mns g' g) x (mE (an a)<|an b)):=by
 obtain ⟨S,c1,rfl⟩:=J.form;obtain ⟨T,c2,rfl⟩:=K.form;have B:=bU L;have C:=i5 a;refine zb2 (args:=[.agg #[.slice S a.length c1],.agg #[.slice T b.length c2]]) func13 I ntmps13 (bE I)<|rZ (bW (bO I) fun U=>?_);refine bW (bO I) fun V=>bW (aL zm2) fun W=>tZ<|SC.cut (ι:=Nat×Nat×Value×Value×PH) (fun i=>[(2,pp U 0),(3,pp V 0),(4,pp W 0),(5,pp i.1 0),(6,pp i.2.1 0)]) (fun i=>i.2.2.2.2)
  (fun i=>pt i.2.1 (bY #[i.2.2.2.1] 77)::pt i.1 (bY #[i.2.2.1] 77)::pt W (bY #[.slice none 0 0] 29)::pt V (bY #[.slice T b.length c2] 29)::pt U (bY #[.slice S a.length c1] 29)::s)
  (fun i=>Le g i.2.2.2.2∧Dn (dK<|mns i.2.2.2.2 g) i.2.2.2.2 i.2.2.1 (an a)∧Tab i.2.2.2.2 i.2.2.2.1 (an b)) ?_ ?_
 ·refine SC.drawX [] ze6 kR ?_;refine SX.q (i:=0) I kR (qV 2 aj ag I I I) dC<|SX.q (i:=2) I kR (qV 1 aj ag I I I) dC ?_
  repeat' (first
   | ((with_reducible refine SB.k 7 ?_);first | (refine SB.on (i:=7) rfl (sK 0 sizeOf77 rfl rfl rfl rfl rfl sB) (.inr (by rintro _ _ _ ⟨rfl,rfl⟩;exact⟨by exact Le.trans io io,(by exact .cons _<|.cons _<|.refl _)⟩)) ?_;rintro _ _ _ ⟨rfl,rfl⟩) | (refine SB.on (i:=7) rfl (sK 1 sizeOf77 rfl rfl rfl rfl rfl sB) (.inr (by rintro _ _ _ ⟨rfl,rfl⟩;exact⟨by exact Le.trans io io,(by exact .cons _<|.cons _<|.refl _)⟩)) ?_;rintro _ _ _ ⟨rfl,rfl⟩))
   | ((with_reducible refine SB.k 6 ?_);first | (refine SB.on (i:=6) rfl (sK 1 sizeOf77 rfl rfl rfl rfl rfl sB) (.inr (by rintro _ _ _ ⟨rfl,rfl⟩;exact⟨by exact Le.trans io io,(by exact .cons _<|.cons _<|.refl _)⟩)) ?_;rintro _ _ _ ⟨rfl,rfl⟩) | (refine SB.on (i:=6) rfl (sK 0 sizeOf77 rfl rfl rfl rfl rfl sB) (.inr (by rintro _ _ _ ⟨rfl,rfl⟩;exact⟨by exact Le.trans io io,(by exact .cons _<|.cons _<|.refl _)⟩)) ?_;rintro _ _ _ ⟨rfl,rfl⟩))
   | ((with_reducible refine SB.k 5 ?_);first | (refine SB.o (i:=5) rfl (aL zl5) dC (.inr (by rintro _ _ _ ⟨l,rfl,rfl,rfl⟩;exact⟨by assumption,(by exact .cons _<|.refl _)⟩)) ?_;rintro _ _ _ ⟨l,rfl,rfl,rfl⟩) | (refine SB.o (i:=5) rfl (aL zl5) dC (.inr (by rintro _ _ _ ⟨l,rfl,rfl,rfl⟩;exact⟨by exact zb9 _,(by exact .cons _<|.refl _)⟩)) ?_;rintro _ _ _ ⟨l,rfl,rfl,rfl⟩) | (refine SB.o (i:=5) rfl (aL zl5) dC (.inr (by rintro _ _ _ ⟨l,rfl,rfl,rfl⟩;exact⟨by assumption,(by exact .cons _<|.cons _<|.refl _)⟩)) ?_;rintro _ _ _ ⟨l,rfl,rfl,rfl⟩) | (refine SB.o (i:=5) rfl (aL zl5) dC (.inr (by rintro _ _ _ ⟨l,rfl,rfl,rfl⟩;exact⟨by exact zb9 _,(by exact .cons _<|.cons _<|.refl _)⟩)) ?_;rintro _ _ _ ⟨l,rfl,rfl,rfl⟩) | (refine SB.o (i:=5) rfl (aL zl5) dC (.inr (by rintro _ _ _ ⟨l,rfl,rfl,rfl⟩;exact⟨by exact Le.trans io io,(by exact .cons _<|.refl _)⟩)) ?_;rintro _ _ _ ⟨l,rfl,rfl,rfl⟩) | (refine SB.o (i:=5) rfl (aL zl5) dC (.inr (by rintro _ _ _ ⟨l,rfl,rfl,rfl⟩;exact⟨by exact Le.trans io io,(by exact .cons _<|.cons _<|.refl _)⟩)) ?_;rintro _ _ _ ⟨l,rfl,rfl,rfl⟩))
   | ((with_reducible refine SB.k 4 ?_);first | (refine SB.o (i:=4) rfl (aL zl5) dC (.inr (by rintro _ _ _ ⟨m,rfl,rfl,rfl⟩;exact⟨by assumption,(by exact .cons _<|.refl _)⟩)) ?_;rintro _ _ _ ⟨m,rfl,rfl,rfl⟩) | (refine SB.o (i:=4) rfl (aL zl5) dC (.inr (by rintro _ _ _ ⟨m,rfl,rfl,rfl⟩;exact⟨by exact zb9 _,(by exact .cons _<|.refl _)⟩)) ?_;rintro _ _ _ ⟨m,rfl,rfl,rfl⟩) | (refine SB.o (i:=4) rfl (aL zl5) dC (.inr (by rintro _ _ _ ⟨m,rfl,rfl,rfl⟩;exact⟨by assumption,(by exact .cons _<|.cons _<|.refl _)⟩)) ?_;rintro _ _ _ ⟨m,rfl,rfl,rfl⟩) | (refine SB.o (i:=4) rfl (aL zl5) dC (.inr (by rintro _ _ _ ⟨m,rfl,rfl,rfl⟩;exact⟨by exact zb9 _,(by exact .cons _<|.cons _<|.refl _)⟩)) ?_;rintro _ _ _ ⟨m,rfl,rfl,rfl⟩) | (refine SB.o (i:=4) rfl (aL zl5) dC (.inr (by rintro _ _ _ ⟨m,rfl,rfl,rfl⟩;exact⟨by exact Le.trans io io,(by exact .cons _<|.refl _)⟩)) ?_;rintro _ _ _ ⟨m,rfl,rfl,rfl⟩) | (refine SB.o (i:=4) rfl (aL zl5) dC (.inr (by rintro _ _ _ ⟨m,rfl,rfl,rfl⟩;exact⟨by exact Le.trans io io,(by exact .cons _<|.cons _<|.refl _)⟩)) ?_;rintro _ _ _ ⟨m,rfl,rfl,rfl⟩))
   | ((with_reducible refine SB.k 3 ?_);first | (refine SB.o (i:=3) rfl (SO.call call36 rfl<|om E g1 _ _ b (K.mono e) hb) dC (.inr (by rintro A g2 _ ⟨rfl,c,j⟩;exact⟨by exact Le.trans io io,(by exact .refl _)⟩)) ?_;rintro A g2 _ ⟨rfl,c,j⟩;obtain ⟨M,rfl⟩:=j.ptr) | (refine SB.o (i:=3) rfl (SO.call call36 rfl<|om E g1 _ _ b (K.mono e) hb) dC (.inr (by rintro A g2 _ ⟨rfl,c,j⟩;exact⟨by exact Le.trans io io,(by exact .cons _<|.refl _)⟩)) ?_;rintro A g2 _ ⟨rfl,c,j⟩;obtain ⟨M,rfl⟩:=j.ptr) | (refine SB.o (i:=3) rfl (SO.call call36 rfl<|om E g1 _ _ b (K.mono e) hb) dC (.inr (by rintro A g2 _ ⟨rfl,c,j⟩;exact⟨by exact Le.trans io io,(by exact .cons _<|.cons _<|.refl _)⟩)) ?_;rintro A g2 _ ⟨rfl,c,j⟩;obtain ⟨M,rfl⟩:=j.ptr))
   | ((with_reducible refine SB.k 1 ?_);first | (refine SB.o (i:=1) rfl (SO.call call36 rfl<|uf E g _ _ a J L) dC (.inr (by rintro t g1 _ ⟨rfl,e,f⟩;exact⟨by assumption,(by exact .refl _)⟩)) ?_;rintro t g1 _ ⟨rfl,e,f⟩;have z:Tab g1 t (an a):=f.mono (zb9 _) fun _ _=>dK.cr<|fo _ _;obtain ⟨N,rfl⟩:=z.ptr) | (refine SB.o (i:=1) rfl (SO.call call36 rfl<|uf E g _ _ a J L) dC (.inr (by rintro t g1 _ ⟨rfl,e,f⟩;exact⟨by assumption,(by exact .cons _<|.refl _)⟩)) ?_;rintro t g1 _ ⟨rfl,e,f⟩;have z:Tab g1 t (an a):=f.mono (zb9 _) fun _ _=>dK.cr<|fo _ _;obtain ⟨N,rfl⟩:=z.ptr) | (refine SB.o (i:=1) rfl (SO.call call36 rfl<|uf E g _ _ a J L) dC (.inr (by rintro t g1 _ ⟨rfl,e,f⟩;exact⟨by assumption,(by exact .cons _<|.cons _<|.refl _)⟩)) ?_;rintro t g1 _ ⟨rfl,e,f⟩;have z:Tab g1 t (an a):=f.mono (zb9 _) fun _ _=>dK.cr<|fo _ _;obtain ⟨N,rfl⟩:=z.ptr))
   | ((with_reducible refine SX.k 5 ?_);first | refine zd9 1 5 kD ?_ ?_ | refine zd9 1 4 kD ?_ ?_ | refine SX.br3 3 4 5 kD ?_ ?_ ?_)
   | ((with_reducible refine SX.k 4 ?_);first | refine zd8 1 kD ?_ | refine zd9 4 5 kD ?_ ?_ | refine zd9 3 5 kD ?_ ?_ | refine zd9 3 4 kD ?_ ?_)
   | ((with_reducible refine SX.k 3 ?_);first | refine zd8 5 kD ?_ | refine zd8 4 kD ?_ | refine zd8 3 kD ?_)
   | ((with_reducible refine SX.k 2 ?_);refine zd8 6 kD ?_)
   | ((with_reducible refine SX.k 1 ?_);refine zd8 7 kD ?_)
   | ((with_reducible refine SX.k 0 ?_);refine SX.nil kD ?_;first | exact za9 (m,l,pp N 0,pp M 0,g2) sB rfl rfl ⟨e.trans c,f.mono c fun _ _=>dK.mono<|iw c,j⟩ | (refine ST.perm (zk4 _ _ _) ?_;exact za9 (m,l,pp N 0,pp M 0,g2) sB I I ⟨e.trans c,f.mono c fun _ _=>dK.mono<|iw c,j⟩))
   | (refine SX.k 6 ?_;refine SX.br3 1 4 5 kD ?_ ?_ ?_))
 rintro ⟨m,l,t,A,g2⟩ ⟨D,f,j⟩;dsimp only at D f j ⊢;have z:Tab g2 t (an a):=f.mono (zb9 _) fun _ _=>dK.cr<|fo _ _;refine SC.freeze fun g3 p O=>?_;refine SC.freeze fun g4 n F=>?_;have w:=D.trans<|p.trans n;have P:=z.mono<|p.trans n;have G:=j.mono<|p.trans n;refine rZ<|lK (qL isAgg77 I<|cK F I)<|lU (SU.mkFunc I)<|lW (SO.call call47 I<|yx (dK<|mns g2 g) E g4 _ _ _ (an a) (vA (an a)<|an b) (fun _ _ h=>dK.cr ((fo _ _).trans<|p.trans n) h) (f.mono (p.trans n) fun _ _ h=>h) C B<|D0 E g4 m l _ _ _ _ P G B C F<|n _ _ O) ?_;rintro _ g5 _ ⟨rfl,y,x,Q,rfl,H,R⟩;have X:fZ (mns g5 g) x _:=⟨Q,H.mono<|jV w,R.mono fun _ _=>dK.mono<|iw<|(p.trans n).trans y⟩;obtain ⟨q,d,rfl⟩:=H.form;exact oZ (sK 0 ag I I I I I sB)<|tZ<|rE<|ST.retCD 0 s (.inl I) results13 I aj ag I I uR ⟨I,w.trans y,_,I,X⟩
theorem Cv (E:World)(g:PH)(s:Own)(v u:Value)(a b:List Cl)(c:ai g v a)(d:ai g u b)(e:aK a)(hb:aK b) :
  Ctr Tryz.prog E 13 #[.agg #[v],.agg #[u]] g s (fun r g' s'=>s=s'∧Le g g'∧∃ x,r = .agg #[x]∧ai g' x (mE (an a)<|an b)) :=
 (DZ E g s v u a b c d e hb).mono fun _ _ _ ⟨f,i,x,j,k⟩=>⟨f,i,x,j,k.cells<|fo _ _⟩
theorem Tryz.sty149:STy Tryz.prog 149 4 1 1 (vb false):=⟨underlying149,⟨t4,by kernel_rfl,by kernel_rfl,by kernel_rfl,by kernel_rfl⟩,rfl,by decide⟩
def jf:Enc Bool 1:=⟨fun n=>[vb n],fun _=>rfl,fun _ u hu=>by simp at hu;subst hu;rfl,by decide⟩
def gU (A:List Cl)(m:List Int):List Bool:=A.map fun c=>m.contains c.id
theorem CQ (A:List Cl):gU A []=List.replicate A.length false:=by
 unfold gU;induction A with
 | nil=>rfl
 | cons d t ih=>simp[List.replicate_succ] at ih ⊢;exact ih
theorem CR {A:List Cl}{m:List Int}{k:Nat}{c:Cl}(h:A[k]?=some c):(gU A m)[k]?=some (m.contains c.id):=by simp[gU,h]
theorem CP {A:List Cl}{m:List Int}{k:Nat}{c:Cl}(hn:(A.map Cl.id).Nodup)(h:A[k]?=some c):(gU A m).set k true=gU A (m++[c.id]):=by
 obtain ⟨i,hc⟩:=zf8.1 h;apply List.ext_getElem?;intro q;rw[List.getElem?_set];unfold gU;simp only[zi3,ze9];split
 ·rename_i e;subst e;simp[i,hc]
 ·rename_i a;cases hq:A[q]? with
  | none=>rfl
  | some d =>
   obtain ⟨j,l⟩:=zf8.1 hq;have hd:¬ d.id=c.id:=fun e=>by
    have n:(A.map Cl.id)[q]?=some c.id:=by simp[hq,e]
    have o:(A.map Cl.id)[k]?=some c.id:=by simp[h]
    obtain ⟨i1,f⟩:=zf8.1 n;obtain ⟨i2,g⟩:=zf8.1 o
    rcases Nat.lt_or_gt_of_ne a with b | b
    ·exact zd1.1 hn k q i2 i1 b<|g.trans f.symm
    ·exact zd1.1 hn q k i1 i2 b<|f.trans g.symm
   simp[hd]
def AS (L:List (Int×List am)):List (Int×Int):=L.foldl (fun zl p=>p.2.foldl (fun zl r=>fE zl r.cell<|p.1 * r.sign) zl) []
def EY (L:List (Int×List am)):List (Int×List Int):=L.zipIdx.foldl (fun ml p=>p.1.2.foldl (fm p.2) ml) []
def mL (L:List (Int×List am)):Int :=
 if (AS L).any (fun p=>decide (p.2≠0)) then 24
 else if (EY L).any (fun p=>decide ((p.2.length:Int)≠2)) then 25
 else if ((jA<|dJ<|EY L).length:Int)≠L.length then 25 else 0
def qy (tl:List Cl)(c:Cl):List (Int×List am):=c.sides.map fun x=>(x.sign,ay tl x)
theorem C2 (tl:List Cl)(c:Cl):bC tl c=mL (qy tl c):=by
 have a:fF tl c.sides=AS (qy tl c):=by
  unfold fF AS qy;rw[List.foldl_map];rfl
 have b:fg tl c.sides=EY (qy tl c):=by
  unfold fg EY qy;rw[List.zipIdx_map,List.foldl_map];rfl
 have d:(qy tl c).length=c.sides.length:=by simp[qy]
 unfold bC mL;rw[a,b,d]
def Dj (φ:Int→Int)(r:am):am:=⟨φ r.cell,r.sign⟩
def xV (φ:Int→Int)(L:List (Int×List am)):List (Int×List am):=L.map fun p=>(p.1,p.2.map<|Dj φ)
def AX (L:List (Int×List am)):List Int:=L.flatMap fun p=>p.2.map am.cell
def lT {α:Type}(φ:Int→Int)(zl:List (Int×α)):List (Int×α):=zl.map fun p=>(φ p.1,p.2)
section
variable {φ:Int→Int}{K:Int→Prop}(hφ:∀ a b,K a→K b→φ a=φ b→a=b)
include hφ
theorem Ez {b:List (Int×Int)}{k:Int}(x:Int)(hz:∀ p∈b,K p.1)(c:K k):fE (lT φ b) (φ k) x=lT φ (fE b k x):=by
 induction b with
 | nil=>rfl
 | cons p r ih =>
  obtain ⟨a,z⟩:=p;have d:=hz (a,z) dO;simp only[lT,zg7,fE] at ih ⊢;by_cases h:k=a
  ·subst h;simp
  ·rw[zg3 h,zg3 fun e=>h<|hφ k a c d e];simp only[zg7];rw[ih fun p hp=>hz p (by simp[hp])]
theorem EB {b:List (Int×List Int)}{k:Int}(x:Int)(hz:∀ p∈b,K p.1)(c:K k):gO (lT φ b) (φ k) x=lT φ (gO b k x):=by
 induction b with
 | nil=>rfl
 | cons p r ih =>
  obtain ⟨a,z⟩:=p;have d:=hz (a,z) dO;simp only[lT,zg7,gO] at ih ⊢;by_cases h:k=a
  ·subst h;simp
  ·rw[zg3 h,zg3 fun e=>h<|hφ k a c d e];simp only[zg7];rw[ih fun p hp=>hz p (by simp[hp])]
omit hφ in
theorem EA {b:List (Int×Int)}{k x:Int}(hz:∀ p∈b,K p.1)(d:K k):∀ p∈fE b k x,K p.1:=by
 induction b with
 | nil=>intro p hp;simp[fE] at hp;subst hp;exact d
 | cons q r ih =>
  obtain ⟨a,z⟩:=q;have c:=hz (a,z) dO;intro p hp;simp only[fE] at hp;split at hp
  ·rcases zf4.1 hp with rfl | hp
   ·exact c
   ·exact hz p (by simp[hp])
  ·rcases zf4.1 hp with rfl | hp
   ·exact c
   ·exact ih (fun p hp=>hz p<|by simp[hp]) p hp
omit hφ in
theorem EC {b:List (Int×List Int)}{k x:Int}(hz:∀ p∈b,K p.1)(d:K k):∀ p∈gO b k x,K p.1:=by
 induction b with
 | nil=>intro p hp;simp[gO] at hp;subst hp;exact d
 | cons q r ih =>
  obtain ⟨a,z⟩:=q;have c:=hz (a,z) dO;intro p hp;simp only[gO] at hp;split at hp
  ·rcases zf4.1 hp with rfl | hp
   ·exact c
   ·exact hz p (by simp[hp])
  ·rcases zf4.1 hp with rfl | hp
   ·exact c
   ·exact ih (fun p hp=>hz p<|by simp[hp]) p hp
theorem uo (t:Int):∀ (l:List am) (a:List (Int×Int)),(∀ r∈l,K r.cell)→(∀ p∈a,K p.1) →
  (l.map<|Dj φ).foldl (fun a r=>fE a r.cell<|t * r.sign) (lT φ a)=lT φ (l.foldl (fun a r=>fE a r.cell<|t * r.sign) a)∧∀ p∈l.foldl (fun a r=>fE a r.cell<|t * r.sign) a,K p.1
 | [],a,_,hz=>⟨rfl,hz⟩
 | r::l,a,hl,hz=>by
  have hr:=hl r dO;have:=uo t l (fE a r.cell<|t * r.sign) (fun q hq=>hl q<|by simp[hq])<|EA hz hr;simp only[zg7,zj2];rw[show (Dj φ r).cell=φ r.cell from rfl,show (Dj φ r).sign=r.sign from rfl,Ez hφ _ hz hr];exact this
theorem yK (t:Int):∀ (l:List am) (a:List (Int×List Int)),(∀ r∈l,K r.cell)→(∀ p∈a,K p.1) →
  (l.map<|Dj φ).foldl (fm t) (lT φ a)=lT φ (l.foldl (fm t) a)∧∀ p∈l.foldl (fm t) a,K p.1
 | [],a,_,hz=>⟨rfl,hz⟩
 | r::l,a,hl,hz=>by
  have hr:=hl r dO;have:=yK t l (gO a r.cell t) (fun q hq=>hl q<|by simp[hq])<|EC hz hr;simp only[zg7,zj2];rw[show fm t (lT φ a) (Dj φ r)=lT φ (gO a r.cell t) from EB hφ _ hz hr];exact this
theorem yb:∀ (L:List (Int×List am)) (a:List (Int×Int)),(∀ k∈AX L,K k)→(∀ p∈a,K p.1) →
  (xV φ L).foldl (fun a p=>p.2.foldl (fun a r=>fE a r.cell<|p.1 * r.sign) a) (lT φ a)=lT φ (L.foldl (fun a p=>p.2.foldl (fun a r=>fE a r.cell<|p.1 * r.sign) a) a)
 | [],_,_,_=>rfl
 | p::L,a,hl,hz=>by
  obtain ⟨b,c⟩:=uo hφ p.1 p.2 a (fun r hr=>hl _<|List.mem_flatMap.2 ⟨p,by simp,zf5.2 ⟨r,hr,rfl⟩⟩) hz;simp only[xV,zg7,zj2] at b ⊢;rw[b];exact yb L _ (fun k d=>hl k (by simp only[AX,zh8,zf6];exact .inr d)) c
theorem Br:∀ (L:List (Int×List am)) (i:Nat) (a:List (Int×List Int)),(∀ k∈AX L,K k)→(∀ p∈a,K p.1) →
  ((xV φ L).zipIdx i).foldl (fun ml p=>p.1.2.foldl (fm p.2) ml) (lT φ a)=lT φ ((L.zipIdx i).foldl (fun ml p=>p.1.2.foldl (fm p.2) ml) a)
 | [],_,_,_,_=>rfl
 | p::L,i,a,hl,hz=>by
  obtain ⟨b,c⟩:=yK hφ i p.2 a (fun r hr=>hl _<|List.mem_flatMap.2 ⟨p,by simp,zf5.2 ⟨r,hr,rfl⟩⟩) hz;simp only[xV,zg7,List.zipIdx_cons,zj2] at b ⊢;rw[b];exact Br L (i+1) _ (fun k d=>hl k (by simp only[AX,zh8,zf6];exact .inr d)) c
end
theorem BL {α:Type}(φ:Int→Int)(a:List (Int×α))(q:α→Bool):(lT φ a).any (fun p=>q p.2)=a.any (fun p=>q p.2):=by
 simp only[lT,List.any_map];rfl
theorem D5 (φ:Int→Int)(ml:List (Int×List Int)):dJ (lT φ ml)=dJ ml:=by
 simp only[dJ,lT,List.foldl_map];rfl
theorem xM {φ:Int→Int}{L:List (Int×List am)}(hφ:∀ a∈AX L,∀ b∈AX L,φ a=φ b→a=b):mL (xV φ L)=mL L:=by
 have d:AS (xV φ L)=lT φ (AS L):=yb (K:=fun k=>k∈AX L) (fun a b c hb=>hφ a c b hb) L [] (fun _ h=>h) dO;have e:EY (xV φ L)=lT φ (EY L):=Br (K:=fun k=>k∈AX L) (fun a b c hb=>hφ a c b hb) L 0 [] (fun _ h=>h) dO;unfold mL;rw[d,e,BL φ _ fun z=>decide (z≠0),BL φ _ fun l:List Int=>decide ((l.length:Int)≠2),D5];have f:(xV φ L).length=L.length:=by simp[xV]
 rw[f]
def code (k q:Nat):Int:=if q<k then ((q * 16+k:Nat):Int) else ((k * 16+(q+1):Nat):Int)
def Gk (n:Nat):List (Int×List am):=(List.range n).reverse.map fun k:Nat=>(dD k,(List.range<|n - 1).reverse.map fun q:Nat=>⟨code k q,dD q⟩)
theorem FB:∀ n,n<10→2<n→mL (Gk n)=0:=by decide +kernel
theorem i7 (b:Nat)(a:Int)(l:List Int):eZ b (a::l)=(if b % 2=1 then [a] else [])++eZ (b / 2) l:=by
 unfold eZ;have hz:∀ (l:List Int) (i:Nat),((l.zipIdx<|i+1).filter fun p=>b / 2 ^ p.2 % 2 == 1).map (·.1)=((l.zipIdx i).filter fun p=>b / 2 / 2 ^ p.2 % 2 == 1).map (·.1):=by
  intro l;induction l with
  | nil=>intro i;rfl
  | cons x r ih =>
   intro i;have hp:b / 2 ^ (i+1)=b / 2 / 2 ^ i:=by rw[Nat.pow_succ,Nat.mul_comm,Nat.div_div_eq_div_mul]
   simp only[List.zipIdx_cons,zj1,hp];have:=ih<|i+1;split
   ·simp only[zg7,this]
   ·exact this
 simp only[List.zipIdx_cons,zj1,Nat.pow_zero,Nat.div_one];by_cases h:b % 2=1
 ·simp only[h,if_true,beq_self_eq_true,zg7];rw[hz l 0];rfl
 ·have c:(b % 2 == 1)=false:=by simpa using h
  simp only[h,c,if_false,Bool.false_eq_true];rw[hz l 0];rfl
theorem Co (l:List Int):∀ b,(eZ b l).Sublist l:=by
 induction l with
 | nil=>intro b;exact .slnil
 | cons a r ih =>
  intro b;rw[i7];split
  ·exact (ih _).cons_cons a
  ·exact (ih _).cons a
theorem DQ (l:List Int):∀ b,b≠0→b<2 ^ l.length→eZ b l≠[]:=by
 induction l with
 | nil=>intro b c h;simp at h;exact absurd h c
 | cons a r ih =>
  intro b c h;rw[i7];split
  ·simp
  ·rename_i d;rw[zf2,Nat.pow_succ] at h;simpa using ih (b / 2) oM oM
theorem xf {x l:List Int}(h:x.Sublist l):∃ b,b<2 ^ l.length∧eZ b l=x:=by
 induction h with
 | slnil=>exact⟨0,by simp,rfl⟩
 | cons a _ ih =>
  obtain ⟨b,hb,e⟩:=ih;refine⟨2 * b,by rw[zf2,Nat.pow_succ];omega,?_⟩;rw[i7,zg3 oM,show 2 * b / 2=b by omega,e];rfl
 | cons_cons a _ ih =>
  obtain ⟨b,hb,e⟩:=ih;refine⟨2 * b+1,by rw[zf2,Nat.pow_succ];omega,?_⟩;rw[i7,zg4 oM,show (2 * b+1) / 2=b by omega,e];rfl
theorem j9 (t x:List Int):x∈bM t↔x.Sublist t∧x≠[]:=by
 unfold bM;constructor
 ·intro h;obtain ⟨i,d,rfl⟩:=zf5.1 h;have:=List.mem_range.1 d;exact⟨Co _ _,DQ _ _ oM oM⟩
 ·rintro ⟨h,c⟩;obtain ⟨b,hb,rfl⟩:=xf h;have f:b≠0:=fun e=>by
   subst e;apply c;have:∀ l:List Int,eZ 0 l=[]:=by
    intro l;induction l with
    | nil=>rfl
    | cons a r ih=>rw[i7];simpa using ih
   exact this t
  exact zf5.2 ⟨b - 1,List.mem_range.2 oM,by rw[show b - 1+1=b by omega]⟩
structure iI (all:List (List Int)):Prop where
 strict:fe all
 form:∀ s∈all,s≠[]∧eo s∧s.length≤9
 faces:∀ s∈all,2≤s.length→∀ k,k<s.length→s.eraseIdx k∈all
theorem iI.nil:iI []:=⟨List.Pairwise.nil,by simp,by simp⟩
theorem iI.add {all:List (List Int)}{t:List Int}(h:iI all)(f:eo t)(hl:t.length≤9):iI (eS all t):=by
 refine⟨kV all t,fun s c=>?_,fun s c b k d=>?_⟩
 ·rcases (jt all t s).1 c with a | a
  ·exact h.form s a
  ·obtain ⟨b,g⟩:=(j9 t s).1 a;exact⟨g,f.sublist b,zl1 b.length_le hl⟩
 ·refine (jt all t _).2 ?_
  rcases (jt all t s).1 c with a | a
  ·exact .inl<|h.faces s a b k d
  ·refine .inr<|(j9 t _).2 ⟨(List.eraseIdx_sublist s k).trans ((j9 t s).1 a).1,fun e=>?_⟩;have:=ze5 List.length e;rw[List.length_eraseIdx] at this;simp[d] at this;omega
theorem iE:∀ (ls acc:List (List Int)) {all:List (List Int)},aX acc ls=some all→iI acc→acc.length≤4000→iI all∧all.length≤4000
 | [],acc,all,h,hg,hl=>by cases h;exact⟨hg,hl⟩
 | s::r,acc,all,h,hg,hl=>by
  unfold aX at h;split at h
  ·exact iE r acc h hg hl
  ·rename_i hb;split at h
   ·cases h
   ·rename_i b;refine iE r _ h (hg.add (lh s) ?_) oM;cases hc:dE s with
    | nil=>simp
    | cons a q =>
     rw[hc] at hb;simp[jC] at hb;simp;omega
section
variable {all:List (List Int)}(hg:iI all)
include hg
theorem iI.get_lb {t:List Int}(b:t∈all):all[lbL all t]?=some t:=by
 obtain ⟨c,a⟩:=oN t hg.strict.srt;have d:fe (all.take (lbL all t)++all.drop (lbL all t)):=by rw[zj5];exact hg.strict
 have hd:=(List.pairwise_append.1 d).2.1;have hm:t∈all.drop (lbL all t):=by
  have:t∈all.take (lbL all t)++all.drop (lbL all t):=by rw[zj5];exact b
  rcases zf6.1 this with h | h
  ·have:=c t h;rw[cH] at this;exact absurd this dC
  ·exact h
 have e:all[lbL all t]?=(all.drop<|lbL all t)[0]?:=by simp
 rw[e];cases hc:all.drop (lbL all t) with
 | nil=>rw[hc] at hm;simp at hm
 | cons y r =>
  rw[hc] at hm hd a
  rcases zf4.1 hm with rfl | hm
  ·rfl
  ·exact absurd ((zk6.1 hd).1 t hm) (a y<|by simp)
theorem iI.lb_get {k:Nat}(b:k<all.length):lbL all all[k]=k:=by
 have e:=hg.get_lb<|gM b;obtain ⟨c,d⟩:=zf8.1 e;have a:¬ au all[k] all[k]<0:=by rw[cH];decide
 rcases Nat.lt_trichotomy (lbL all all[k]) k with h | h | h
 ·have:=zd1.1 hg.strict _ _ c b h;rw[d] at this;exact absurd this a
 ·exact h
 ·have:=zd1.1 hg.strict _ _ b c h;rw[d] at this;exact absurd this a
end
def ixC (all:List (List Int))(t:List Int):Int:=((lbL all t:Nat):Int)+1
theorem iI.inj {all:List (List Int)}(hg:iI all){t u:List Int}(b:t∈all)(c:u∈all)(h:ixC all t=ixC all u):t=u:=by
 have a:=hg.get_lb b;have d:=hg.get_lb c;have:lbL all t=lbL all u:=by unfold ixC at h;omega
 rw[this,d] at a;injection a with a
 exact a.symm
theorem iI.lt {all:List (List Int)}(hg:iI all){t u:List Int}(b:t∈all)(c:u∈all)(h:au t u<0):ixC all t<ixC all u:=by
 obtain ⟨i1,d⟩:=zf8.1<|hg.get_lb b;obtain ⟨i2,e⟩:=zf8.1<|hg.get_lb c;unfold ixC
 rcases Nat.lt_trichotomy (lbL all t) (lbL all u) with a | a | a
 ·omega
 ·have:t=u:=hg.inj b c (by unfold ixC;omega);subst this;rw[cH] at h;exact absurd h dC
 ·have:=zd1.1 hg.strict _ _ i2 i1 a;rw[d,e] at this;exact absurd h<|iT this
def fX (all:List (List Int))(s:List Int):List am:=if s.length≤1 then [] else (List.range s.length).reverse.map fun k:Nat=>⟨ixC all<|s.eraseIdx k,dD k⟩
def jh (all:List (List Int))(s:List Int):Cl:=⟨ixC all s,(s.length:Int) - 1,fX all s⟩
theorem y9 {s:List Int}(g:eo s):∀ {i j:Nat},i<j→j<s.length→au (s.eraseIdx j) (s.eraseIdx i)<0:=by
 induction s with
 | nil=>intro i j _ h;simp at h
 | cons a r ih =>
  intro i j k c;obtain ⟨l,m⟩:=zk6.1 g;cases j with
  | zero=>omega
  | succ j =>
   simp only[zf2] at c;cases i with
   | zero =>
    cases r with
    | nil=>simp at c
    | cons b q =>
     have d:=l b dO;have hl:((a::b::q).eraseIdx<|j+1).length=((a::b::q).eraseIdx 0).length:=by
      simp[List.length_eraseIdx] at c ⊢;omega
     rw[gX hl];simp only[List.eraseIdx_cons_succ,List.eraseIdx_cons_zero,ip];have:iq a b = -1:=by unfold iq;rw[zg4 d]
     simp[this]
   | succ i =>
    have f:=ih m (i:=i) (j:=j) oM oM;have hl:(r.eraseIdx j).length=(r.eraseIdx i).length:=by
     rw[List.length_eraseIdx,List.length_eraseIdx,zg4 oM,zg4 oM]
    have e:((a::r).eraseIdx<|j+1).length=((a::r).eraseIdx<|i+1).length:=by simp[hl]
    rw[gX hl] at f;rw[gX e];simp only[List.eraseIdx_cons_succ,ip];have:iq a a=0:=by unfold iq;rw[zg3 oM,zg3 oM]
    simpa [this] using f
theorem nU {A:List Cl}(h:(A.map Cl.id).Nodup){x:Cl}(a:x∈A):ab A x.id=some x:=by
 induction A with
 | nil=>simp at a
 | cons c t ih =>
  simp only[zg7,zk5] at h;unfold ab
  rcases zf4.1 a with rfl | a
  ·simp
  ·have b:¬ c.id=x.id:=fun e=>h.1 (by rw[e];exact zf5.2 ⟨x,a,I⟩);rw[zi9];simp only[b,decide_false];exact ih h.2 a
theorem Ag (c:Cl):co (co c)=co c:=by
 unfold co;rw[← bI (dq c.sides) (aJ.refl _)]
theorem fU (l:List Cl):aa (aa l)=aa l:=by
 have a:sortBy Cl.id (aa l)=aa l:=(bI (i8 l)<|aJ.refl _).symm;show (sortBy Cl.id<|aa l).map co=aa l;rw[a];unfold aa;rw[zi8];exact zc9 fun c _=>Ag c
theorem DC {α:Type}{key:α→Int}{l:List α}(h:l.Pairwise fun a b=>key b<key a):sortBy key l=l.reverse:=by
 refine (bI ?_ ⟨by simp,fun c=>?_⟩).symm
 ·unfold Srt;rw[List.pairwise_reverse];exact h.imp fun h=>by omega
 ·rw[List.filter_reverse];have:∀ m:List α,m.Pairwise (fun a b=>key b<key a)→(∀ a∈m,(key a == c)=true)→m.reverse=m:=by
   intro m hm hc
   match m,hm,hc with
   | [],_,_=>rfl
   | [_],_,_=>rfl
   | a::b::r,hm,hc =>
    have g:=(zk6.1 hm).1 b dO;have d:=hc a dO;have e:=hc b dO;simp at d e;omega
  exact this _ (h.sublist List.filter_sublist) fun a f=>(zh7.1 f).2
section
variable {all:List (List Int)}(hg:iI all)
include hg
theorem iI.face {s:List Int}(b:s∈all){k:Nat}(a:k<s.length)(c:2≤s.length):s.eraseIdx k∈all∧(s.eraseIdx k).length=s.length - 1 :=
 ⟨hg.faces s b c k a,by rw[List.length_eraseIdx,zg4 a]⟩
theorem iI.sides {s:List Int}(a:s∈all):sortBy am.cell (aV all s s.length)=fX all s:=by
 have c:=(hg.form s a).1;have d:=(hg.form s a).2.1;by_cases o:s.length≤1
 ·have p:s.length=1:=by have:=List.length_pos_iff.2 c;omega
  unfold fX;rw[zg4 o,p];have:fW all s 0=[]:=by
   unfold fW;have q:(s.eraseIdx 0).length=0:=by rw[List.length_eraseIdx,zg4 oM];omega
   rw[zg3 oM]
  simp[aV,List.range_succ,this,sortBy]
 ·have f:2≤s.length:=oM;have e:aV all s s.length=(List.range s.length).map fun k:Nat=>(⟨ixC all<|s.eraseIdx k,dD k⟩:am):=by
   unfold aV;rw[List.flatMap_def];have:(List.range s.length).map (fW all s)=(List.range s.length).map fun k:Nat=>[(⟨ixC all<|s.eraseIdx k,dD k⟩:am)]:=zc9 fun k g=>by
    have g:=List.mem_range.1 g;unfold fW;rw[(hg.face a g f).2,zg4 oM];rfl
   rw[this];generalize List.range s.length=R;induction R with
   | nil=>rfl
   | cons x r ih=>simp only[zg7,List.flatten_cons,ih];rfl
  unfold fX;rw[zg3 o,e,List.map_reverse];refine DC ?_;rw[zk7];refine List.Pairwise.imp_of_mem ?_<|List.pairwise_lt_range (n:=s.length);intro i j l b m;have l:=List.mem_range.1 l;have b:=List.mem_range.1 b;exact hg.lt (hg.face a b f).1 (hg.face a l f).1<|y9 d m b
theorem iI.cells:aa (be all)=all.map (jh all):=by
 rw[se];apply List.ext_getElem?;intro k;simp only[zi3];by_cases a:k<all.length
 ·rw[jw a,List.getElem?_eq_getElem a];simp only[Option.map_some,zh1];unfold co nH jh;simp only[hg.sides<|gM a,ixC,hg.lb_get a]
 ·rw[List.getElem?_eq_none (by rw[bJ];omega),List.getElem?_eq_none oM];rfl
theorem iI.ids:((all.map<|jh all).map Cl.id).Pairwise (· < ·):=by
 rw[zi8,zk7];refine List.Pairwise.imp_of_mem ?_ hg.strict;intro a b c hb h;exact hg.lt c hb h
theorem iI.find {s:List Int}(a:s∈all):ab (all.map<|jh all) (ixC all s)=some (jh all s) :=
 nU (x:=jh all s) (hg.ids.imp fun h=>by omega) (zf5.2 ⟨s,a,rfl⟩)
end
theorem Cb (k:Nat):dD k=1∨dD k = -1:=by unfold dD;omega
theorem rU {all:List (List Int)}{s:List Int}(h:2≤s.length){i:Nat}(a:i<s.length):(fX all s)[i]?=some ⟨ixC all<|s.eraseIdx<|s.length - 1 - i,dD ((s.length - 1 - i:Nat):Int)⟩:=by
 unfold fX;rw[zg3 oM,zi3,List.getElem?_reverse (by simpa using a)];simp only[zi7];rw[List.getElem?_range oM];rfl
theorem tY {all:List (List Int)}{s:List Int}:(fX all s).length=if s.length≤1 then 0 else s.length:=by
 unfold fX;split <;> simp
section
variable {all:List (List Int)}(hg:iI all)
include hg
theorem iI.formOk {s:List Int}(f:s∈all):cQ (all.map<|jh all) (jh all s)=0:=by
 obtain ⟨g,j,w⟩:=hg.form s f;have hp:=List.length_pos_iff.2 g;have b:(jh all s).sides.length=if s.length≤1 then 0 else s.length:=tY
 have a:(jh all s).dim=(s.length:Int) - 1:=rfl;have r:fY (jh all s)=false:=by unfold fY;rw[a];simp;omega
 have c:aO (jh all s)=false:=by
  unfold aO;rw[a,b];split
  ·simp;omega
  ·simp;omega
 have t:(List.range (jh all s).sides.length).any (jn (all.map<|jh all)<|jh all s)=false:=by
  rw[zk8];intro i e;have e:=List.mem_range.1 e;rw[b] at e;split at e
  ·omega
  ·rename_i hl;have c:2≤s.length:=oM;have l:=rU (all:=all) c e;have m:=hg.face f (k:=s.length - 1 - i) oM c;unfold jn;rw[show (jh all s).sides[i]?=_ from l];show ¬ cw _ _ i ⟨ixC all<|s.eraseIdx<|s.length - 1 - i,_⟩=true;unfold cw;dsimp only;rw[hg.find m.1];have hd:(jh all<|s.eraseIdx<|s.length - 1 - i).dim=(jh all s).dim - 1:=by
    show ((s.eraseIdx<|s.length - 1 - i).length:Int) - 1=(s.length:Int) - 1 - 1;rw[m.2];omega
   simp only[Option.isSome_some,Bool.not_true,Bool.false_or,Option.getD_some,hd,ne_eq,not_true_eq_false,decide_false];by_cases n:i>0
   ·have o:=rU (all:=all) c (i:=i - 1) oM;rw[show (jh all s).sides[i - 1]?=_ from o];have p:=hg.face f (k:=s.length - 1 - (i - 1)) oM c;have:=hg.lt p.1 m.1<|y9 j oM oM;simp;omega
   ·simp[n]
 have u:(jh all s).sides.any bZ=false:=by
  rw[zk8];intro x d;show ¬ bZ x=true;have d:x∈fX all s:=d;unfold fX at d;split at d
  ·simp at d
  ·obtain ⟨k,_,rfl⟩:=zf5.1 d
   rcases Cb k with h | h <;> simp[bZ,h]
 have v:(decide ((jh all s).dim=1)&&decide (ne (jh all s).sides≠0))=false:=by
  by_cases hd:(jh all s).dim=1
  ·rw[a] at hd;have q:s.length=2:=oM;have:ne (jh all s).sides=0:=by
    show ne (fX all s)=0;unfold fX;rw[zg3 oM,q];simp[List.range_succ,ne,dD]
   rw[this];simp
  ·simp[hd]
 unfold cQ;rw[r,c,t,u,v];rfl
end
theorem Az (s:List Int):∀ {k q:Nat},k≤q→(s.eraseIdx k).eraseIdx q=(s.eraseIdx<|q+1).eraseIdx k:=by
 induction s with
 | nil=>intro k q _;rfl
 | cons a r ih =>
  intro k q h;cases k with
  | zero=>simp
  | succ k =>
   cases q with
   | zero=>omega
   | succ q =>
    simp only[List.eraseIdx_cons_succ];rw[ih oM]
theorem rz {s:List Int}(m:s.Nodup){a b i:Nat}(n:a<b)(hb:b<s.length)(q:i<s.length):s[i]∈(s.eraseIdx b).eraseIdx a↔i≠a∧i≠b:=by
 have c:∀ {j k:Nat} (f:j<s.length) (g:k<s.length),s[j]=s[k]→j=k:=fun {j k} f g e=>by
  rcases Nat.lt_trichotomy j k with h | h | h
  ·exact absurd e<|zd1.1 m j k f g h
  ·exact h
  ·exact absurd e.symm<|zd1.1 m k j g f h
 rw[List.mem_eraseIdx_iff_getElem];constructor
 ·rintro ⟨j,l,o,e⟩;have d:=l;rw[List.length_eraseIdx,zg4 hb] at d;rw[List.getElem_eraseIdx] at e;split at e
  ·have:=c _ _ e;omega
  ·have:=c _ _ e;omega
 ·rintro ⟨p,r⟩
  rcases Nat.lt_or_ge i b with h | h
  ·refine⟨i,by rw[List.length_eraseIdx,zg4 hb];omega,p,?_⟩;rw[List.getElem_eraseIdx,dif_pos h]
  ·refine⟨i - 1,by rw[List.length_eraseIdx,zg4 hb];omega,oM,?_⟩;rw[List.getElem_eraseIdx,dif_neg oM];congr 1;omega
theorem AA {s:List Int}(g:s.Nodup){a b c d:Nat}(e:a<b)(hb:b<s.length)(f:c<d)(hd:d<s.length)(h:(s.eraseIdx b).eraseIdx a=(s.eraseIdx d).eraseIdx c):a=c∧b=d:=by
 have key:∀ i,i<s.length→((i≠a∧i≠b)↔(i≠c∧i≠d)):=fun i j=>by
  rw[← rz g e hb j,← rz g f hd j,h]
 have m:=key a oM;have k:=key b hb;have hc:=key c oM;have l:=key d hd;omega
def GU (all:List (List Int))(s:List Int)(c:Int):Int:=ixC all ((s.eraseIdx (c % 16).toNat).eraseIdx (c / 16).toNat)
theorem BE {n k q:Nat}(c:k<n)(hq:q<n - 1):∃ a b:Nat,a<b∧b<n∧code k q=((a * 16+b:Nat):Int)∧((q<k∧a=q∧b=k)∨(k≤q∧a=k∧b=q+1)):=by
 unfold code;by_cases h:q<k
 ·rw[zg4 h];exact⟨q,k,h,c,I,.inl ⟨h,I,I⟩⟩
 ·rw[zg3 h];exact⟨k,q+1,oM,oM,I,.inr ⟨oM,I,I⟩⟩
theorem jZ {a b:Nat}(h:b<16):((((a * 16+b:Nat):Int) % 16).toNat=b)∧((((a * 16+b:Nat):Int) / 16).toNat=a):=oM
section
variable {all:List (List Int)}(hg:iI all)
include hg
theorem iI.aroundOk {s:List Int}(o:s∈all)(A:2<s.length):bC (all.map<|jh all) (jh all s)=0:=by
 obtain ⟨B,t,D⟩:=hg.form s o;have u:s.Nodup:=t.imp fun h=>by omega
 have w:∀ a b,a<b→b<s.length→(s.eraseIdx b).eraseIdx a∈all:=fun a b e hb=>by
  have v:=hg.face o (k:=b) hb oM;exact (hg.face v.1 (k:=a) (by rw[v.2];omega) (by rw[v.2];omega)).1
 have g:qy (all.map<|jh all) (jh all s)=xV (GU all s) (Gk s.length):=by
  unfold qy xV Gk;show (fX all s).map _=_;unfold fX;rw[zg3 oM,zi8,zi8];refine zc9 fun k j=>?_;have j:k<s.length:=by simpa using j
  have z:=hg.face o j oM;simp only[Function.comp_def];congr 1;unfold ay;rw[hg.find z.1];show fX all (s.eraseIdx k)=_;unfold fX;rw[z.2,zg3 oM,zi8];refine zc9 fun q hq=>?_;have hq:q<s.length - 1:=by simpa using hq
  obtain ⟨a,b,e,hb,hc,i⟩:=BE j hq;simp only[Function.comp_def,Dj];congr 1;unfold GU;rw[hc,(jZ (a:=a) (b:=b) oM).1,(jZ (a:=a) (b:=b) oM).2]
  rcases i with ⟨_,rfl,rfl⟩ | ⟨h,rfl,rfl⟩
  ·rfl
  ·rw[Az s h]
 rw[C2,g,xM,FB _ oM A];have f:∀ x∈AX (Gk s.length),∃ a b:Nat,a<b∧b<s.length∧x=((a * 16+b:Nat):Int):=by
  intro x l;obtain ⟨p,hp,l⟩:=List.mem_flatMap.1 l;obtain ⟨k,j,rfl⟩:=zf5.1 hp;obtain ⟨r,hr,rfl⟩:=zf5.1 l;obtain ⟨q,hq,rfl⟩:=zf5.1 hr;obtain ⟨a,b,e,hb,hc,_⟩:=BE (n:=s.length) (k:=k) (q:=q) (by simpa using j) (by simpa using hq);exact⟨a,b,e,hb,hc⟩
 intro x l y C h;obtain ⟨a,b,e,hb,rfl⟩:=f x l;obtain ⟨c,d,m,hd,rfl⟩:=f y C;unfold GU at h;rw[(jZ (a:=a) (b:=b) oM).1,(jZ (a:=a) (b:=b) oM).2,(jZ (a:=c) (b:=d) oM).1,(jZ (a:=c) (b:=d) oM).2] at h;obtain ⟨rfl,rfl⟩:=AA u e hb m hd<|hg.inj (w a b e hb) (w c d m hd) h;rfl
end
theorem ve {tl:List Cl}:∀ {l:List Cl} {n:Int},(∀ x∈l,n<x.id)→l.Pairwise (fun a b=>a.id<b.id)→(∀ x∈l,cQ tl x=0)→iH tl l n=none
 | [],_,_,_,_=>rfl
 | x::r,n,d,e,c=>by
  have j:=d x dO;obtain ⟨f,g⟩:=zk6.1 e;unfold iH;rw[zg3 oM,zg3 (by rw[c x dO];simp)];exact ve f g fun y i=>c y (by simp[i])
theorem vd {tl:List Cl}:∀ {l:List Cl},(∀ x∈l,x.dim>1→bC tl x=0)→od tl l=none
 | [],_=>rfl
 | x::r,h=>by
  unfold od;rw[zg3 fun ⟨a,b⟩=>b<|h x dO a];exact vd fun y c=>h y (by simp[c])
theorem ze {l:List Cl}(g:l.length≤4000)(d:∀ x∈aa l,0<x.id)(c:(aa l).Pairwise fun a b=>a.id<b.id)(e:∀ x∈aa l,cQ (aa l) x=0)(f:∀ x∈aa l,x.dim>1→bC (aa l) x=0):aq l=(0,0):=by
 unfold aq;rw[zg3 oM,bQ c,ve d c e,vd f];rfl
theorem wS (ls:List (List Int)):aq (dB ls)=(0,0):=by
 unfold dB;cases h:aX [] ls with
 | none=>rfl
 | some all =>
  obtain ⟨hg,hl⟩:=iE ls [] h iI.nil dO;dsimp only;have hc:aa (aa<|be all)=all.map (jh all):=by rw[fU,hg.cells]
  have c:=hg.ids;rw[zk7] at c;refine ze (by rw[hg.cells];simpa using hl) ?_ ?_ ?_ ?_ <;> rw[hc]
  ·intro x a;obtain ⟨s,_,rfl⟩:=zf5.1 a;show 0<ixC all s;unfold ixC;omega
  ·exact c
  ·intro x a;obtain ⟨s,b,rfl⟩:=zf5.1 a;exact hg.formOk b
  ·intro x a hd;obtain ⟨s,b,rfl⟩:=zf5.1 a;refine hg.aroundOk b ?_;have:(s.length:Int) - 1>1:=hd;omega
open Go.ChangeShapes Go.WideShapes Go.ChangeAt Go.RowKit
set_option maxRecDepth 100000
section
variable {H:Type}{enc:TypeId×Value→H}{W:World}{base:Nat}{spare:Nat→Bool}{hd:Bool}
end
inductive Cn (E:Int→Int→Prop):Int→Int→Prop
 | refl (a:Int):Cn E a a
 | step {a b c:Int} (h:E a b∨E b a) (r:Cn E b c):Cn E a c
theorem Cn.trans {E:Int→Int→Prop}{a b c:Int}(h:Cn E a b)(k:Cn E b c):Cn E a c:=by
 induction h with
 | refl _=>exact k
 | step h _ ih=>exact .step h<|ih k
theorem Cn.one {E:Int→Int→Prop}{a b:Int}(h:E a b):Cn E a b:=.step (.inl h) (.refl b)
theorem Cn.symm {E:Int→Int→Prop}{a b:Int}(h:Cn E a b):Cn E b a:=by
 induction h with
 | refl _=>exact .refl _
 | step h _ ih=>exact ih.trans<|.step h.symm<|.refl _
theorem Cn.mono {E E':Int→Int→Prop}(h:∀ a b,E a b→Cn E' a b){a b:Int}(hc:Cn E a b):Cn E' a b:=by
 induction hc with
 | refl _=>exact .refl _
 | step e _ ih =>
  rcases e with e | e
  ·exact (h _ _ e).trans ih
  ·exact (h _ _ e).symm.trans ih
theorem Cn.iso {E:Int→Int→Prop}{a b:Int}(h:∀ b,¬ E a b∧¬ E b a)(hc:Cn E a b):a=b:=by
 cases hc with
 | refl _=>rfl
 | step e _ =>
  rcases e with e | e
  ·exact absurd e (h _).1
  ·exact absurd e (h _).2
theorem Cn.add {E E':Int→Int→Prop}{x y:Int}(h:∀ a b,E' a b↔E a b∨(a=x∧b=y))(a b:Int):Cn E' a b↔Cn E a b∨(Cn E a x∧Cn E y b)∨(Cn E a y∧Cn E x b):=by
 have g:Cn E' x y:=.one<|(h x y).2<|.inr ⟨rfl,rfl⟩;have hm:∀ {a b:Int},Cn E a b→Cn E' a b:=fun hc=>hc.mono fun a b e=>.one<|(h a b).2<|.inl e;constructor
 ·intro hc;induction hc with
  | refl _=>exact .inl<|.refl _
  | step e _ ih =>
   have key:∀ {p q r:Int},Cn E p q→(Cn E q r∨(Cn E q x∧Cn E y r)∨(Cn E q y∧Cn E x r))→Cn E p r∨(Cn E p x∧Cn E y r)∨(Cn E p y∧Cn E x r):=by
    rintro p q r f (c | ⟨c,d⟩ | ⟨c,d⟩)
    ·exact .inl<|f.trans c
    ·exact .inr<|.inl ⟨f.trans c,d⟩
    ·exact .inr<|.inr ⟨f.trans c,d⟩
   rcases e with e | e
   ·rcases (h _ _).1 e with e | ⟨rfl,rfl⟩
    ·exact key (.one e) ih
    ·rcases ih with c | ⟨_,d⟩ | ⟨_,d⟩
     ·exact .inr<|.inl ⟨.refl _,c⟩
     ·exact .inr<|.inl ⟨.refl _,d⟩
     ·exact .inl d
   ·rcases (h _ _).1 e with e | ⟨rfl,rfl⟩
    ·exact key (Cn.one e).symm ih
    ·rcases ih with c | ⟨_,d⟩ | ⟨_,d⟩
     ·exact .inr<|.inr ⟨.refl _,c⟩
     ·exact .inl d
     ·exact .inr<|.inr ⟨.refl _,d⟩
 ·rintro (f | ⟨f,c⟩ | ⟨f,c⟩)
  ·exact hm f
  ·exact (hm f).trans<|g.trans<|hm c
  ·exact (hm f).trans<|g.symm.trans<|hm c
def eP (ml:List (Int×List Int))(a b:Int):Prop:=∃ p∈ml,p.2.head?=some a∧b∈p.2
def RZ (e:En)(z:Int×Int):Prop:=e.id=z.1∧e.sum=z.2
def RM (e:En)(p:Int×List Int):Prop:=e.id=p.1∧e.many=p.2.length∧p.2.head?=some (e.fst:Int)
theorem tx {x:Int}(h : -9223372036854775808≤x∧x<9223372036854775808):wr x=x:=zl3 _ oM
theorem ER {i:Nat}{c p:Int}:∀ {es:List En} {f:List (Int×Int)},ax RZ es f→(∀ e∈es,wr (e.sum+p)=e.sum+p)→wr (0+p)=p→ax RZ (ly i c p es) (fE f c p)
 | [],[],_,_,hp=>⟨⟨rfl,hp⟩,trivial⟩
 | e::es,(a,z)::f,h,hb,hp=>by
  obtain ⟨⟨b,d⟩,g⟩:=h;have b:e.id=a:=b;have d:e.sum=z:=d;simp only[ly,fE];by_cases hc:e.id=c
  ·rw[zg4 hc,zg4 (by rw[← b,hc])];exact⟨⟨b,by show wr (e.sum+p)=z+p;rw[hb e dO,d]⟩,g⟩
  ·rw[zg3 hc,zg3 (by rw[← b];exact fun e=>hc e.symm)];exact⟨⟨b,d⟩,ER g (fun x j=>hb x<|by simp[j]) hp⟩
 | [],_::_,h,_,_=>h.elim
 | _::_,[],h,_,_=>h.elim
theorem ES {i:Nat}{c p:Int}:∀ {es:List En} {ml:List (Int×List Int)},ax RM es ml→(∀ e∈es,wr (e.many+1)=e.many+1)→ax RM (ly i c p es) (gO ml c i) ∧
  ∀ a b,eP (gO ml c i) a b↔eP ml a b∨(a=jT i c es∧b=i)
 | [],[],_,_=>by
  refine⟨⟨⟨rfl,by rfl,rfl⟩,trivial⟩,fun a b=>?_⟩;constructor
  ·rintro ⟨q,hq,g,j⟩;simp[gO] at hq;subst hq;simp at g j;exact .inr ⟨g.symm,j⟩
  ·rintro (⟨q,hq,_⟩ | ⟨rfl,rfl⟩)
   ·simp at hq
   ·exact⟨(c,[(i:Int)]),by simp[gO],I,by simp⟩
 | e::es,(k,l)::ml,h,hb=>by
  obtain ⟨⟨g,j,m⟩,o⟩:=h;have g:e.id=k:=g;have j:e.many=l.length:=j;have m:l.head?=some (e.fst:Int):=m;simp only[ly,gO,jT];by_cases hc:e.id=c
  ·rw[zg4 hc,zg4 (by rw[← g,hc]),zg4 hc];have n:(l++[(i:Int)]).head?=some (e.fst:Int):=by
    cases l with
    | nil=>simp at m
    | cons x r=>simpa using m
   refine⟨⟨⟨g,by show wr (e.many+1)=_;rw[hb e dO,j];simp,n⟩,o⟩,fun a b=>?_⟩;constructor
   ·rintro ⟨q,hq,f,d⟩
    rcases zf4.1 hq with rfl | hq
    ·dsimp only at f d;rw[n] at f
     rcases zf6.1 d with d | d
     ·exact .inl ⟨(k,l),by simp,by rw[m,f],d⟩
     ·simp at d;injection f with f
      exact .inr ⟨f.symm,d⟩
    ·exact .inl ⟨q,by simp[hq],f,d⟩
   ·rintro (⟨q,hq,f,d⟩ | ⟨rfl,rfl⟩)
    ·rcases zf4.1 hq with rfl | hq
     ·exact⟨(k,l++[(i:Int)]),by simp,by rw[n,← m,f],by simp[d]⟩
     ·exact⟨q,by simp[hq],f,d⟩
    ·exact⟨(k,l++[(i:Int)]),by simp,n,by simp⟩
  ·rw[zg3 hc,zg3 (by rw[← g];exact fun e=>hc e.symm),zg3 hc];obtain ⟨i1,i2⟩:=ES (i:=i) (c:=c) (p:=p) o fun x s=>hb x (by simp[s]);refine⟨⟨⟨g,j,m⟩,i1⟩,fun a b=>?_⟩;have e1:∀ L,eP ((k,l)::L) a b↔(l.head?=some a∧b∈l)∨eP L a b:=fun L=>by
    unfold eP;simp
   rw[e1,e1,i2,or_assoc]
 | [],_::_,h,_=>h.elim
 | _::_,[],h,_=>h.elim
structure Sd (n t k:Nat)(es:List En)(part:List Int)(zl:List (Int×Int))(ml:List (Int×List Int)):Prop where
 z:ax RZ es zl
 m:ax RM es ml
 bz:∀ e∈es,-(t:Int)≤e.sum∧e.sum≤t∧0≤e.many∧e.many≤t
 bf:∀ e∈es,e.fst<k
 bm:∀ p∈ml,∀ x∈p.2,0≤x∧x<k
 len:part.length=n
 bp:∀ a,a<k→0≤part.getD a 0∧part.getD a 0<k
 cn:∀ a b:Nat,a<k→b<k→(part.getD a 0=part.getD b 0↔Cn (eP ml) a b)
theorem iW {ml:List (Int×List Int)}{k:Nat}(h:∀ p∈ml,∀ x∈p.2,0≤x∧x<(k:Int)){a b:Int}(hl:eP ml a b):(0≤a∧a<k)∧(0≤b∧b<k):=by
 obtain ⟨p,hp,c,d⟩:=hl;exact⟨h p hp a<|List.mem_of_head? c,h p hp b d⟩
theorem Sd.open {n t k:Nat}{es:List En}{part:List Int}{d:List (Int×Int)}{ml:List (Int×List Int)}(h:Sd n t k es part d ml)(f:k<n):Sd n t (k+1) es (part.set k k) d ml:=by
 have hl:=h.len;have g1:(part.set k (k:Int)).getD k 0=k:=by rw[zh4,List.getElem?_set];simp[hl,f]
 have g2:∀ a,a≠k→(part.set k (k:Int)).getD a 0=part.getD a 0:=fun a c=>by
  rw[zh4,zh4,List.getElem?_set,zg3 fun e=>c e.symm]
 have iso:∀ b,¬ eP ml k b∧¬ eP ml b k:=fun b=>⟨fun e=>by have:=iW h.bm e;omega,fun e=>by have:=iW h.bm e;omega⟩;refine⟨h.z,h.m,h.bz,fun e g=>by have:=h.bf e g;omega,fun p hp x i=>by have:=h.bm p hp x i;omega,by simp[hl],fun a c=>?_,fun a b c hb=>?_⟩
 ·by_cases e:a=k
  ·subst e;rw[g1];omega
  ·rw[g2 a e];have:=h.bp a oM;omega
 ·by_cases e:a=k <;> by_cases e2:b=k
  ·subst e;subst e2;exact⟨fun _=>.refl _,fun _=>I⟩
  ·subst e;rw[g1,g2 b e2];have:=h.bp b oM;exact⟨fun h=>by omega,fun hc=>by have:=hc.iso iso;omega⟩
  ·subst e2;rw[g1,g2 a e];have:=h.bp a oM;exact⟨fun h=>by omega,fun hc=>by have:=hc.symm.iso iso;omega⟩
  ·rw[g2 a e,g2 b e2];exact h.cn a b oM oM
theorem li {m:Nat}{old now:Int}{p:List Int}{a:Nat}(h:a<p.length)(hm:a<m):(eO m old now p).getD a 0=if p.getD a 0=now then old else p.getD a 0:=by
 rw[zh4,zh4];simp only[eO,List.getElem?_mapIdx,List.getElem?_eq_getElem h,Option.map_some,Option.getD_some,hm,true_and]
theorem Ea {i:Nat}{c:Int}{es:List En}(h:∀ e∈es,e.fst<i+1):jT i c es<i+1:=by
 induction es with
 | nil=>exact Nat.lt_succ_self i
 | cons e r ih =>
  unfold jT;split
  ·exact h e dO
  ·exact ih fun x a=>h x (by simp[a])
theorem zj {P:En→Prop}{i:Nat}{c p:Int}(hn:P (En.up ⟨c,0,0,i⟩ p))(b:∀ e,P e→P (e.up p))(d:∀ e,P e→P e):∀ {es:List En},(∀ e∈es,P e)→∀ e∈ly i c p es,P e
 | [],_,e,a=>by simp[ly] at a;subst a;exact hn
 | x::r,h,e,a=>by
  unfold ly at a;split at a
  ·rcases zf4.1 a with rfl | a
   ·exact b x (h x<|by simp)
   ·exact h e (by simp[a])
  ·rcases zf4.1 a with rfl | a
   ·exact h e dO
   ·exact zj hn b d (fun y f=>h y<|by simp[f]) e a
theorem zB {P:Int→Prop}{c:Int}{i:Int}(b:P i):∀ {ml:List (Int×List Int)},(∀ p∈ml,∀ x∈p.2,P x)→∀ p∈gO ml c i,∀ x∈p.2,P x
 | [],_,p,hp,x,a=>by simp[gO] at hp;subst hp;simp at a;subst a;exact b
 | (k,l)::r,h,p,hp,x,a=>by
  unfold gO at hp;split at hp
  ·rcases zf4.1 hp with rfl | hp
   ·rcases zf6.1 a with a | a
    ·exact h (k,l) dO x a
    ·simp at a;subst a;exact b
   ·exact h p (by simp[hp]) x a
  ·rcases zf4.1 hp with rfl | hp
   ·exact h (k,l) dO x a
   ·exact zB b (fun q hq=>h q<|by simp[hq]) p hp x a
theorem Sd.next {n t i:Nat}{es:List En}{part:List Int}{s:List (Int×Int)}{ml:List (Int×List Int)}{x r:am}(h:Sd n t (i+1) es part s ml)(A:i<n)(B:t<1000000)(u:x.sign=1∨x.sign = -1)(hr:r.sign=1∨r.sign = -1) :
  Sd n (t+1) (i+1) (mC i x.sign (es,part) r).1 (mC i x.sign (es,part) r).2 (jQ x s r) (fm i ml r):=by
 have hp:=sX u hr;have v:wr (x.sign * r.sign)=x.sign * r.sign:=tx oM;unfold mC jQ fm;dsimp only;rw[v];generalize x.sign * r.sign=p at *;have hl:=h.len;have f:=ES (i:=i) (c:=r.cell) (p:=p) h.m fun e d=>by have:=h.bz e d;exact tx oM
 have j:=Ea (c:=r.cell) h.bf;refine⟨ER h.z (fun e d=>by have:=h.bz e d;exact tx oM) (by rw[Int.zero_add];exact tx oM),f.1,?_,?_,?_,by rw[mw];exact hl,fun a g=>?_,fun a b g hb=>?_⟩
 ·have:∀ e∈ly i r.cell p es,(-(t:Int)≤e.sum∧e.sum≤t∧0≤e.many∧e.many≤t)∨(-((t+1:Nat):Int)≤e.sum∧e.sum≤((t+1:Nat):Int)∧0≤e.many∧e.many≤((t+1:Nat):Int)):=by
   have k:=h.bz;clear h f j hl;generalize l:ly i r.cell p es=fs;intro e d;subst l;induction es with
   | nil =>
    simp[ly] at d;subst d;right;simp only[En.up];rw[tx oM,tx oM];omega
   | cons y q ih =>
    unfold ly at d;split at d
    ·rcases zf4.1 d with rfl | d
     ·right;have:=k y dO;simp only[En.up];rw[tx oM,tx oM];omega
     ·exact .inl (k e<|by simp[d])
    ·rcases zf4.1 d with rfl | d
     ·exact .inl (k e<|by simp)
     ·exact ih (fun z hz=>k z<|by simp[hz]) d
  intro e d
  rcases this e d with o | o <;> omega
 ·exact zj (P:=fun e=>e.fst<i+1) (Nat.lt_succ_self i) (fun e d=>d) (fun e d=>d) h.bf
 ·exact zB (P:=fun x=>0≤x∧x<((i+1:Nat):Int)) oM h.bm
 ·rw[li oM g];split
  ·exact h.bp _ j
  ·exact h.bp a g
 ·rw[li oM g,li oM hb,Cn.add (x:=(jT i r.cell es:Int)) (y:=(i:Int)) f.2 a b];rw[← h.cn a b g hb,← h.cn a _ g j,← h.cn i b oM hb,← h.cn a i g oM,← h.cn _ b j hb];generalize part.getD a 0=pa;generalize part.getD b 0=pb;generalize part.getD i 0=pi;generalize part.getD (jT i r.cell es) 0=pf;by_cases o:pa=pi <;> by_cases w:pb=pi <;> simp[o,w] <;> omega
theorem Sd.inner {n i:Nat}{x:am}(b:i<n)(c:x.sign=1∨x.sign = -1):∀ (l:List am) {t:Nat} {es:List En} {part:List Int} {a:List (Int×Int)} {ml:List (Int×List Int)},Sd n t (i+1) es part a ml→t+l.length<1000000→(∀ r∈l,r.sign=1∨r.sign = -1) →
  Sd n (t+l.length) (i+1) (l.foldl (mC i x.sign) (es,part)).1 (l.foldl (mC i x.sign) (es,part)).2 (l.foldl (jQ x) a) (l.foldl (fm i) ml)
 | [],_,_,_,_,_,h,_,_=>h
 | r::l,t,es,part,a,ml,h,d,hr=>by
  simp only[zf2] at d;have e:=h.next (x:=x) (r:=r) b oM c (hr r<|by simp);have:=Sd.inner b c l e oM (fun q hq=>hr q<|by simp[hq]);simp only[zj2,zf2];rw[show t+(l.length+1)=t+1+l.length by omega];exact this
theorem Sd.outer {tl:List Cl}{n:Nat}:∀ (l:List am) {t k:Nat} {es:List En} {part:List Int} {a:List (Int×Int)} {ml:List (Int×List Int)},Sd n t k es part a ml→k+l.length≤n→t+64 * l.length<1000000→(∀ x∈l,x.sign=1∨x.sign = -1)→(∀ x∈l,(ay tl x).length≤64∧∀ r∈ay tl x,r.sign=1∨r.sign = -1) →
  ∃ b,Sd n b (k+l.length) ((l.zipIdx k).foldl (oy tl) (es,part)).1 ((l.zipIdx k).foldl (oy tl) (es,part)).2 (l.foldl (fun a x=>(ay tl x).foldl (jQ x) a) a)<|(l.zipIdx k).foldl (fun ml p=>(ay tl p.1).foldl (fm p.2) ml) ml
 | [],t,_,_,_,_,_,h,_,_,_,_=>⟨t,h⟩
 | x::l,t,k,es,part,a,ml,h,e,f,d,hq=>by
  simp only[zf2] at e f;have g:=hq x dO;have i:=(h.open oM).inner (x:=x) oM (d x<|by simp) (ay tl x) oM g.2;obtain ⟨b,j⟩:=Sd.outer l i oM oM (fun y c=>d y<|by simp[c]) (fun y c=>hq y<|by simp[c]);refine⟨b,?_⟩;simp only[List.zipIdx_cons,zj2,zf2];rw[show k+(l.length+1)=k+1+l.length by omega];exact j
theorem o7 {α β:Type}{R:α→β→Prop}{p:α→Bool}{q:β→Bool}(h:∀ a b,R a b→p a=q b):∀ {l:List α} {m:List β},ax R l m→l.any p=m.any q
 | [],[],_=>rfl
 | a::l,b::m,hr=>by simp only[List.any_cons,h a b hr.1,o7 h hr.2]
 | [],_::_,hr=>hr.elim
 | _::_,[],hr=>hr.elim
theorem ue {ml:List (Int×List Int)}(n:∀ p∈ml,p.2.length=2)(a b:Int):Rch (j5<|dJ ml) a b↔Cn (eP ml) a b:=by
 have f:∀ x y,y∈fq (dJ ml) x→Cn (eP ml) x y:=fun x y j=>by
  obtain ⟨p,hp,h⟩:=(lB ml x y).1 j
  rcases h with h | h
  ·exact .one ⟨p,hp,by rw[h];rfl,by rw[h];simp⟩
  ·exact (Cn.one (E:=eP ml) ⟨p,hp,by rw[h];rfl,by rw[h];simp⟩).symm
 have i:∀ x,j5 (dJ ml) x≠none:=fun x=>by simp[j5]
 constructor
 ·intro h;induction h with
  | refl _ _=>exact .refl _
  | step x y _ l hl j _ ih =>
   simp only[j5,zh1] at hl;subst hl;exact (f x y j).trans ih
 ·intro h;induction h with
  | refl a=>exact .refl a<|i a
  | @step x y z e _ ih =>
   have key:∀ u v,eP ml u v→v=u∨v∈fq (dJ ml) u:=fun u v ⟨p,hp,k,g⟩=>by
    have:=n p hp
    match hq:p.2,this with
    | [c,d],_ =>
     rw[hq] at k g;simp at k g;subst k
     rcases g with g | g
     ·exact .inl g
     ·exact .inr<|(lB ml c v).2 ⟨p,hp,.inl (by rw[hq,g])⟩
   rcases e with e | e
   ·rcases key x y e with rfl | m
    ·exact ih
    ·exact .step x y z _ I m ih
   ·rcases key y x e with rfl | m
    ·exact ih
    ·refine .step x y z _ I ?_ ih;obtain ⟨p,hp,o⟩:=(lB ml y x).1 m;exact (lB ml x y).2 ⟨p,hp,o.symm⟩
theorem oJ {l:List Int}(hn:l.Nodup)(hb:∀ x∈l,0≤x):(l.map Int.toNat).Nodup:=by
 rw[List.Nodup,zk7];refine List.Pairwise.imp_of_mem ?_ hn;intro a b d c f e;have:=hb a d;have:=hb b c;omega
theorem me {l:List Int}{n:Nat}(hn:l.Nodup)(hb:∀ x∈l,0≤x∧x<(n:Int)):l.length≤n:=by
 have b:=oJ hn fun x a=>(hb x a).1;have:=ew (l:=List.range n) b List.nodup_range fun x a=>by
  obtain ⟨y,c,rfl⟩:=zf5.1 a;have:=hb y c;exact List.mem_range.2 oM
 simpa using this
theorem tM {tl:List Cl}{c:Cl}(A:AOk tl c)(D:0<c.sides.length):jd tl c=bC tl c:=by
 obtain ⟨F,G,hq⟩:=A;have start:Sd c.sides.length 0 0 [] (List.replicate c.sides.length 0) [] []:=⟨trivial,trivial,by simp,by simp,by simp,by simp,by simp,fun a b y=>by omega⟩;obtain ⟨t,hd⟩:=start.outer c.sides (tl:=tl) oM oM G hq;have e1:((c.sides.zipIdx 0).foldl (oy tl) ([],List.replicate c.sides.length 0))=nk tl c.sides c.sides.length:=rfl;rw[e1] at hd;have hz:ax RZ (nk tl c.sides c.sides.length).1 (fF tl c.sides):=hd.z;have hm:ax RM (nk tl c.sides c.sides.length).1 (fg tl c.sides):=hd.m;unfold jd bC;rw[o7 (p:=fun e=>decide (e.sum≠0)) (q:=fun p:Int×Int=>decide (p.2≠0)) (fun a b h=>by rw[h.2]) hz];rw[o7 (p:=fun e=>decide (e.many≠2)) (q:=fun p:Int×List Int=>decide ((p.2.length:Int)≠2)) (fun a b h=>by rw[h.2.1]) hm];split
 ·rfl
 ·split
  ·rfl
  ·rename_i B;have E:∀ p∈fg tl c.sides,p.2.length=2:=fun p hp=>by
    have:=zk8.1 ((zk1 _).mp B) p hp;simp at this;omega
   have k:∀ p∈fg tl c.sides,∀ x∈p.2,0≤x∧x<((0+c.sides.length:Nat):Int):=hd.bm;rw[Nat.zero_add] at k;have w:∀ a b:Nat,a<c.sides.length→b<c.sides.length→((nk tl c.sides c.sides.length).2.getD a 0=(nk tl c.sides c.sides.length).2.getD b 0↔Rch (j5<|dJ<|fg tl c.sides) a b):=fun a b y hb=>by
    rw[ue E];exact hd.cn a b oM oM
   have H:=hd.len;have f:∀ x:Int,x∈jA (dJ<|fg tl c.sides)↔Rch (j5<|dJ<|fg tl c.sides) 0 x:=fun x=>wt (cnt:=oc<|dJ<|fg tl c.sides) (fun v v' h=>jN h) (lq _) (zl2<|zc6 _ _) (by simp[j5]) x;have o:(jA<|dJ<|fg tl c.sides).Nodup:=jM _ _ _ _ dO;have r:∀ x∈jA (dJ<|fg tl c.sides),0≤x∧x<(c.sides.length:Int):=fun x j=>by
    have hr:=(ue E 0 x).1<|(f x).1 j;have:∀ a b,Cn (eP<|fg tl c.sides) a b→(0≤a∧a<(c.sides.length:Int))→(0≤b∧b<(c.sides.length:Int)):=by
     intro a b h;induction h with
     | refl _=>exact fun h=>h
     | step e _ ih =>
      intro _
      rcases e with e | e
      ·exact ih (iW k e).2
      ·exact ih (iW k e).1
    exact this 0 x hr oM
   generalize (nk tl c.sides c.sides.length).2=part at *;generalize jA (dJ<|fg tl c.sides)=seen at *;by_cases d:∀ a,a<c.sides.length→part.getD a 0=part.getD 0 0
   ·have J:part.any (fun x=>decide (x≠part.getD 0 0))=false:=by
     rw[zk8];intro x j;obtain ⟨i,u,rfl⟩:=zc8 j;have:=d i oM;rw[zh4,List.getElem?_eq_getElem u] at this;simpa using this
    have g:seen.length=c.sides.length:=by
     refine Nat.le_antisymm (me o r) ?_;have K:=ew (m:=List.range c.sides.length) (l:=seen.map Int.toNat) List.nodup_range (oJ o fun x j=>(r x j).1) fun i u=>by
      have u:=List.mem_range.1 u;exact zf5.2 ⟨(i:Int),(f i).2<|(w 0 i D u).1 (d i u).symm,by simp⟩
     simpa using K
    rw[J,g];simp
   ·have L:part.any (fun x=>decide (x≠part.getD 0 0))=true:=by
     simp only[Classical.not_forall] at d;obtain ⟨a,y,s⟩:=d;rw[zk2];refine⟨part.getD a 0,?_,by simpa using s⟩;rw[zh4,List.getElem?_eq_getElem oM];exact gM _
    have g:(seen.length:Int)≠c.sides.length:=by
     simp only[Classical.not_forall] at d;obtain ⟨a,y,s⟩:=d;have C:(a:Int) ∉ seen:=fun h=>s ((w 0 a D y).2<|(f a).1 h).symm;have:=me (l:=(a:Int)::seen) (n:=c.sides.length) (zk5.2 ⟨C,o⟩) fun x j=>by
      rcases zf4.1 j with rfl | j
      ·omega
      ·exact r x j
     simp at this;omega
    rw[L,zg4 rfl,zg4 g]
theorem dF {tl:List Cl}:∀ {l:List Cl} {n:Int},iH tl l n=none→l.Pairwise (fun a b=>a.id<b.id)∧(∀ x∈l,n<x.id)∧∀ x∈l,cQ tl x=0
 | [],_,_=>⟨List.Pairwise.nil,by simp,by simp⟩
 | x::r,n,h=>by
  unfold iH at h;split at h
  ·cases h
  ·rename_i e;split at h
   ·cases h
   ·rename_i f;obtain ⟨g,d,i⟩:=dF h;refine⟨zk6.2 ⟨d,g⟩,fun y c=>?_,fun y c=>?_⟩
    ·rcases zf4.1 c with rfl | c
     ·omega
     ·have:=d y c;omega
    ·rcases zf4.1 c with rfl | c
     ·exact zh3 f
     ·exact i y c
theorem dM (l:List Cl):aG l=aq l:=by
 unfold aG aq;split
 ·rfl
 ·cases h:iH (an l) (aa l) 0 with
  | some p=>rfl
  | none =>
   obtain ⟨e,_,d⟩:=dF h;have f:=bQ e;have key:∀ m:List Cl,(∀ x∈m,x∈aa l)→nn (aa l) m=od (an l) m:=by
    intro m;induction m with
    | nil=>intro _;rfl
    | cons x r ih =>
     intro hm;have c:=hm x dO;unfold nn od;rw[ih fun y g=>hm y (by simp[g])];by_cases hd:x.dim>1
     ·have a:=Bb d c;have hn:0<x.sides.length:=by
       have b:=d x c;unfold cQ at b;split at b
       ·cases b
       ·split at b
        ·cases b
        ·rename_i hc;simp[aO] at hc;have:=hc.2 hd;omega
      rw[f] at a ⊢;rw[tM a hn]
     ·simp[hd]
   rw[key _ fun x c=>c]
set_option maxRecDepth 10000
theorem lJ {l:List Cl}(h:(aq l).2=0):iH (an l) (aa l) 0=none:=by
 unfold aq at h;split at h
 ·simp at h
 ·cases a:iH (an l) (aa l) 0 with
  | none=>rfl
  | some p=>rw[a] at h;exact absurd h<|ww a
theorem DP (a b:List Cl):cX a b=E7 a b:=by
 have hb:cI a b=ol a b:=by
  unfold cI ol;rw[dM,dM];by_cases c:(aq a).2=0
  ·by_cases d:(aq b).2=0
   ·rw[bQ (dF<|lJ c).1,bQ (dF<|lJ d).1,aw,aw]
   ·simp[d]
  ·simp[c]
 unfold cX E7;rw[hb,dM]
section
variable {A:List (List Int)}(hA:iI A)
include hA
end
theorem FM {tl:List Cl}{c:Cl}(r:0≤c.dim∧c.dim≤8)(k:aO c=false)(l:∀ x∈c.sides,∃ d,ab tl x.cell=some d∧d.dim=c.dim - 1)(m:c.sides.Pairwise fun a b=>a.cell<b.cell)(n:∀ x∈c.sides,x.sign=1∨x.sign = -1)(o:c.dim=1→ne c.sides=0):cQ tl c=0:=by
 have e1:fY c=false:=by unfold fY;simp;omega
 have e3:(List.range c.sides.length).any (jn tl c)=false:=by
  rw[zk8];intro i e;have e:=List.mem_range.1 e;obtain ⟨d,f,g⟩:=l _<|gM e;unfold jn;rw[List.getElem?_eq_getElem e];show ¬ cw _ _ i c.sides[i]=true;unfold cw;rw[f];simp only[Option.isSome_some,Bool.not_true,Bool.false_or,Option.getD_some,g,ne_eq,not_true_eq_false,decide_false];by_cases j:i>0
  ·have p:=zd1.1 m (i - 1) i oM e oM;rw[List.getElem?_eq_getElem oM];simp;omega
  ·simp[j]
 have e4:c.sides.any bZ=false:=by
  rw[zk8];intro x q
  rcases n x q with h | h <;> simp[bZ,h]
 have e5:(decide (c.dim=1)&&decide (ne c.sides≠0))=false:=by
  by_cases hd:c.dim=1
  ·rw[o hd];simp
  ·simp[hd]
 unfold cQ;rw[e1,k,e3,e4,e5];rfl
section
variable {A B:List (List Int)}(hA:iI A)(hB:iI B)
include hA hB
end
section
variable {A B:List (List Int)}(hA:iI A)(hB:iI B)
include hA hB
end
structure Few (a:List Cl)(A:List (List Int)):Prop where
 good:iI A
 cells:a=A.map (jh A)
 small:∀ s∈A,s.length≤3
 few:A.length≤14
def xU (tl:List Cl)(l:List am)(r:Int):Int:=(l.flatMap fun x=>(ay tl x).map fun q=>if q.cell=r then x.sign * q.sign else 0).sum
def kM (tl:List Cl)(x:am)(r:Int):Nat:=((ay tl x).filter fun q=>decide (q.cell=r)).length
def cntR (tl:List Cl)(l:List am)(r:Int):Nat:=(l.map fun x=>kM tl x r).sum
def lg (tl:List Cl)(l:List am)(a b:Int):Prop:=∃ x∈l,∃ y∈l,x.cell=a∧y.cell=b∧∃ r,0<kM tl x r∧0<kM tl y r
theorem uO (b:List (Int×Int))(k x r:Int):eW (fE b k x) r=eW b r+if r=k then x else 0:=by
 induction b with
 | nil =>
  simp only[fE,eW];split <;> simp
 | cons p q ih =>
  obtain ⟨a,z⟩:=p;simp only[fE];by_cases h:k=a
  ·subst h;simp only[if_true,eW];split <;> simp
  ·rw[zg3 h];simp only[eW,ih];by_cases hr:r=a
   ·subst hr;rw[zg4 rfl,zg4 rfl,zg3 fun e=>h e.symm];omega
   ·rw[zg3 hr,zg3 hr]
theorem rO (x:am)(r:Int):∀ (l:List am) (a:List (Int×Int)),eW (l.foldl (jQ x) a) r=eW a r+(l.map fun q=>if q.cell=r then x.sign * q.sign else 0).sum
 | [],a=>by simp
 | q::l,a=>by
  simp only[zj2,zg7,List.sum_cons];rw[rO x r l,jQ,uO];by_cases h:r=q.cell
  ·rw[zg4 h,zg4 h.symm];omega
  ·rw[zg3 h,zg3 fun e=>h e.symm];omega
theorem uN (tl:List Cl)(l:List am)(r:Int):eW (fF tl l) r=xU tl l r:=by
 have:∀ (l:List am) (a:List (Int×Int)),eW (l.foldl (fun a x=>(ay tl x).foldl (jQ x) a) a) r=eW a r+xU tl l r:=by
  intro l;induction l with
  | nil=>intro a;simp[xU]
  | cons x q ih =>
   intro a;simp only[zj2];rw[ih,rO];simp only[xU,zh8,List.sum_append];omega
 have h:=this l [];simpa [fF,eW] using h
theorem o8 (ml:List (Int×Int))(k x:Int):(fE ml k x).map Prod.fst=if ml.any (fun p=>decide (p.1=k)) then ml.map Prod.fst else ml.map Prod.fst++[k]:=by
 induction ml with
 | nil=>simp[fE]
 | cons p r ih =>
  obtain ⟨a,l⟩:=p;simp only[fE];by_cases h:k=a
  ·subst h;simp
  ·have b:¬ a=k:=fun e=>h e.symm;rw[zg3 h];simp only[zg7,ih,List.any_cons,b,decide_false,Bool.false_or];split <;> simp
theorem AO {ml:List (Int×Int)}(h:(ml.map Prod.fst).Nodup)(k x:Int):((fE ml k x).map Prod.fst).Nodup:=by
 rw[o8];split
 ·exact h
 ·rename_i d;rw[List.nodup_append];refine⟨h,by simp,fun a f b hb e=>d ?_⟩;simp at hb;subst hb;obtain ⟨p,hp,c⟩:=zf5.1 f;rw[zk2];exact⟨p,hp,by simp[c,e]⟩
theorem lc (tl:List Cl)(l:List am):((fF tl l).map Prod.fst).Nodup:=by
 have b:∀ (x:am) (q:List am) (a:List (Int×Int)),(a.map Prod.fst).Nodup→((q.foldl (jQ x) a).map Prod.fst).Nodup:=by
  intro x q;induction q with
  | nil=>intro a h;exact h
  | cons r t ih=>intro a h;exact ih _<|AO h _ _
 have c:∀ (q:List am) (a:List (Int×Int)),(a.map Prod.fst).Nodup→((q.foldl (fun a x=>(ay tl x).foldl (jQ x) a) a).map Prod.fst).Nodup:=by
  intro q;induction q with
  | nil=>intro a h;exact h
  | cons x t ih=>intro a h;exact ih _<|b _ _ _ h
 exact c _ _ dO
theorem nO:∀ {b:List (Int×Int)},(b.map Prod.fst).Nodup→∀ p∈b,eW b p.1=p.2
 | [],_,p,hp=>by simp at hp
 | (a,z)::r,h,p,hp=>by
  simp only[zg7,zk5] at h
  rcases zf4.1 hp with rfl | hp
  ·simp[eW]
  ·simp only[eW];rw[zg3 fun e=>h.1<|zf5.2 ⟨p,hp,e⟩];exact nO h.2 p hp
theorem oS:∀ {b:List (Int×Int)} {k:Int},eW b k≠0→∃ p∈b,p.1=k∧p.2=eW b k
 | [],_,h=>by simp[eW] at h
 | (a,z)::r,k,h=>by
  simp only[eW] at h ⊢;split
  ·rename_i e;exact⟨(a,z),by simp,e.symm,I⟩
  ·rename_i e;rw[zg3 e] at h;obtain ⟨p,hp,c,d⟩:=oS h;exact⟨p,by simp[hp],c,d⟩
theorem oE (tl:List Cl)(l:List am):(fF tl l).any (fun p=>decide (p.2≠0))=false↔∀ r,xU tl l r=0:=by
 rw[zk8];constructor
 ·intro h r;rw[← uN];refine zh3 fun a=>?_;obtain ⟨p,hp,_,b⟩:=oS a;exact h p hp (by simpa [b] using a)
 ·intro h p hp;have:=nO (lc tl l) p hp;rw[uN,h] at this;simp[← this]
theorem rP (i r:Int):∀ (l:List am) (ml:List (Int×List Int)),fq (l.foldl (fm i) ml) r=fq ml r++List.replicate (l.filter fun q=>decide (q.cell=r)).length i
 | [],ml=>by simp
 | q::l,ml=>by
  simp only[zj2];rw[rP i r l,fm,uQ,zj1];by_cases h:r=q.cell
  ·rw[zg4 h,zg4 (by simp[h])];simp[List.replicate_succ]
  ·rw[zg3 h,zg3 (by simp;exact fun e=>h e.symm)]
theorem yS (tl:List Cl)(l:List am)(r:Int):fq (fg tl l) r=l.zipIdx.flatMap fun p=>List.replicate (kM tl p.1 r) (p.2:Int):=by
 have:∀ (q:List (am×Nat)) (ml:List (Int×List Int)),fq (q.foldl (fun ml p=>(ay tl p.1).foldl (fm p.2) ml) ml) r=fq ml r++q.flatMap fun p=>List.replicate (kM tl p.1 r) (p.2:Int):=by
  intro q;induction q with
  | nil=>intro ml;simp
  | cons p t ih =>
   intro ml;simp only[zj2];rw[ih,rP];simp[kM]
 have h:=this l.zipIdx [];simpa [fg,fq] using h
theorem Bs (tl:List Cl)(l:List am)(r:Int):(fq (fg tl l) r).length=cntR tl l r:=by
 rw[yS];have:∀ (l:List am) (k:Nat),((l.zipIdx k).flatMap fun p=>List.replicate (kM tl p.1 r) (p.2:Int)).length=cntR tl l r:=by
  intro l;induction l with
  | nil=>intro k;rfl
  | cons x q ih=>intro k;simp only[List.zipIdx_cons,zh8,ze8,List.length_replicate,ih,cntR,zg7,List.sum_cons]
 exact this l 0
theorem ox (tl:List Cl)(l:List am)(r i:Int):i∈fq (fg tl l) r↔∃ k:Nat,i=k∧∃ x,l[k]?=some x∧0<kM tl x r:=by
 rw[yS,List.mem_flatMap];constructor
 ·rintro ⟨⟨x,k⟩,hp,a⟩;obtain ⟨b,rfl⟩:=List.mem_replicate.1 a;refine⟨k,I,x,?_,Nat.pos_of_ne_zero b⟩;simpa using List.mem_zipIdx_iff_getElem?.1 hp
 ·rintro ⟨k,rfl,x,c,d⟩;exact⟨(x,k),List.mem_zipIdx_iff_getElem?.2 (by simpa using c),List.mem_replicate.2 ⟨Nat.ne_of_gt d,I⟩⟩
theorem nP:∀ {ml:List (Int×List Int)},(ml.map Prod.fst).Nodup→∀ p∈ml,fq ml p.1=p.2
 | [],_,p,hp=>by simp at hp
 | (a,z)::r,h,p,hp=>by
  simp only[zg7,zk5] at h
  rcases zf4.1 hp with rfl | hp
  ·simp[fq]
  ·simp only[fq];rw[zg3 fun e=>h.1<|zf5.2 ⟨p,hp,e⟩];exact nP h.2 p hp
theorem oT:∀ {ml:List (Int×List Int)} {k:Int},fq ml k≠[]→∃ p∈ml,p.1=k∧p.2=fq ml k
 | [],_,h=>by simp[fq] at h
 | (a,z)::r,k,h=>by
  simp only[fq] at h ⊢;split
  ·rename_i e;exact⟨(a,z),by simp,e.symm,I⟩
  ·rename_i e;rw[zg3 e] at h;obtain ⟨p,hp,b,c⟩:=oT h;exact⟨p,by simp[hp],b,c⟩
theorem BN:∀ {ml:List (Int×List Int)} {k x:Int},(∀ p∈ml,p.2≠[])→∀ p∈gO ml k x,p.2≠[]
 | [],_,_,_,p,hp=>by simp[gO] at hp;subst hp;simp
 | (a,l)::r,k,x,h,p,hp=>by
  unfold gO at hp;split at hp
  ·rcases zf4.1 hp with rfl | hp
   ·simp
   ·exact h p (by simp[hp])
  ·rcases zf4.1 hp with rfl | hp
   ·exact h _ dO
   ·exact BN (fun q hq=>h q<|by simp[hq]) p hp
theorem Gz (tl:List Cl)(l:List am):∀ p∈fg tl l,p.2≠[]:=by
 have a:∀ (i:Int) (q:List am) (ml:List (Int×List Int)),(∀ p∈ml,p.2≠[])→∀ p∈q.foldl (fm i) ml,p.2≠[]:=by
  intro i q;induction q with
  | nil=>intro ml h;exact h
  | cons r t ih=>intro ml h;exact ih _<|BN h
 have b:∀ (q:List (am×Nat)) (ml:List (Int×List Int)),(∀ p∈ml,p.2≠[])→∀ p∈q.foldl (fun ml p=>(ay tl p.1).foldl (fm p.2) ml) ml,p.2≠[]:=by
  intro q;induction q with
  | nil=>intro ml h;exact h
  | cons x t ih=>intro ml h;exact ih _<|a _ _ _ h
 exact b _ _ dO
theorem yz (tl:List Cl)(l:List am):(fg tl l).any (fun p=>decide ((p.2.length:Int)≠2))=false↔∀ r,cntR tl l r=0∨cntR tl l r=2:=by
 rw[zk8];constructor
 ·intro h r;rw[← Bs];by_cases a:fq (fg tl l) r=[]
  ·left;rw[a];rfl
  ·right;obtain ⟨p,hp,_,b⟩:=oT a;have:=h p hp;rw[b] at this;simp at this;omega
 ·intro h p hp;have c:=nP (kF tl l) p hp;have b:=h p.1;rw[← Bs,c] at b;have d:=List.length_pos_iff.2<|Gz tl l p hp;simp;omega
theorem GA (tl:List Cl)(l:List am):∀ p∈fg tl l,∀ x∈p.2,0≤x∧x<(l.length:Int):=fun p hp x a=>by
 rw[← nP (kF tl l) p hp] at a;obtain ⟨k,rfl,y,b,_⟩:=(ox tl l p.1 x).1 a;have:=(zf8.1 b).1;omega
theorem DI {ml:List (Int×List Int)}{n:Nat}(k:∀ p∈ml,p.2.length=2)(hb:∀ p∈ml,∀ x∈p.2,0≤x∧x<(n:Int))(t:0<n):(jA<|dJ ml).length=n↔∀ a:Nat,a<n→Cn (eP ml) 0 a:=by
 have c:∀ x:Int,x∈jA (dJ ml)↔Rch (j5<|dJ ml) 0 x:=fun x=>wt (cnt:=oc<|dJ ml) (fun v v' h=>jN h) (lq _) (zl2<|zc6 _ _) (by simp[j5]) x;have d:(jA<|dJ ml).Nodup:=jM _ _ _ _ dO;have f:∀ x∈jA (dJ ml),0≤x∧x<(n:Int):=fun x g=>by
  have hr:=(ue k 0 x).1<|(c x).1 g;have:∀ a b,Cn (eP ml) a b→(0≤a∧a<(n:Int))→(0≤b∧b<(n:Int)):=by
   intro a b h;induction h with
   | refl _=>exact fun h=>h
   | step e _ ih =>
    intro _
    rcases e with e | e
    ·exact ih (iW hb e).2
    ·exact ih (iW hb e).1
  exact this 0 x hr oM
 generalize jA (dJ ml)=seen at *;constructor
 ·intro hl a u;refine Classical.byContradiction fun o=>?_;have q:(a:Int) ∉ seen:=fun h=>o<|(ue k 0 a).1<|(c a).1 h;have:=me (l:=(a:Int)::seen) (n:=n) (zk5.2 ⟨q,d⟩) fun x g=>by
   rcases zf4.1 g with rfl | g
   ·omega
   ·exact f x g
  simp at this;omega
 ·intro j;refine Nat.le_antisymm (me d f) ?_;have s:=ew (m:=List.range n) (l:=seen.map Int.toNat) List.nodup_range (oJ d fun x g=>(f x g).1) fun i r=>by
   have r:=List.mem_range.1 r;exact zf5.2 ⟨(i:Int),(c i).2<|(ue k 0 i).2<|j i r,by simp⟩
  simpa using s
theorem Cn.map {E E':Int→Int→Prop}{f:Int→Int}(h:∀ a b,E a b→Cn E' (f a) (f b)){a b:Int}(hc:Cn E a b):Cn E' (f a) (f b):=by
 induction hc with
 | refl _=>exact .refl _
 | step e _ ih =>
  rcases e with e | e
  ·exact (h _ _ e).trans ih
  ·exact (h _ _ e).symm.trans ih
theorem kI {tl:List Cl}{c:Cl}(J:0<c.sides.length)(K:(c.sides.map am.cell).Nodup) :
  bC tl c=0↔(∀ r,xU tl c.sides r=0)∧(∀ r,cntR tl c.sides r=0∨cntR tl c.sides r=2)∧∀ x∈c.sides,∀ y∈c.sides,Cn (lg tl c.sides) x.cell y.cell:=by
 unfold bC;generalize c.sides=l at *;by_cases G:(fF tl l).any (fun p=>decide (p.2≠0))=false
 ·rw[zg3 (by rw[G];simp)];by_cases hm:(fg tl l).any (fun p=>decide ((p.2.length:Int)≠2))=false
  ·rw[zg3 (by rw[hm];simp)];have L:∀ p∈fg tl l,p.2.length=2:=fun p hp=>by
    have:=zk8.1 hm p hp;simp at this;omega
   have M:=DI L (GA tl l) J;have o:∀ {i j:Nat} {x y:am},l[i]?=some x→l[j]?=some y→x.cell=y.cell→i=j:=fun {i j x y} n g e=>by
    obtain ⟨i1,T⟩:=zf8.1 n;obtain ⟨i2,U⟩:=zf8.1 g;have key:∀ {a b:Nat} (D:a<l.length) (hb:b<l.length),a<b→l[a].cell≠l[b].cell:=fun {a b} D hb h=>by
     have:=zd1.1 K a b (by simpa using D) (by simpa using hb) h;simpa using this
    rcases Nat.lt_trichotomy i j with h | h | h
    ·exact absurd (by rw[T,U];exact e)<|key i1 i2 h
    ·exact h
    ·exact absurd (by rw[T,U];exact e.symm)<|key i2 i1 h
   have t:(∀ a:Nat,a<l.length→Cn (eP<|fg tl l) 0 a)↔∀ x∈l,∀ y∈l,Cn (lg tl l) x.cell y.cell:=by
    constructor
    ·intro d x A y s;obtain ⟨i,n,rfl⟩:=zc8 A;obtain ⟨j,g,rfl⟩:=zc8 s;have hc:=(d i n).symm.trans<|d j g;have:=hc.map (f:=fun a=>(l.getD a.toNat ⟨0,0⟩).cell) (E':=lg tl l) fun a b hl=>by
      obtain ⟨p,hp,B,C⟩:=hl;rw[← nP (kF tl l) p hp] at B C;obtain ⟨k,rfl,x,A,H⟩:=(ox tl l p.1 a).1<|List.mem_of_head? B;obtain ⟨m,rfl,y,s,N⟩:=(ox tl l p.1 b).1 C;refine .one ⟨x,zg5 A,y,zg5 s,?_,?_,p.1,H,N⟩
      ·simp[zh4,A]
      ·simp[zh4,s]
     simpa [zh4,n,g] using this
    ·intro d;have key:∀ a b,Cn (lg tl l) a b→∀ (i:Nat) (x:am),l[i]?=some x→x.cell=a→∀ (j:Nat) (y:am),l[j]?=some y→y.cell=b→Cn (eP<|fg tl l) (i:Int) (j:Int):=by
      have one:∀ {a b:Int},lg tl l a b→∀ (i:Nat) (x:am),l[i]?=some x→x.cell=a→∃ (j:Nat) (y:am),l[j]?=some y∧y.cell=b∧Cn (eP<|fg tl l) (i:Int) (j:Int):=by
       rintro a b ⟨x',O,y,s,rfl,rfl,r,B,C⟩ i x n E;obtain ⟨i',F,rfl⟩:=zc8 O;obtain ⟨j,g,rfl⟩:=zc8 s;have P:=o n (List.getElem?_eq_getElem F) E;subst P;refine⟨j,l[j],List.getElem?_eq_getElem g,I,?_⟩;have m1:=(ox tl l r i).2 ⟨i,rfl,l[i],List.getElem?_eq_getElem F,B⟩;have m2:=(ox tl l r j).2 ⟨j,rfl,l[j],List.getElem?_eq_getElem g,C⟩;obtain ⟨p,hp,_,Q⟩:=oT (ml:=fg tl l) (k:=r) fun e=>by rw[e] at m1;simp at m1
       rw[← Q] at m1 m2;cases H:p.2 with
       | nil=>rw[H] at m1;simp at m1
       | cons u q =>
        have V:∀ v∈p.2,eP (fg tl l) u v:=fun v W=>⟨p,hp,by rw[H];rfl,W⟩;exact (Cn.one<|V _ m1).symm.trans<|Cn.one<|V _ m2
      intro a b hc;induction hc with
      | refl a =>
       intro i x n E j y g w;have:=o n g<|E.trans w.symm;subst this;exact .refl _
      | step e _ ih =>
       intro i x n E j y g w;have e':lg tl l _ _:=e.elim (fun e=>e) fun ⟨x,A,y,s,X,L,r,B,C⟩=>⟨y,s,x,A,L,X,r,C,B⟩;obtain ⟨k,z,Y,hz,hc⟩:=one e' i x n E;exact hc.trans<|ih k z Y hz j y g w
     intro a D;exact key _ _ (d _ (gM J) _<|gM D) 0 _ (List.getElem?_eq_getElem J) I a _ (List.getElem?_eq_getElem D) I
   rw[← t,← M];constructor
   ·intro h;refine⟨(oE tl l).1 G,(yz tl l).1 hm,?_⟩;refine zh3 fun Z=>?_;rw[zg4 oM] at h;exact absurd h dC
   ·rintro ⟨_,_,h⟩;rw[zg3 oM]
  ·have R:(fg tl l).any (fun p=>decide ((p.2.length:Int)≠2))=true:=by simpa using hm
   rw[zg4 R];exact⟨fun h=>absurd h dC,fun h=>absurd ((yz tl l).2 h.2.1) hm⟩
 ·have S:(fF tl l).any (fun p=>decide (p.2≠0))=true:=by simpa using G
  rw[zg4 S];exact⟨fun h=>absurd h dC,fun h=>absurd ((oE tl l).2 h.1) G⟩
structure Fm (tl:List Cl)(c:Cl):Prop where
 dim:0≤c.dim∧c.dim≤8
 cnt:aO c=false
 found:∀ x∈c.sides,∃ d,ab tl x.cell=some d∧d.dim=c.dim - 1
 asc:c.sides.Pairwise fun a b=>a.cell<b.cell
 sg:∀ x∈c.sides,x.sign=1∨x.sign = -1
 one:c.dim=1→ne c.sides=0
theorem Fm.ok {tl:List Cl}{c:Cl}(h:Fm tl c):cQ tl c=0:=FM h.dim h.cnt h.found h.asc h.sg h.one
theorem GO {l:List am}(c:l.Pairwise fun a b=>a.cell≤b.cell)(hd:∀ i x y,l[i]?=some x→l[i+1]?=some y→x.cell≠y.cell):l.Pairwise fun a b=>a.cell<b.cell:=by
 induction l with
 | nil=>exact List.Pairwise.nil
 | cons a r ih =>
  obtain ⟨d,e⟩:=zk6.1 c;have hr:=ih e fun i x y f g=>hd (i+1) x y (by simpa using f) (by simpa using g);refine zk6.2 ⟨fun b hb=>?_,hr⟩;cases r with
  | nil=>simp at hb
  | cons z q =>
   have hz:a.cell<z.cell:=by
    have:=d z dO;have:=hd 0 a z rfl rfl;omega
   rcases zf4.1 hb with rfl | hb
   ·exact hz
   ·have:=(zk6.1 hr).1 b hb;omega
theorem G6 {tl:List Cl}{c:Cl}(h:cQ tl c=0)(l:c.sides.Pairwise fun a b=>a.cell≤b.cell):Fm tl c:=by
 unfold cQ at h;split at h
 ·cases h
 ·rename_i m;split at h
  ·cases h
  ·rename_i n;split at h
   ·cases h
   ·rename_i o;split at h
    ·cases h
    ·rename_i p;split at h
     ·cases h
     ·rename_i q;have f:∀ i x,c.sides[i]?=some x→cw tl c i x=false:=fun i x g=>by
       have j:=(zf8.1 g).1;have:=zk8.1 ((zk1 _).mp o) i<|List.mem_range.2 j;unfold jn at this;rw[g] at this;simpa using this
      refine⟨?_,by simpa using n,fun x g=>?_,GO l fun i x y g r e=>?_,fun x g=>?_,fun hd=>?_⟩
      ·simp[fY] at m;omega
      ·obtain ⟨i,j,rfl⟩:=zc8 g;have:=f i _<|List.getElem?_eq_getElem j;unfold cw at this;simp only[Bool.or_eq_false_iff,Bool.not_eq_false',decide_eq_false_iff_not,ne_eq,Decidable.not_not] at this;obtain ⟨⟨g1,g2⟩,_⟩:=this;obtain ⟨d,hd⟩:=zi2.1 g1;rw[hd] at g2;exact⟨d,hd,g2⟩
      ·have:=f (i+1) y r;unfold cw at this;rw[show i+1 - 1=i by omega,g] at this;simp[e] at this
      ·have:=zk8.1 ((zk1 _).mp p) x g;simp[bZ] at this;by_cases k:x.sign=1
       ·exact .inl k
       ·exact .inr<|this k
      ·simpa [hd] using q
structure Rt (l:List Cl):Prop where
 few:l.length≤4000
 asc:l.Pairwise fun a b=>a.id<b.id
 pos:∀ x∈l,0<x.id
 form:∀ x∈l,Fm l x
 around:∀ x∈l,x.dim>1→bC l x=0
theorem Rt.canon {l:List Cl}(h:Rt l):aa l=l:=by
 unfold aa;rw[(bI (key:=Cl.id) (h.asc.imp fun h=>by omega)<|aJ.refl l).symm];have:∀ c∈l,co c=c:=fun c hc=>by
  unfold co;rw[(bI (key:=am.cell) ((h.form c hc).asc.imp fun h=>by omega)<|aJ.refl c.sides).symm]
 rw[zc9 this];simp
theorem Rt.tab {l:List Cl}(h:Rt l):an l=l:=by rw[bQ (by rw[h.canon];exact h.asc),h.canon]
theorem Rt.check {l:List Cl}(h:Rt l):aq l=(0,0):=by
 refine ze h.few ?_ ?_ ?_ ?_ <;> rw[h.canon]
 ·exact h.pos
 ·exact h.asc
 ·exact fun x a=>(h.form x a).ok
 ·exact h.around
theorem Rt.find {l:List Cl}(h:Rt l){c:Cl}(hc:c∈l):ab l c.id=some c:=by
 refine nU ?_ hc;rw[List.Nodup,zk7];exact h.asc.imp fun h=>by omega
theorem kU {tl:List Cl}:∀ {l:List Cl},od tl l=none→∀ x∈l,x.dim>1→bC tl x=0
 | [],_,x,a,_=>by simp at a
 | y::r,h,x,a,hd=>by
  unfold od at h;split at h
  ·cases h
  ·rename_i hn
   rcases zf4.1 a with rfl | a
   ·exact zh3 fun h=>hn ⟨hd,h⟩
   ·exact kU h x a hd
theorem uZ {tl:List Cl}:∀ {l:List Cl} {p:Int×Int},od tl l=some p→p.2≠0
 | [],_,h=>by cases h
 | y::r,p,h=>by
  unfold od at h;split at h
  ·rename_i hn;cases h;exact hn.2
  ·exact uZ h
theorem xJ (l:List Cl):∀ c∈aa l,c.sides.Pairwise fun a b=>a.cell≤b.cell:=fun c hc=>by
 obtain ⟨d,_,rfl⟩:=zf5.1 hc;exact dq d.sides
theorem iS {l:List Cl}(h:(aq l).2=0):Rt (aa l):=by
 have a:=lJ h;obtain ⟨b,f,g⟩:=dF a;have c:=bQ b;have i:l.length≤4000:=CX h;refine⟨by rw[aw];exact i,b,f,fun x d=>G6 (by rw[← c];exact g x d)<|xJ l x d,?_⟩;have e:od (an l) (aa l)=none:=by
  unfold aq at h;rw[zg3 oM,a] at h;cases hc:od (an l) (aa l) with
  | none=>rfl
  | some p =>
   rw[hc] at h;exact absurd h<|uZ hc
 rw[c] at e;exact kU e
theorem oI {l m:List Int}(h:l.Perm m):l.sum=m.sum:=by
 induction h with
 | nil=>rfl
 | cons x _ ih=>simp[ih]
 | swap x y l=>simp;omega
 | trans _ _ ih1 ih2=>exact ih1.trans ih2
theorem Cp {l m:List Nat}(h:l.Perm m):l.sum=m.sum:=by
 induction h with
 | nil=>rfl
 | cons x _ ih=>simp[ih]
 | swap x y l=>simp;omega
 | trans _ _ ih1 ih2=>exact ih1.trans ih2
theorem fK {α:Type}{key:α→Int}(l:List α):(sortBy key l).Perm l:=by
 have a:∀ (x:α) (l:List α),(ins key x l).Perm (x::l):=by
  intro x l;induction l with
  | nil=>exact .refl _
  | cons y r ih =>
   unfold ins;split
   ·exact .refl _
   ·exact (ih.cons y).trans<|.swap x y r
 induction l with
 | nil=>exact .refl _
 | cons x r ih=>exact (a x _).trans<|ih.cons x
def inner (tl:List Cl)(x:am)(r:Int):Int:=((ay tl x).map fun q=>if q.cell=r then x.sign * q.sign else 0).sum
theorem kA (tl:List Cl)(l:List am)(r:Int):xU tl l r=(l.map fun x=>inner tl x r).sum:=by
 unfold xU;induction l with
 | nil=>rfl
 | cons x q ih=>simp only[zh8,List.sum_append,zg7,List.sum_cons,ih];rfl
theorem B4 {tl:List Cl}{l m:List am}(h:l.Perm m)(r:Int):xU tl l r=xU tl m r:=by
 rw[kA,kA];exact oI<|h.map _
theorem CW {tl:List Cl}{l m:List am}(h:l.Perm m)(r:Int):cntR tl l r=cntR tl m r:=Cp (h.map _)
def sgn (b:Bool):Int:=if b then -1 else 1
theorem uz (b:Bool){a:Int}(h:a=1∨a = -1):vz b a=sgn b * a∧(vz b a=1∨vz b a = -1):=by
 rcases h with rfl | rfl <;> cases b <;> exact⟨by decide,by decide⟩
theorem l8 {α:Type}{l:List α}{f g:α→Int}{K:Int}(h:∀ x∈l,f x=K * g x):(l.map f).sum=K * (l.map g).sum:=by
 induction l with
 | nil=>simp
 | cons x r ih =>
  simp only[zg7,List.sum_cons];rw[h x dO,ih fun y a=>h y (by simp[a]),Int.mul_add]
structure Nm (l:List Cl)(k:Int):Prop where
 inj:∀ a∈l,∀ b∈l,eU a.id k=eU b.id k→a=b
 pos:∀ a∈l,0<eU a.id k
section
variable {l:List Cl}(h:Rt l){k:Int}(hn:Nm l k)(t:Int)
include h hn
omit hn in
theorem gP (c:Cl)(hc:c∈l){x:am}(b:x∈c.sides):∃ d∈l,d.id=x.cell∧ab l x.cell=some d∧d.dim=c.dim - 1:=by
 obtain ⟨d,hd,a⟩:=(h.form c hc).found x b;obtain ⟨e,f⟩:=aH hd;exact⟨d,e,f,hd,a⟩
theorem Fz:((l.map<|aM k t).map Cl.id).Nodup:=by
 rw[zi8,List.Nodup,zk7];refine List.Pairwise.imp_of_mem ?_ h.asc;intro a b c hb d e;have:=hn.inj a c b hb e;subst this;omega
theorem uy:((aa<|l.map<|aM k t).map Cl.id).Nodup:=by
 have a:=Fz h hn t;have b:((aa<|l.map<|aM k t).map Cl.id).Perm ((l.map<|aM k t).map Cl.id):=by
  rw[sf];exact (fK _).map _
 exact b.symm.nodup a
omit h hn in
theorem Fy {c:Cl}(hc:c∈l):co (aM k t c)∈aa (l.map<|aM k t) :=
 zf5.2 ⟨_,(fH _ _).2<|zf5.2 ⟨c,hc,rfl⟩,rfl⟩
omit h hn in
theorem su {b:Cl}(hc:b∈aa (l.map<|aM k t)):∃ c∈l,b=co (aM k t c):=by
 obtain ⟨d,hd,rfl⟩:=zf5.1 hc;obtain ⟨c,a,rfl⟩:=zf5.1<|(fH _ _).1 hd;exact⟨c,a,I⟩
theorem nM {c:Cl}(hc:c∈l):ab (aa<|l.map<|aM k t) (eU c.id k)=some (co<|aM k t c) :=
 nU (x:=co<|aM k t c) (uy h hn t) (Fy t hc)
omit h hn in
theorem fj (c:Cl):(co<|aM k t c).sides.Perm (c.sides.map<|bl k t c):=fK _
omit hn in
theorem nK {c:Cl}(hc:c∈l){x:am}(d:x∈c.sides):(bl k t c x).sign=sgn (jm t c x.cell) * (sgn (jz t c) * x.sign)∧((bl k t c x).sign=1∨(bl k t c x).sign = -1):=by
 have a:=uz (jz t c)<|(h.form c hc).sg x d;have b:=uz (jm t c x.cell) a.2;exact⟨by rw[← a.1];exact b.1,b.2⟩
theorem yo {c:Cl}(hc:c∈l):Fm (aa<|l.map<|aM k t) (co<|aM k t c):=by
 have r:=h.form c hc;have n:(co<|aM k t c).sides.length=c.sides.length:=by rw[(fj t c).length_eq,ze9]
 have f:∀ i,i∈(co<|aM k t c).sides↔∃ x∈c.sides,bl k t c x=i:=fun i=>by rw[(fj t c).mem_iff,zf5]
 refine⟨r.dim,?_,fun i j=>?_,?_,fun i j=>?_,fun hd=>?_⟩
 ·have:=r.cnt;unfold aO at this ⊢;rw[n];exact this
 ·obtain ⟨x,o,rfl⟩:=(f i).1 j;obtain ⟨d,hd,m,_,u⟩:=gP h c hc o;have:=nM h hn t hd;rw[m] at this;exact⟨_,this,u⟩
 ·have s:(co<|aM k t c).sides.Pairwise fun a b=>a.cell≤b.cell:=dq _;have p:((co<|aM k t c).sides.map am.cell).Nodup:=by
   refine ((fj t c).map am.cell).symm.nodup ?_;rw[zi8,List.Nodup,zk7];refine List.Pairwise.imp_of_mem ?_ r.asc;intro a b y hb z e;obtain ⟨d,hd,m,_⟩:=gP h c hc y;obtain ⟨A,v,q,_⟩:=gP h c hc hb;have e:eU a.cell k=eU b.cell k:=e;rw[← m,← q] at e;have:=hn.inj d hd A v e;subst this;omega
  rw[List.Nodup,zk7] at p;exact (s.and p).imp fun ⟨w,B⟩=>by omega
 ·obtain ⟨x,o,rfl⟩:=(f i).1 j;exact (nK h t hc o).2
 ·have hd:c.dim=1:=hd;have s:=r.one hd;unfold ne at s ⊢;rw[oI<|(fj t c).map am.sign,zi8];rw[l8 (g:=am.sign) (K:=sgn<|jz t c) fun x o=>?_,s,Int.mul_zero];have p:=(nK (k:=k) h t hc o).1;have w:jm t c x.cell=false:=by unfold jm;simp[hd]
  rw[w] at p;show (bl k t c x).sign=_;rw[p];unfold sgn;simp
theorem s6 {c:Cl}(hc:c∈l){x:am}(m:x∈c.sides){e:Cl}(i:e∈l):kM (aa<|l.map<|aM k t) (bl k t c x) (eU e.id k)=kM l x e.id:=by
 obtain ⟨d,hd,b,f,_⟩:=gP h c hc m;unfold kM ay;rw[f,show (bl k t c x).cell=eU d.id k by rw[b];rfl,nM h hn t hd];show ((co<|aM k t d).sides.filter _).length=_;rw[((fj t d).filter _).length_eq,List.filter_map,ze9];congr 1;refine List.filter_congr fun q hq=>?_;obtain ⟨u,j,g,_⟩:=gP h d hd hq;show decide (eU q.cell k=eU e.id k)=decide (q.cell=e.id);rw[decide_eq_decide,← g];by_cases a:u=e
 ·subst a;simp
 ·have n:¬ eU u.id k=eU e.id k:=fun e'=>a<|hn.inj u j e i e';have o:¬ u.id=e.id:=fun e'=>a (by have a1:=h.find j;have a2:=h.find i;rw[e',a2] at a1;injection a1 with a1;exact a1.symm);simp[n,o]
theorem pI {c:Cl}(hc:c∈l){x:am}(g:x∈c.sides){r:Int}(hr:∀ e∈l,eU e.id k≠r):kM (aa<|l.map<|aM k t) (bl k t c x) r=0:=by
 obtain ⟨d,hd,a,i,_⟩:=gP h c hc g;unfold kM ay;rw[show (bl k t c x).cell=eU d.id k by rw[a];rfl,nM h hn t hd];show ((co<|aM k t d).sides.filter _).length=_;rw[((fj t d).filter _).length_eq,List.length_eq_zero_iff,List.filter_eq_nil_iff];intro q' b;obtain ⟨q,hq,rfl⟩:=zf5.1 b;obtain ⟨u,j,f,_⟩:=gP h d hd hq;have:=hr u j;rw[f] at this;show ¬ decide (eU q.cell k=r)=true;simpa using this
theorem Cj {c:Cl}(hc:c∈l)(g:c.dim>1){x:am}(r:x∈c.sides){e:Cl}(s:e∈l) :
  inner (aa<|l.map<|aM k t) (bl k t c x) (eU e.id k)=sgn (jz t c) * sgn ((decide (t>1)&&decide (c.dim - 1>1))&&decide (e.id.tmod t=1)) * inner l x e.id:=by
 obtain ⟨d,hd,f,i,j⟩:=gP h c hc r;have m:=(nK (k:=k) h t hc r).1;unfold inner ay;rw[i,show (bl k t c x).cell=eU d.id k by rw[f];rfl,nM h hn t hd];show ((co<|aM k t d).sides.map _).sum=_;rw[oI<|(fj t d).map _,zi8];show _=_ * (d.sides.map _).sum;refine l8 fun q hq=>?_;obtain ⟨u,v,a,_⟩:=gP h d hd hq;have n:=(nK (k:=k) h t hd hq).1;simp only[Function.comp_def];show (if eU q.cell k=eU e.id k then (bl k t c x).sign * (bl k t d q).sign else 0)=_;by_cases b:u=e
 ·subst b;rw[a,zg4 rfl,zg4 rfl,m,n];have o:jm t c x.cell=jz t d:=by
   unfold jm jz;rw[f];simp[g]
  have p:jm t d q.cell=((decide (t>1)&&decide (c.dim - 1>1))&&decide (q.cell.tmod t=1)):=by
   unfold jm;rw[j]
  rw[o,p];generalize jz t d=b1;generalize jz t c=b2;generalize ((decide (t>1)&&decide (c.dim - 1>1))&&decide (q.cell.tmod t=1))=b3;cases b1 <;> cases b2 <;> cases b3 <;> simp[sgn,Int.neg_mul,Int.mul_neg]
 ·have o:¬ eU q.cell k=eU e.id k:=fun e'=>b<|hn.inj u v e s (by rw[a];exact e');have p:¬ q.cell=e.id:=fun e'=>b (by have a1:=h.find v;have a2:=h.find s;rw[a,e',a2] at a1;injection a1 with a1;exact a1.symm);rw[zg3 o,zg3 p,Int.mul_zero]
omit h hn in
theorem D7 {tl:List Cl}{x:am}{r:Int}(c:kM tl x r=0):inner tl x r=0:=by
 unfold kM at c;rw[List.length_eq_zero_iff,List.filter_eq_nil_iff] at c;unfold inner;have:((ay tl x).map fun q=>if q.cell=r then x.sign * q.sign else 0)=(ay tl x).map fun _=>(0:Int):=zc9 fun q hq=>zg3 (by simpa using c q hq);rw[this];generalize ay tl x=m;induction m with
 | nil=>rfl
 | cons a b ih=>simpa using ih
theorem zX {c:Cl}(hc:c∈l)(o:c.dim>1):bC (aa<|l.map<|aM k t) (co<|aM k t c)=0:=by
 have J:=h.form c hc;have z:=yo h hn t hc;have p:0<c.sides.length:=by
  have:=J.cnt;simp[aO] at this;have:=this.2 o;omega
 have s:(co<|aM k t c).sides.length=c.sides.length:=by rw[(fj t c).length_eq,ze9]
 have nd:∀ {c:Cl},(c.sides.Pairwise fun a b=>a.cell<b.cell)→(c.sides.map am.cell).Nodup:=fun h=>by
  rw[List.Nodup,zk7];exact h.imp fun h=>by omega
 obtain ⟨N,a2,a3⟩:=(kI p<|nd J.asc).1<|h.around c hc o;refine (kI (by rw[s];exact p)<|nd z.asc).2 ⟨fun r=>?_,fun r=>?_,fun w A O B=>?_⟩
 ·rw[B4<|fj t c,kA,zi8];simp only[Function.comp_def];by_cases hr:∃ e∈l,eU e.id k=r
  ·obtain ⟨e,d,rfl⟩:=hr;have n:=N e.id;rw[kA] at n;rw[l8 (g:=fun x=>inner l x e.id) (K:=sgn (jz t c) * sgn ((decide (t>1)&&decide (c.dim - 1>1))&&decide (e.id.tmod t=1))) fun x i=>Cj h hn t hc o i d,n,Int.mul_zero]
  ·have hr:∀ e∈l,eU e.id k≠r:=fun e d e'=>hr ⟨e,d,e'⟩;rw[l8 (g:=fun _=>(0:Int)) (K:=0) fun x i=>by
    rw[D7 (pI h hn t hc i hr)];rfl,Int.zero_mul]
 ·rw[CW<|fj t c];unfold cntR;rw[zi8];simp only[Function.comp_def];by_cases hr:∃ e∈l,eU e.id k=r
  ·obtain ⟨e,d,rfl⟩:=hr;have n:=a2 e.id;unfold cntR at n;rw[zc9 (g:=fun x=>kM l x e.id) fun x i=>s6 h hn t hc i d];exact n
  ·have hr:∀ e∈l,eU e.id k≠r:=fun e d e'=>hr ⟨e,d,e'⟩;left;rw[zc9 (g:=fun _=>0) fun x i=>pI h hn t hc i hr];generalize c.sides=m;induction m with
   | nil=>rfl
   | cons a b ih=>simpa using ih
 ·have j:∀ w,w∈(co<|aM k t c).sides↔w∈c.sides.map (bl k t c):=fun w=>(fj t c).mem_iff;obtain ⟨x,i,rfl⟩:=zf5.1<|(j w).1 A;obtain ⟨y,P,rfl⟩:=zf5.1<|(j O).1 B;have hm:∀ x∈c.sides,bl k t c x∈(co<|aM k t c).sides:=fun x i=>(j _).2<|zf5.2 ⟨x,i,rfl⟩;refine (a3 x i y P).map (f:=fun a=>eU a k) fun a b=>?_;rintro ⟨u,C,v,L,rfl,rfl,r,n,Q⟩;obtain ⟨R,D,M,E,_⟩:=gP h c hc C;have hr:∃ e∈l,e.id=r:=by
   unfold kM ay at n;rw[E] at n;obtain ⟨q,hq⟩:=List.exists_mem_of_length_pos n;obtain ⟨F,G⟩:=zh7.1 hq;obtain ⟨e,d,H,_⟩:=gP h R D (x:=q) F;exact⟨e,d,by rw[H];simpa using G⟩
  obtain ⟨e,d,rfl⟩:=hr;exact .one ⟨_,hm u C,_,hm v L,I,I,eU e.id k,by rw[s6 h hn t hc C d];exact n,by rw[s6 h hn t hc L d];exact Q⟩
theorem Ci:Rt (aa<|l.map<|aM k t):=by
 refine⟨by rw[aw,ze9];exact h.few,?_,fun b a=>?_,fun b a=>?_,fun b a hd=>?_⟩
 ·have d:=jy<|l.map<|aM k t;have e:=uy h hn t;rw[zk7] at d;rw[List.Nodup,zk7] at e;exact (d.and e).imp fun ⟨f,g⟩=>by omega
 ·obtain ⟨c,hc,rfl⟩:=su t a;exact hn.pos c hc
 ·obtain ⟨c,hc,rfl⟩:=su t a;exact yo h hn t hc
 ·obtain ⟨c,hc,rfl⟩:=su t a;exact zX h hn t hc hd
end
def Bd (l:List Cl):Prop:=∀ c∈l,c.id≤l.length
theorem Bp (ls:List (List Int)):Rt (dB ls)∧Bd (dB ls):=by
 have a:=iS (l:=dB ls) (by rw[wS]);have b:aa (dB ls)=dB ls:=by
  unfold dB;cases aX [] ls with
  | none=>rfl
  | some all=>exact fU _
 rw[b] at a;refine⟨a,?_⟩;unfold dB;cases h:aX [] ls with
 | none=>intro c hc;simp at hc
 | some all =>
  obtain ⟨hg,_⟩:=iE ls [] h iI.nil dO;dsimp only;rw[hg.cells];intro c hc;obtain ⟨s,d,rfl⟩:=zf5.1 hc;have:=(zf8.1<|hg.get_lb d).1;show ixC all s≤_;unfold ixC;rw[ze9];omega
theorem EN {l:List Int}{x:Int}(h:x∈l):lbI l x<l.length:=by
 unfold lbI;induction l with
 | nil=>simp at h
 | cons a r ih =>
  rw[zj1]
  rcases zf4.1 h with rfl | h
  ·have:=zc6 (fun y=>decide (y<x)) r;simp;omega
  ·have:=ih h;split
   ·simp only[zf2];omega
   ·simp only[zf2];omega
theorem wn (a b:List Cl):Rt (cX a b)∧Bd (cX a b)∧(cX a b).length≤a.length * b.length:=by
 rw[DP];unfold E7;split
 ·exact⟨⟨by simp,List.Pairwise.nil,by simp,by simp,by simp⟩,fun c hc=>by simp at hc,by simp⟩
 ·rename_i f;split
  ·rename_i g;have e:(aa<|dV a b).length=a.length * b.length:=by
    rw[aw];unfold dV;rw[jq,aw,aw]
   refine⟨iS g,fun c hc=>?_,by rw[e];exact Nat.le_refl _⟩;rw[e];obtain ⟨i,j,_⟩:=Aa (by simpa using f);have ta:=bQ (dF<|lJ i).1;have tb:=bQ (dF<|lJ j).1;obtain ⟨d,hd,rfl⟩:=zf5.1 hc;have hd:=(fH _ _).1 hd;unfold dV at hd;rw[ta,tb] at hd;obtain ⟨x,k,hd⟩:=List.mem_flatMap.1 hd;obtain ⟨y,l,rfl⟩:=zf5.1 hd;have l1:=EN (zf5.2 ⟨x,k,rfl⟩:x.id∈(aa a).map Cl.id);have l2:=EN (zf5.2 ⟨y,l,rfl⟩:y.id∈(aa b).map Cl.id);rw[ze9,aw] at l1 l2;show aY (aa a) (aa b) x.id y.id≤_;unfold aY;rw[aw];have m:(lbI ((aa a).map Cl.id) x.id+1) * b.length≤a.length * b.length:=Nat.mul_le_mul_right _ l1;rw[Nat.succ_mul] at m;have n:((lbI ((aa a).map Cl.id) x.id * b.length:Nat):Int)=(lbI ((aa a).map Cl.id) x.id:Int) * (b.length:Int):=Int.natCast_mul _ _;rw[← n];omega
  ·exact⟨⟨by simp,List.Pairwise.nil,by simp,by simp,by simp⟩,fun c hc=>by simp at hc,by simp⟩
theorem Ab:∀ n,n<7→2≤n→(aq<|xe n).2=0∧∀ c∈xe n,c.id≤90:=by decide +kernel
theorem lf:∀ (ls acc:List (List Int)) {all:List (List Int)},aX acc ls=some all→(∀ x∈ls,x.length≤2)→all.length≤acc.length+3 * ls.length
 | [],acc,all,h,_=>by cases h;simp
 | s::r,acc,all,h,hl=>by
  have b:=hl s dO;have c:(dE s).length≤s.length:=by
   unfold dE;exact zl1 (kZ _ _) (by rw[gt];exact Nat.le_refl _)
  simp only[zf2];unfold aX at h;split at h
  ·have:=lf r acc h fun x a=>hl x (by simp[a]);omega
  ·split at h
   ·cases h
   ·have d:=lf r _ h fun x a=>hl x (by simp[a]);have e:(eS acc<|dE s).length≤acc.length+3:=by
     unfold eS;refine zl1 (kZ _ _) ?_;rw[(i6 _).length_eq,ze8];have:2 ^ (dE s).length≤2 ^ 2:=Nat.pow_le_pow_right dC oM;simp[bM];omega
    omega
theorem sd:(dB [[0,1],[1,2],[0,2]]).length≤9:=by
 unfold dB;cases h:aX [] [[0,1],[1,2],[0,2]] with
 | none=>simp
 | some all =>
  have:=lf _ _ h dC;dsimp only;rw[aw,bJ];simpa using this
theorem wo (m:Int)(ls:List (List Int))(y:Int):Rt (qJ<|oD m ls y)∧∀ c∈qJ (oD m ls y),c.id≤90:=by
 have key:∀ l:List Cl,Rt l→(l.length≤45→∀ c∈l,c.id≤90)→Rt (qJ l)∧∀ c∈qJ l,c.id≤90:=by
  intro l k n;unfold qJ;split
  ·have d:=wn (dB [[0,1],[1,2],[0,2]])<|dB [[0,1],[1,2],[0,2]];refine⟨d.1,fun c hc=>?_⟩;have o:=d.2.1 c hc;have i:=d.2.2;have e:qB.length≤9 * 9:=zl1 i<|Nat.mul_le_mul sd sd;have f:c.id≤qB.length:=o;omega
  ·exact⟨k,n oM⟩
 have g:∀ ls,Rt (qJ<|dB ls)∧∀ c∈qJ (dB ls),c.id≤90:=fun ls=>key _ (Bp ls).1 fun hl c hc=>by have:=(Bp ls).2 c hc;omega
 have j:∀ a b,Rt (qJ<|cX a b)∧∀ c∈qJ (cX a b),c.id≤90:=fun a b=>key _ (wn a b).1 fun hl c hc=>by have:=(wn a b).2.1 c hc;omega
 have i:=dH y 5 dC dC;unfold oD
 repeat' split
 ·exact g _
 ·exact j _ _
 ·have e:=Ab (2+bV y 5).toNat oM oM;have f:=iS e.1;rw[show aa (xe (2+bV y 5).toNat)=xe (2+bV y 5).toNat from fU _] at f;exact key _ f fun _=>e.2
 ·exact j _ _
 ·exact g _
 ·exact g _
theorem FG:∀ k∈[1,3,5],∀ a,a<91→∀ b,b<91→eU (a:Nat) k=eU (b:Nat) k→a=b:=by decide +kernel
theorem FF:∀ k∈[1,3,5],∀ a,a<91→0<a→0<eU (a:Nat) k:=by decide +kernel
theorem rC (i:Int)(ls:List (List Int))(y:Int):Rt (jS i ls y):=by
 obtain ⟨c,f⟩:=wo (bV i 8) ls y;have j:AW y∈[(1:Int),3,5]:=by
  have:=dH (IntKind.i64.wrap<|y.tdiv 7) 3 dC dC;unfold AW;generalize bV (IntKind.i64.wrap<|y.tdiv 7) 3=q at *
  rcases (by omega:q=0∨q=1∨q=2) with rfl | rfl | rfl <;> decide
 refine Ci c ⟨fun a d b hb e=>?_,fun a d=>?_⟩ _
 ·have p1:=c.pos a d;have p2:=c.pos b hb;have q1:=f a d;have q2:=f b hb;have e1:((a.id.toNat:Nat):Int)=a.id:=Int.toNat_of_nonneg oM;have e2:((b.id.toNat:Nat):Int)=b.id:=Int.toNat_of_nonneg oM;have:=FG _ j a.id.toNat oM b.id.toNat oM (by rw[e1,e2];exact e);have g:a.id=b.id:=oM;have f1:=c.find d;have f2:=c.find hb;rw[g,f2] at f1;injection f1 with f1
  exact f1.symm
 ·have p1:=c.pos a d;have q1:=f a d;have e1:((a.id.toNat:Nat):Int)=a.id:=Int.toNat_of_nonneg oM;have:=FF _ j a.id.toNat oM oM;rw[e1] at this;exact this
theorem Gy:∀ k∈[1,3,5],∀ a,a<91→eU (a:Nat) k≤300:=by decide +kernel
theorem yN (b:Int)(ls:List (List Int))(y:Int):∀ c∈jS b ls y,a8 c.id:=by
 intro c hc;have e:=(rC b ls y).pos c hc;obtain ⟨f,g⟩:=wo (bV b 8) ls y;have i:AW y∈[(1:Int),3,5]:=by
  have:=dH (IntKind.i64.wrap<|y.tdiv 7) 3 dC dC;unfold AW;generalize bV (IntKind.i64.wrap<|y.tdiv 7) 3=q at *
  rcases (by omega:q=0∨q=1∨q=2) with rfl | rfl | rfl <;> decide
 obtain ⟨a,d,rfl⟩:=su (DO y) hc;have p1:=f.pos a d;have q1:=g a d;have e1:((a.id.toNat:Nat):Int)=a.id:=Int.toNat_of_nonneg oM;have:=Gy _ i a.id.toNat oM;rw[e1] at this;have j:(co<|aM (AW y) (DO y) a).id=eU a.id (AW y):=rfl;rw[j] at e ⊢;unfold a8;omega
theorem D3 (a:Int)(ls:List (List Int))(y:Int):(jS a ls y).length≤90:=by
 obtain ⟨d,e⟩:=wo (bV a 8) ls y;have hl:(jS a ls y).length=(qJ<|oD (bV a 8) ls y).length:=by
  unfold jS Gj;rw[aw,ze9]
 rw[hl];generalize qJ (oD (bV a 8) ls y)=B at *;have b:(B.map Cl.id).Nodup:=by
  rw[List.nodup_iff_pairwise_ne,zk7];exact d.asc.imp fun h=>by omega
 have:=s8 b (m:=(List.range 90).map fun k=>((k:Nat):Int)+1) (fun x f=>by
  obtain ⟨c,hc,rfl⟩:=zf5.1 f;have p1:=d.pos c hc;have p2:=e c hc;exact zf5.2 ⟨(c.id - 1).toNat,List.mem_range.2 oM,oM⟩)
 simpa using this
def part (l:List Cl)(p:Int→Bool):List Cl:=l.filter fun c=>p c.id
def sJ (l:List Cl)(p:Int→Bool):Prop:=∀ c∈l,p c.id=true→∀ x∈c.sides,p x.cell=true
theorem Rt.same {l:List Cl}(h:Rt l){a b:Cl}(c:a∈l)(hb:b∈l)(e:a.id=b.id):a=b:=by
 have f1:=h.find c;have f2:=h.find hb;rw[e,f2] at f1;injection f1 with f1
 exact f1.symm
section
variable {l:List Cl}(h:Rt l){p q:Int→Bool}(hp:sJ l p)(hq:sJ l q)
include h hp hq
end
end Go.Proofs.YtdepcjnaieflmaaGreatDoor
