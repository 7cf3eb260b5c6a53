/-
  The law EditsMaps: chains along the edits' maps commute with the boundary, and the maps of all edits are those of the reference.
-/
import Derived.Test.YtbbppeihhkhkcaaGreatDoorMp14
import Derived.Test.YtbbppeihhkhkcaaGreatDoorMp15
import Derived.Test.YtbbppeihhkhkcaaGreatDoorMp08
import Derived.Test.YtbbppeihhkhkcaaGreatDoorMp09
import Derived.Test.YtbbppeihhkhkcaaGreatDoorTie
import Derived.Test.YtbbppeihhkhkcaaGreatDoorCards
import Derived.JoinedOf
import Derived.LaidMore
import Derived.Lay
import Derived.SevenTiedAt
import Derived.Stop.Joined
set_option linter.unusedSimpArgs false
set_option linter.unusedVariables false
namespace Go.Proofs.YtbbppeihhkhkcaaGreatDoor
open _root_.Go.Proofs.Tryz _root_.Go.Proofs.YtbbppeihhkhkcaaGreatDoor.Tryz
open Go Go.Sy Go.Pl Go.Proofs
set_option maxRecDepth 100000
set_option maxHeartbeats 8000000
theorem Ep {l:List Cl}{e:Ed}(h:(dB l e).1=0)(hl:∀ c∈l,bw c.id)(h1:e.kind=1→bw e.cell)(h3:e.kind=3→bw e.new∧bw e.other):∀ c∈(dB l e).2,bw c.id:=by
 obtain ⟨hD,hc,hk,h4⟩:=jj h;have hA:=iL hc;have hAi:∀ c∈aa l,bw c.id:=fun c hc=>by
  obtain ⟨d,hd,e⟩:=oG hc;rw[← e];exact hl d hd
 rw[h4];intro c hcC;obtain ⟨d,hd,rfl⟩:=oG hcC;show bw d.id;have hkk:=nz hk;unfold m9 at hd
 rcases hkk with k | k | k | k | k
 ·rw[zg1 k] at hd
  rcases zf3.1 hd with hd | hd
  ·exact hAi d hd
  ·simp at hd; rw[hd]; exact h1 k
 ·rw[zf9 oM,zg1 k] at hd;exact hAi d (fG.1 hd).1
 ·rw[zf9 oM,zf9 oM,zg1 k] at hd;unfold jN at hk;rw[zf9 oM,zf9 oM,zg1 k] at hk;obtain ⟨c0,_,_,_,_,hout⟩:=lx hA hk;rw[hout] at hd;obtain ⟨n1,n2⟩:=h3 k
  rcases zf3.1 hd with hd | hd
  ·simp at hd
   rcases hd with rfl | rfl
   ·exact n1
   ·exact n2
  ·obtain ⟨x,hx,rfl⟩:=zf2.1 hd;rw[AK];exact hAi x hx
 ·rw[zf9 oM,zf9 oM,zf9 oM,zg1 k] at hd;unfold dn at hd;obtain ⟨x,hx,rfl⟩:=zf2.1 hd;exact hAi x (fG.1 hx).1
 ·rw[zf9 oM,zf9 oM,zf9 oM,zf9 oM] at hd;exact hAi d (fG.1 hd).1
theorem D4 {l:List Cl}{e:Ed}(h:(dB l e).1=0):(th l e).length=(kV l e).length:=by
 rw[EN h,ze6,aB]
theorem rj (E:World)(g:PH)(s:Own)(v:Value)(kd y:Int)(ls:List (List Int))(av:Value)(acts:List Ac)(hv:cX g v ls)(ha:SlA qN g av acts)(hb:∀ a∈acts,A64 a)(hE:E.drawn=0) :
  Ctr Tryz.prog E 3 #[.agg #[vi kd,v,vi y],av] g s (fun r g' s'=>r=vb true∧s=s'∧Le g g'):=by
 obtain ⟨p,n,c,rfl⟩:∃ p n c,v = .slice p n c:=by
  obtain ⟨rs0,hrs0,_⟩:=hv;obtain ⟨p,c,rfl⟩:=za4 hrs0;exact⟨_,_,_,I⟩
 obtain ⟨pa,ca,rfl⟩:=za4 ha;have hmf:=zY kd ls y;have hmi:=DQ kd ls y;have hmade:=fun g s v hv=>Cq E g s v kd y ls hv;generalize xg kd ls y=M at *;refine zb2 (args:=[.agg #[vi kd,.slice p n c,vi y],.slice pa acts.length ca]) func3 I ntmps3 (bE I) ?_;refine rZ (bW (bO I) fun b2=>?_);refine aT I (rZ (lW (cL call10 I (tB E g _)) ?_));rintro _ g1 _ ⟨rfl,rfl,hle1⟩;have hv1:=hv.mono hle1;refine aT I (rZ (lK (qV 0 isAgg24 sizeOf24 I I I) (lW (cL call11 I (hmade g1 _ _ hv1)) ?_)));rintro _ g2 _ ⟨rfl,hle2,xm,rfl,hxm⟩;obtain ⟨qm,dm,rfl⟩:=hxm.form;have hle12:=hle1.trans hle2;have ha2:=za5 ha hle12;refine bW (aL zl5) fun b6=>?_;refine oZ (sK 0 aC I I I I I sB) ?_;refine tZ (sQ (rZ (aT I (bK ?_))));refine oP (ι:=Nat×PH) (fun i=>[(1,.slice pa acts.length ca),(5,vb true),(6,pp b6 0),(7,vi i.1)]) (fun i=>i.2) (fun _=>pt b6 (.cells #[.slice qm M.length dm] 29 (0,0))::pt b2 (.cells #[vi kd,.slice p n c,vi y] 24 (0,0))::s) (fun i=>i.1≤acts.length∧i.1≤10∧Le g2 i.2) (fun i=>acts.length - i.1) (0,g2) sB I I ⟨zf6 _,zf6 _,zb9 _⟩ ?_;rintro ⟨k,gk⟩ ⟨hk,hk10,hlek⟩;dsimp only at hk hk10 hlek ⊢;refine sQ ?_;refine SC.cutB 25 (decide (k<acts.length)&&decide (k<10)) ?_ ?_
 ·refine rG (lM I (lM I (lU (eN underlying25 I) (yL I (lM I ?_)))));refine sP ?_ ?_
  ·intro h22;refine yC I (lY I I I (lS I I) (yP I (nL ?_)));exact zb1 (by (simp_all[bh]; omega)) mI
  ·intro h22;refine yA I (yA I (yF I (nL ?_)));exact zb1 (by (simp_all[bh]; omega)) mI
 refine iQ I (fun hlt=>?_) (fun hlt=>?_)
 ·simp only[zj3,zj6] at hlt;obtain ⟨hka,hk9⟩:=hlt;have hak:=za5 ha2 hlek;have hba:=za6 hak oM;have hgx:acts[((k:Nat):Int).toNat]?=some acts[k]:=gE hka;have hbx:=hb _ (gM hka);generalize acts[k]=x at *;obtain ⟨k0,k1,k2,k3⟩:=x;obtain ⟨-,w1,w2,w3⟩:=hbx;dsimp only at w1 w2 w3;have hxk:=hxm.mono hlek;refine kP (tN (sQ (bK ?_)));refine SC.cut (ι:=Nat×Nat×PH×Ed×Sv×Sr) (fun i=>[(1,.slice pa acts.length ca),(5,vb true),(6,pp b6 0),(7,vi k),(8,pp i.1 0),(9,pp i.2.1 0),(10,vi (dB M i.2.2.2.1).1)]) (fun i=>i.2.2.1) (fun i=>pt i.2.1 (.cells #[.slice i.2.2.2.2.2.sv.p i.2.2.2.2.2.sv.n i.2.2.2.2.2.sv.c,vb i.2.2.2.2.2.bk] 35 (0,0))::pt i.1 (.cells #[.slice i.2.2.2.2.1.p i.2.2.2.2.1.n i.2.2.2.2.1.c] 29 (0,0))::pt b6 (.cells #[.slice qm M.length dm] 29 (0,0))::pt b2 (.cells #[vi kd,.slice p n c,vi y] 24 (0,0))::s)
   (fun i=>Le gk i.2.2.1∧ar i.2.2.1 (.slice i.2.2.2.2.1.p i.2.2.2.2.1.n i.2.2.2.2.1.c) (dB M i.2.2.2.1).2∧StK i.2.2.1 (imO M i.2.2.2.1) i.2.2.2.2.2∧((i.2.2.2.1.kind=1→bw i.2.2.2.1.cell)∧(i.2.2.2.1.kind=3→bw i.2.2.2.1.new∧bw i.2.2.2.1.other))) ?_ ?_
  ·refine SC.drawX [14,15] ze3 kR ?_;refine SX.q (i:=0) I kR (qV 0 ba aC I I I) dC (SX.u (i:=1) I kR (mV I) dC (SX.u (i:=2) I kR (mV I) dC (SX.u (i:=3) I kR (iA underlying25 sizeOf44 I I hba oM sL) dC (SX.q (i:=4) I kR (eA isAgg44 sizeOf44 I (za7 hak) hgx) dC (SX.q (i:=5) I kR (qV 0 ba aC I I I) dC ?_)))))
   repeat' (first
    | (refine SB.o (i:=6) I (cL call13 I (jK E gk _ _ M k0 k1 k2 k3 hxk hmf)) dC (.inr iR) ?_; rintro ev g3 _ ⟨rfl,hle3,e,he,hse1,hse2,-,h64⟩; have h64:=h64 hmi w1 w2 w3; obtain ⟨sv,pv,rfl,hsv,hpv⟩:=he)
    | (refine SB.o (i:=6) I (cL call13 I (jK E gk _ _ M k0 k1 k2 k3 hxk hmf)) dC (.inr iR) ?_; rintro ev g3 _ ⟨rfl,hle3,e,he,hse1,hse2,-,h64⟩; have h64:=h64 hmi w1 w2 w3; obtain ⟨sv,pv,rfl,hsv,hpv⟩:=he)
    | (refine SB.o (i:=6) I (cL call13 I (jK E gk _ _ M k0 k1 k2 k3 hxk hmf)) dC (.inr iR) ?_; rintro ev g3 _ ⟨rfl,hle3,e,he,hse1,hse2,-,h64⟩; have h64:=h64 hmi w1 w2 w3; obtain ⟨sv,pv,rfl,hsv,hpv⟩:=he)
    | (refine SB.o (i:=7) rfl (cL call12 rfl (kN E g3 _ _ _ M e (hxk.mono hle3) hmf ⟨_,_,rfl,hsv,hpv⟩ hse1 oM)) dC (.inr (by rintro _ g4 _ ⟨rfl,hle4,hR⟩; exact⟨by exact Le.trans (by assumption) (by assumption),(by exact .cons _ (.cons _ (.refl _)))⟩)) ?_; rintro _ g4 _ ⟨rfl,hle4,hR⟩; obtain ⟨u4,y4,rfl,hD,hS⟩:=hR.one; obtain ⟨u1,u2,u3⟩:=u4; obtain ⟨⟨z1,z2,z3⟩,z4⟩:=y4; have hle34:=hle3.trans hle4; refine SX.u (i:=8) I kD (mV I) dC ?_; refine SX.u (i:=9) I kD (xT I I) dC ?_; refine SX.u (i:=10) I kD (xT I I) dC ?_; refine SX.u (i:=11) I kD (xT I I) dC ?_)
    | (refine SB.o (i:=7) rfl (cL call12 rfl (kN E g3 _ _ _ M e (hxk.mono hle3) hmf ⟨_,_,rfl,hsv,hpv⟩ hse1 oM)) dC (.inr (by rintro _ g4 _ ⟨rfl,hle4,hR⟩; exact⟨by exact Le.trans (by assumption) (by assumption),(by exact .cons _ (.refl _))⟩)) ?_; rintro _ g4 _ ⟨rfl,hle4,hR⟩; obtain ⟨u4,y4,rfl,hD,hS⟩:=hR.one; obtain ⟨u1,u2,u3⟩:=u4; obtain ⟨⟨z1,z2,z3⟩,z4⟩:=y4; have hle34:=hle3.trans hle4; refine SX.u (i:=8) I kD (mV I) dC ?_; refine SX.u (i:=9) I kD (xT I I) dC ?_; refine SX.u (i:=10) I kD (xT I I) dC ?_; refine SX.u (i:=11) I kD (xT I I) dC ?_)
    | (refine SB.o (i:=7) rfl (cL call12 rfl (kN E g3 _ _ _ M e (hxk.mono hle3) hmf ⟨_,_,rfl,hsv,hpv⟩ hse1 oM)) dC (.inr (by rintro _ g4 _ ⟨rfl,hle4,hR⟩; exact⟨by exact Le.trans (by assumption) (by assumption),(by exact .refl _)⟩)) ?_; rintro _ g4 _ ⟨rfl,hle4,hR⟩; obtain ⟨u4,y4,rfl,hD,hS⟩:=hR.one; obtain ⟨u1,u2,u3⟩:=u4; obtain ⟨⟨z1,z2,z3⟩,z4⟩:=y4; have hle34:=hle3.trans hle4; refine SX.u (i:=8) I kD (mV I) dC ?_; refine SX.u (i:=9) I kD (xT I I) dC ?_; refine SX.u (i:=10) I kD (xT I I) dC ?_; refine SX.u (i:=11) I kD (xT I I) dC ?_)
    | (refine SB.o (i:=12) I (aL zl5) dC (.inr iR) ?_; rintro _ _ _ ⟨b8,rfl,rfl,rfl⟩)
    | (refine SB.o (i:=12) I (aL zl5) dC (.inr iR) ?_; rintro _ _ _ ⟨b8,rfl,rfl,rfl⟩)
    | (refine SB.o (i:=12) I (aL zl5) dC (.inr iR) ?_; rintro _ _ _ ⟨b8,rfl,rfl,rfl⟩)
    | (refine SB.o (i:=12) I (aL zl5) dC (.inr iR) ?_; rintro _ _ _ ⟨b8,rfl,rfl,rfl⟩)
    | (refine SB.o (i:=13) I (aL zl6) dC (.inr iR) ?_; rintro _ _ _ ⟨b9,rfl,rfl,rfl⟩)
    | (refine SB.o (i:=13) I (aL zl6) dC (.inr iR) ?_; rintro _ _ _ ⟨b9,rfl,rfl,rfl⟩)
    | (refine SB.o (i:=13) I (aL zl6) dC (.inr iR) ?_; rintro _ _ _ ⟨b9,rfl,rfl,rfl⟩)
    | (refine SB.o (i:=13) I (aL zl6) dC (.inr iR) ?_; rintro _ _ _ ⟨b9,rfl,rfl,rfl⟩)
    | (refine SB.on (i:=14) I (sK 1 aC I I I I I ⟨I,trivial⟩) (.inl dC) ?_; rintro _ _ _ ⟨rfl,rfl⟩)
    | (refine SB.on (i:=14) I (sK 0 aC I I I I I ⟨I,trivial⟩) (.inl dC) ?_; rintro _ _ _ ⟨rfl,rfl⟩)
    | (refine SB.on (i:=15) I (sK 0 ma I I I I I sB) (.inl dC) ?_; rintro _ _ _ ⟨rfl,rfl⟩; refine SX.u (i:=16) I kD (aS I) dC ?_)
    | (refine SB.on (i:=15) I (sK 1 ma I I I I I sB) (.inl dC) ?_; rintro _ _ _ ⟨rfl,rfl⟩; refine SX.u (i:=16) I kD (aS I) dC ?_)
    | refine SX.br3 6 12 13 kD ?_ ?_ ?_
    | refine SX.br3 7 12 13 kD ?_ ?_ ?_
    | refine zd7 12 13 kD ?_ ?_
    | refine zd6 13 kD ?_
    | refine zd6 14 kD ?_
    | refine zd6 15 kD ?_
    | refine zd6 12 kD ?_
    | refine zd7 7 13 kD ?_ ?_
    | refine zd6 7 kD ?_
    | refine zd7 7 12 kD ?_ ?_
    | refine zd7 6 13 kD ?_ ?_
    | refine zd6 6 kD ?_
    | refine zd7 6 12 kD ?_ ?_
    | (refine SX.nil kD ?_; refine ST.to (g':=g4) (s':=pt b9 (.cells #[.slice z1 z2 z3,vb z4] 35 (0,0))::pt b8 (.cells #[.slice u1 u2 u3] 29 (0,0))::pt b6 (.cells #[.slice qm M.length dm] 29 (0,0))::pt b2 (.cells #[vi kd,.slice p n c,vi y] 24 (0,0))::s) (fun w hw=>hw.perm (by exact .refl _)) ?_; exact za9 (b8,b9,g4,e,⟨u1,u2,u3⟩,⟨⟨z1,z2,z3⟩,z4⟩) sB I I ⟨hle34,hD,hS,h64⟩)
    | (refine SX.nil kD ?_; refine ST.to (g':=g4) (s':=pt b9 (.cells #[.slice z1 z2 z3,vb z4] 35 (0,0))::pt b8 (.cells #[.slice u1 u2 u3] 29 (0,0))::pt b6 (.cells #[.slice qm M.length dm] 29 (0,0))::pt b2 (.cells #[vi kd,.slice p n c,vi y] 24 (0,0))::s) (fun w hw=>hw.perm (by exact .swap _ _ _)) ?_; exact za9 (b8,b9,g4,e,⟨u1,u2,u3⟩,⟨⟨z1,z2,z3⟩,z4⟩) sB I I ⟨hle34,hD,hS,h64⟩))
  rintro ⟨b8,b9,g4,e,⟨u1,u2,u3⟩,⟨⟨z1,z2,z3⟩,z4⟩⟩ ⟨hle4,hD,hS,h64⟩;dsimp only at hle4 hD hS h64 ⊢;have hDn:=su hD;subst hDn;refine sQ (sW I (lU (nQ I I) (tZ ?_)));refine iP I (fun hz=>?_) (fun hz=>?_)
  ·refine xI (tX (bX (tN (rG (lM I (yD I (lA I (nL (dR (.cons _ (.cons _ (.refl _))) ?_)))))))));exact ST.again (k+1,g4) sB I I ⟨by dsimp only; omega,by dsimp only; omega,hlek.trans hle4⟩ (by dsimp only; omega)
  ·have hz:=Decidable.not_not.1 hz;have hx4:=hxk.mono hle4;have hio:imO M e=(th M e,bkK e):=by unfold imO; rw[zg1 hz]
   rw[hio] at hS;obtain ⟨hz4,hIm⟩:=hS;dsimp only at hz4 hIm;subst hz4;have hok:=Gu hz;have hfl:=D4 hz;have hzn:z2=(th M e).length:=by
    obtain ⟨rsI,h1,h2⟩:=hIm;rw[h2.length];exact (SlA.cap h1).1
   rw[EN hz] at hIm;have hDi:=Ep hz hmi h64.1 h64.2;have hDf:=uZ M e;have hDc:(aG (dB M e).2).2=0:=by rw[(jj hz).1.check]
   refine kP (tN (rZ (lK (qV 2 ba aC I I I) (bW (aL zl5) fun b11=>?_))));refine oZ (sK 0 aC I I I I I sB) ?_;refine tZ (rZ (lK (qV 2 ba aC I I I) (bW (aL zl5) fun b12=>?_)));refine oZ (sK 0 aC I I I I I sB) ?_;refine tZ ?_;refine SC.cut (ι:=Sv×Sv) (fun _=>[(1,.slice pa acts.length ca),(5,vb true),(6,pp b6 0),(7,vi k),(8,pp b8 0),(9,pp b9 0),(11,pp b11 0),(12,pp b12 0)]) (fun _=>g4) (fun i=>pt b12 (.cells #[.slice i.2.p i.2.n i.2.c] 29 (0,0))::pt b11 (.cells #[.slice i.1.p i.1.n i.1.c] 29 (0,0))::pt b9 (.cells #[.slice z1 z2 z3,vb (bkK e)] 35 (0,0))::pt b8 (.cells #[.slice u1 (dB M e).2.length u3] 29 (0,0))::pt b6 (.cells #[.slice qm M.length dm] 29 (0,0))::pt b2 (.cells #[vi kd,.slice p n c,vi y] 24 (0,0))::s)
    (fun i=>ar g4 (.slice i.1.p i.1.n i.1.c) (kV M e)∧ar g4 (.slice i.2.p i.2.n i.2.c) (o9 M e)) ?_ ?_
   ·refine rZ (lU (fA C9 I zT4 I) (lK (qL (v:=vb (bkK e)) iT4 I (cO 2 I I)) (tZ ?_)));refine iQ I (fun hbk=>?_) (fun hbk=>?_)
    ·refine rZ (lK (qV 3 ba aC I I I) (oZ (sK 1 aC I I I I I sB) ?_));refine tZ (rG (lK (qV 4 ba aC I I I) (oZ (sK 0 aC I I I I I sB) ?_)));refine nL ?_;exact za9 (⟨u1,(dB M e).2.length,u3⟩,⟨qm,M.length,dm⟩) sB I I ⟨by dsimp only; unfold kV; rw[zg1 hbk]; exact hD,by dsimp only; unfold o9; rw[zg1 hbk]; exact hx4⟩
    ·refine kP ?_;exact za9 (⟨qm,M.length,dm⟩,⟨u1,(dB M e).2.length,u3⟩) sB I I ⟨by dsimp only; unfold kV; rw[zf9 (by rw[hbk]; decide)]; exact hx4,by dsimp only; unfold o9; rw[zf9 (by rw[hbk]; decide)]; exact hD⟩
   rintro ⟨⟨f1,f2,f3⟩,⟨t1,t2,t3⟩⟩ ⟨hF,hT⟩;dsimp only at hF hT ⊢;have hFn:=su hF;have hTn:=su hT;subst hFn hTn;have hFi:∀ x∈kV M e,bw x.id:=by unfold kV; split <;> assumption
   have hTi:∀ x∈o9 M e,bw x.id:=by unfold o9; split <;> assumption
   have hFf:ci (kV M e):=by unfold kV; split <;> assumption
   have hTf:ci (o9 M e):=by unfold o9; split <;> assumption
   refine sQ (rZ (lK (qV 3 ba aC I I I) (lW (cL call14 I (kS E g4 _ _ (dB M e).2 hD hDf)) ?_)));rintro _ _ _ ⟨rfl,rfl,rfl⟩;rw[hDc];refine lM I (yX I (yX I (lA I (aT I (sW I (lU (SU.eq (v':=vb false) (nQ I I) (ze2 vb (zf7 (by simp)))) ?_))))));refine lM rfl (SL.gq (gT rfl rfl rfl dC) (qV 1 ba aC rfl rfl rfl) dC (SL.gq (gT rfl rfl rfl dC) (qV 0 ba aC rfl rfl rfl) dC (lY rfl rfl rfl (fA C9 rfl sizeOf33 rfl) (SL.gq (gT rfl rfl rfl dC) (SQ.loadAggAt (vs:=[.slice z1 z2 z3]) isAgg33 sizeOf33 rfl rfl (fun j u hj=>by rcases j with _ | j; (· simp at hj; subst hj; exact cO 2 I I); simp at hj)) dC ?_))));refine SL.go (gT I I I dC) (cL call15 I (rh E hE g4 _ _ _ _ (kV M e) (o9 M e) (nG (aa M) e) hok hF hT hFf hTf hIm hFi hTi)) dC ?_;rintro _ g5 _ ⟨rfl,rfl,hle5⟩;refine lY I I I (SU.eq (v':=vb false) (nQ I I) (ze2 vb (zf7 (by simp)))) ?_;refine yF I (tZ (za1 I (kP (tN (rZ (lU (fA C9 I sizeOf33 I) (lU (fA AF I sizeOf31 I) (lK (qL (v:=.slice z1 z2 z3) isAgg31 I (cO 2 I I)) (lU (eN AG I) (lU (fA eH I ee I) (lK (qL (v:=.slice f1 (kV M e).length f3) fX I (cO 1 I I)) (lU (eN aJ I) (lU (SU.eq (v':=vb false) (nQ I I) (ze2 vb (zf7 oM))) (tZ (za1 I (kP (bN (tN (rG (lM I (yD I (lA I (nL (dR (.cons _ (.cons _ (.cons _ (.cons _ (.refl _))))) ?_))))))))))))))))))))))));exact ST.again (k+1,g5) sB I I ⟨by dsimp only; omega,by dsimp only; omega,hlek.trans (hle4.trans hle5)⟩ (by dsimp only; omega)
 ·refine xI (tX (tX (bX (tN (sW I (aT I (rE (dR (s':=s) uR ?_))))))));exact za8 (.inl I) results3 I ⟨I,I,hle12.trans hlek⟩
end Go.Proofs.YtbbppeihhkhkcaaGreatDoor
namespace Go.Proofs.YtbbppeihhkhkcaaGreatDoor.editsMapsDone
open _root_.Go.Proofs.Tryz _root_.Go.Proofs.YtbbppeihhkhkcaaGreatDoor.Tryz
open Go Go.Sy Go.Pl Go.Proofs Go.Proofs.YtbbppeihhkhkcaaGreatDoor
open Go.ChangeShapes Go.WideShapes Go.ChangeAt Go.RowKit
set_option linter.unusedVariables false
theorem own:ownKnob Tryz.prog.godebug=none:=by kernel_rfl
theorem laidOut:laidOutB Tryz.prog=true:=by kernel_rfl
set_option maxRecDepth 100000 in
theorem lifted (os:Os)(started:os.Started)(H:Type)(enc:TypeId×Value→H) :
  ReturnsInHanded {} Tryz.checked os 3 .any (fun w args=>(Rows.editsMapsSpec.pre enc Tryz.prog f3 Rows.editsMapsRow.domain false w args∧laidMetH Tryz.prog Rows.editsMapsRow.laid w)∧sizedMet enc Tryz.prog f3 (OpenSpec.ofChange Rows.editsMapsSpec) false w args)
   (Rows.editsMapsSpec.post enc Tryz.prog f3 false true false false):=by
 refine returnsInHanded_of_change_and (C:=Tryz.checked) (X:=fun w _=>laidMetH Tryz.prog Rows.editsMapsRow.laid w) (fun _ _ _ hh h=>h.of_heap hh) own started kR func3
  (ChangeSpec.witness_shaped (enc:=enc) (C:=Tryz.checked) (os:=os) (X:=fun w _=>laidMetH Tryz.prog Rows.editsMapsRow.laid w) false (World.laidAll Tryz.prog os Rows.editsMapsRow.laid) #[.agg #[.int .i64 0,.slice none 0 0,.int .i64 0],.slice none 0 0] 8 (World.laidAll_os _ _ _)
   (World.shaped_of_ZipB kR kR) kR kR kR
   (by rw[MakeChecks.laidMetH_plain _ _ _ kR]; exact laidMet_laidAll _ kR kR)) ?_
 intro W base args ds gs before hval0 hW hcnd hsz0 hL _;have hval:∀ (j:Nat) t v,f3.params[j]?=some t→args[j]?=some v→Value.okWide Tryz.prog W .any base t v:=hval0;have hW':=hW;obtain ⟨p,q,hA0,hV,rfl,hfz,hnd⟩:=hW;have hA:DataW.TrodAll enc Tryz.prog W 0 (fun _=>true) true f3.params.toList args.toList ds p:=hA0;rw[params3] at hA hval;obtain ⟨v0,vs0,d0,ds0,p0,q0,hargs,rfl,rfl,h0,r0⟩:=trodAll_cons hA;obtain ⟨v1,vs1,d1,ds1,p1,q1,rfl,rfl,rfl,h1,r1⟩:=trodAll_cons r0;obtain ⟨rfl,rfl,rfl⟩:=trodAll_nil r1;obtain rfl:args = #[v0,v1]:=by cases args; simp_all
 obtain ⟨rfl,rfl⟩:=trodVars_none hV;have lt0:∀ x∈p0,x.block<W.heap.size:=by obtain ⟨m,hm⟩:=h0; exact DataW.trod_lt m _ _ _ hm
 have lt1:∀ x∈p1,x.block<W.heap.size:=by obtain ⟨m,hm⟩:=h1; exact DataW.trod_lt m _ _ _ hm
 obtain ⟨kd,y,u,ls,e0,hls⟩:=Dv (hval 0 24 v0 rfl rfl) h0;obtain ⟨a1,n1,c1,s1⟩:=okWide_slice underlying25 (hval 1 25 v1 rfl rfl);obtain ⟨as1,ha1,hw1⟩:=AB h1 (by rw[s1]; rfl);clear hA0 hval0;have walk:Calls Tryz.prog 3 #[v0,v1] W fun e w'=>e = .returned (.bool true)∧Below W.heap.size W w':=by
  rw[e0];refine (rj (E0 W) (tj W) [] u kd y ls _ as1 hls ha1 hw1 I W (Em W)).mono ?_;rintro e w' ⟨v,g',s',rfl,hat,rfl,rfl,hle⟩;exact⟨I,Eo hat hle⟩
 refine walk.mono fun e W' ⟨he,bel⟩=>?_;subst he;exact⟨_,I,_,_,_,[],_,[],hW',trodAll_mk1 (shut_bool uT4 _),(trodAll_cons_mk (Below.trod laidOut kR (zg3 kR) h0 bel lt0) (trodAll_cons_mk (Below.trod laidOut kR (zg3 kR) h1 bel lt1) trodAll_mk0)),I,bel.frame _,fun h=>by cases h⟩
def EL (P:Program)(fn:Func)(c:OpenClaim):Bool:=(c.kinds == (if c.domain.isEmpty then [] else fn.params.toList.map fun t=>match P.underlying t with | some (.int k)=>some k | _=>none))
theorem i5 {a b:Bool}(h:a=true)(k:b=true):(a&&b)=true:=by rw[h,k]; rfl
theorem Cv {P:Program}{f:FuncId}{fn:Func}{s:ChangeSpec}{c:OpenClaim}
  (h0:(c.wf (OpenSpec.ofChange s))=true)
  (h1:(laidOutB P)=true)
  (h2:(mapsRowed P)=true)
  (h3:(fn.params.all (P.readableRec ·))=true)
  (h4:(namedTie P c.named s.vars)=true)
  (h5:((c.stops == []))=true)
  (h6:((P.stops == []))=true)
  (h7:((c.knobs == []))=true)
  (h8:((P.stopKnobs == []))=true)
  (h9:((c.inPlace == P.inPlace f))=true)
  (h10:((c.unfollowed == P.unfollowed f))=true)
  (h11:((c.recurses == P.recurses f))=true)
  (h12:((c.named == P.varsNamed f))=true)
  (h13:((c.maps == (fn.params.toList++s.plain.varTypes P).any (P.mapsRec ·)))=true)
  (h14:((c.ifaces == (fn.params.toList++s.plain.varTypes P).any (P.ifacesRec ·)))=true)
  (h15:((c.mapsOut == P.mapsAmong fn.resultTypes.toList))=true)
  (h16:((c.loops == (fn.params.toList++s.plain.varTypes P).any (P.loopsFrom ·)))=true)
  (h17:((c.wideKeys == (fn.params.toList++s.plain.varTypes P++fn.resultTypes.toList).any (P.wideKeysFrom ·)))=true)
  (h18:(s.vars.all (P.varReadable ·))=true)
  (h19:(fn.resultTypes.all (fun t=>P.readableRec t&&decide (t<P.types.size)))=true)
  (h20:((c.ifacesOut == fn.resultTypes.toList.any (P.ifacesRec ·)))=true)
  (h21:((c.loopsOut == fn.resultTypes.toList.any (P.loopsFrom ·)))=true)
  (h22:((c.plainKeys == P.plainKeys))=true)
  (h23:(c.shortTexts.isNone)=true)
  (h24:(P.stopsHeard)=true)
  (h25:(P.mayEnter)=true)
  (h26:((c.lifted == P.liftsFinal))=true)
  (h27:((P.make == some c.make))=true)
  (h28:(EL P fn c)=true)
  (h29:((c.pinned == c.pinnedBy))=true)
  (h30:((c.veiled == (fn.params.toList++s.plain.varTypes P++fn.resultTypes.toList).any (P.veiledRec ·)))=true)
  (h31:(c.veiledFits P fn.params.toList (fn.params.toList++s.plain.varTypes P++fn.resultTypes.toList))=true)
  : joinedFacts P f fn s c=true:=by
 exact i5 (i5 (i5 (i5 (i5 (i5 (i5 (i5 (i5 (i5 (i5 (i5 (i5 (i5 (i5 (i5 (i5 (i5 (i5 (i5 (i5 (i5 (i5 (i5 (i5 (i5 (i5 (i5 (i5 (i5 (i5 h0 h1) h2) h3) h4) h5) h6) h7) h8) h9) h10) h11) h12) h13) h14) h15) h16) h17) h18) h19) h20) h21) h22) h23) h24) h25) h26) h27) h28) h29) h30) h31
theorem k0:(Rows.editsMapsRow.wf (OpenSpec.ofChange Rows.editsMapsSpec))=true:=by kernel_rfl
theorem k1:(laidOutB Tryz.prog)=true:=by kernel_rfl
theorem k2:(mapsRowed Tryz.prog)=true:=by kernel_rfl
theorem k3:(f3.params.all (Tryz.prog.readableRec ·))=true:=by kernel_rfl
theorem k4:(namedTie Tryz.prog Rows.editsMapsRow.named Rows.editsMapsSpec.vars)=true:=by kernel_rfl
theorem k5:((Rows.editsMapsRow.stops == []))=true:=by kernel_rfl
theorem k6:((Tryz.prog.stops == []))=true:=by kernel_rfl
theorem k7:((Rows.editsMapsRow.knobs == []))=true:=by kernel_rfl
theorem k8:((Tryz.prog.stopKnobs == []))=true:=by kernel_rfl
theorem k9:((Rows.editsMapsRow.inPlace == Tryz.prog.inPlace 3))=true:=by kernel_rfl
theorem k10:((Rows.editsMapsRow.unfollowed == Tryz.prog.unfollowed 3))=true:=by kernel_rfl
theorem k11:((Rows.editsMapsRow.recurses == Tryz.prog.recurses 3))=true:=by kernel_rfl
theorem k12:((Rows.editsMapsRow.named == Tryz.prog.varsNamed 3))=true:=by kernel_rfl
theorem k13:((Rows.editsMapsRow.maps == (f3.params.toList++Rows.editsMapsSpec.plain.varTypes Tryz.prog).any (Tryz.prog.mapsRec ·)))=true:=by kernel_rfl
theorem k14:((Rows.editsMapsRow.ifaces == (f3.params.toList++Rows.editsMapsSpec.plain.varTypes Tryz.prog).any (Tryz.prog.ifacesRec ·)))=true:=by kernel_rfl
theorem k15:((Rows.editsMapsRow.mapsOut == Tryz.prog.mapsAmong f3.resultTypes.toList))=true:=by kernel_rfl
theorem k16:((Rows.editsMapsRow.loops == (f3.params.toList++Rows.editsMapsSpec.plain.varTypes Tryz.prog).any (Tryz.prog.loopsFrom ·)))=true:=by kernel_rfl
theorem k17:((Rows.editsMapsRow.wideKeys == (f3.params.toList++Rows.editsMapsSpec.plain.varTypes Tryz.prog++f3.resultTypes.toList).any (Tryz.prog.wideKeysFrom ·)))=true:=by kernel_rfl
theorem k18:(Rows.editsMapsSpec.vars.all (Tryz.prog.varReadable ·))=true:=by kernel_rfl
theorem k19:(f3.resultTypes.all (fun t=>Tryz.prog.readableRec t&&decide (t<Tryz.prog.types.size)))=true:=by kernel_rfl
theorem k20:((Rows.editsMapsRow.ifacesOut == f3.resultTypes.toList.any (Tryz.prog.ifacesRec ·)))=true:=by kernel_rfl
theorem k21:((Rows.editsMapsRow.loopsOut == f3.resultTypes.toList.any (Tryz.prog.loopsFrom ·)))=true:=by kernel_rfl
theorem k22:((Rows.editsMapsRow.plainKeys == Tryz.prog.plainKeys))=true:=by kernel_rfl
theorem k23:(Rows.editsMapsRow.shortTexts.isNone)=true:=by kernel_rfl
theorem k24:(Tryz.prog.stopsHeard)=true:=by kernel_rfl
theorem k25:(Tryz.prog.mayEnter)=true:=by kernel_rfl
theorem k26:((Rows.editsMapsRow.lifted == Tryz.prog.liftsFinal))=true:=by kernel_rfl
theorem k27:((Tryz.prog.make == some Rows.editsMapsRow.make))=true:=by kernel_rfl
theorem k28:(EL Tryz.prog f3 Rows.editsMapsRow)=true:=by kernel_rfl
theorem k29:((Rows.editsMapsRow.pinned == Rows.editsMapsRow.pinnedBy))=true:=by kernel_rfl
theorem k30:((Rows.editsMapsRow.veiled == (f3.params.toList++Rows.editsMapsSpec.plain.varTypes Tryz.prog++f3.resultTypes.toList).any (Tryz.prog.veiledRec ·)))=true:=by kernel_rfl
theorem k31:(Rows.editsMapsRow.veiledFits Tryz.prog f3.params.toList (f3.params.toList++Rows.editsMapsSpec.plain.varTypes Tryz.prog++f3.resultTypes.toList))=true:=by kernel_rfl
theorem kp:Rows.editsMapsRow.wfByText (OpenSpec.ofChange Rows.editsMapsSpec)=true:=by kernel_rfl
theorem kf : Tryz.prog.funcNamed "cocycle/cocyclelaw12.EditsMaps" = some 3:=by kernel_rfl
theorem kr:Tryz.pinned.checked.prog.funcNamed Rows.editsMapsRow.func=some 3:=by kernel_rfl
theorem kj:joinedFacts Tryz.pinned.checked.prog 3 f3 Rows.editsMapsSpec Rows.editsMapsRow=true :=
 Cv k0 k1 k2 k3 k4 k5 k6 k7 k8 k9 k10 k11 k12 k13 k14 k15 k16 k17 k18 k19 k20 k21 k22 k23 k24 k25 k26 k27 k28 k29 k30 k31
theorem ki:f3.isInstance Tryz.prog Rows.editsMapsRow.origin Rows.editsMapsRow.targs:=zg3 kR
theorem kw:f3.isWrapper Tryz.prog Rows.editsMapsRow.wrapper Rows.editsMapsRow.mainSum:=by unfold Func.isWrapper; first | (rw[zg1 (by decide +kernel)]; kernel_rfl) | (rw[zf9 (by decide +kernel)]; exact⟨I,I⟩)
theorem km : Tryz.prog.mainIs = some (true,("cdd7b8cb2f263e97c0beb24abf2d7239d76cc07e0537133e289a66fd7f1971ec" : String).toList):=by kernel_rfl
theorem kl:false=Tryz.prog.looks []:=by kernel_rfl
theorem kg:false=Rows.editsMapsRow.goesBy Tryz.prog:=by kernel_rfl
theorem kq:([24,25].all fun u=>!Tryz.prog.wantsStandIn u)=true:=by kernel_rfl
theorem over:Rows.editsMapsRow.holds Tryz.pinned (OpenSpec.ofChange Rows.editsMapsSpec) :=
 OpenClaim.holds_of_wide 3 f3 rfl rfl rfl rfl rfl rfl rfl ⟨rfl,rfl,rfl,rfl,rfl⟩ rfl rfl rfl rfl rfl kr func3 kj ki kw
  (fun os started H enc _=>lifted os started H enc)
theorem proved:Rows.EditsMapsCardSaid :=
 Claim7.holds_tied_plain_at .later [] [.data,.pinned] true (true, "cdd7b8cb2f263e97c0beb24abf2d7239d76cc07e0537133e289a66fd7f1971ec") false
  over (fun _ h=>by cases h) kp (fun _ h=>by cases h) editsMaps_row_tie rfl ⟨rfl,rfl⟩ km rfl
  (fun f fn hf hfn=>by
   obtain rfl:f=3:=Option.some.inj (kf.symm.trans hf) |>.symm;obtain rfl:fn=f3:=(Option.some.inj (func3.symm.trans hfn)).symm;exact⟨kl,fun j t ht=>by
    rw[params3] at ht;have hm:t∈[24,25]:=by simpa using Array.mem_of_getElem? ht
    exact (show Tryz.prog.wantsStandIn t=false by simpa using zj9.1 kq t hm)⟩)
  kg
#print axioms proved
end Go.Proofs.YtbbppeihhkhkcaaGreatDoor.editsMapsDone
