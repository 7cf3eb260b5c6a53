/- 12 -/
import Derived.Test.YtbbppeihhkhkcaaGreatDoorMp11
import Derived.Test.YtbbppeihhkhkcaaGreatDoorMp05
import Derived.Test.YtbbppeihhkhkcaaGreatDoorMp03
set_option linter.unusedSimpArgs false
set_option linter.unusedVariables false
namespace Go.Proofs.YtbbppeihhkhkcaaGreatDoor
open _root_.Go.Proofs.Tryz _root_.Go.Proofs.YtbbppeihhkhkcaaGreatDoor.Tryz
open Go Go.Sy Go.Pl Go.Proofs
set_option maxRecDepth 100000
set_option maxHeartbeats 2000000
def xO (p:Side→Bool)(l:List Side):Int:=if l.any p then ((l.findIdx p:Nat):Int) else -1
theorem yx {p:Side→Bool}{l:List Side}{k:Nat}(hk:k<l.length)(h0:∀ j (hj:j<k),p (l[j]'oM)=false)(h1:p l[k]=true):xO p l=k:=by
 unfold xO;rw[zg1 (zj8.2 ⟨_,gM hk,h1⟩),List.findIdx_eq hk |>.2 ⟨h1,fun j hj=>by rw[h0 j hj]⟩]
theorem yw {p:Side→Bool}{l:List Side}(h0:∀ j (hj:j<l.length),p l[j]=false):xO p l = -1:=by
 unfold xO;rw[zf9];intro h;obtain ⟨x,hx,h1⟩:=zj8.1 h;obtain ⟨j,hj,rfl⟩:=zc7 hx;rw[h0 j hj] at h1;cases h1
theorem uB (E:World)(g:PH)(s:Own)(v fv:Value)(l:List Side)(p:Side→Bool)(hv:SlA encSide g v l)(hl:l.length<1099511627776)(hfv:fv.cells = #[fv])(hc:∀ x:Side,c4 Tryz.prog E fv [.agg #[vi x.cell,vi x.sign]] g s (fun r g' s'=>r=vb (p x)∧g=g'∧s=s')) :
  Ctr Tryz.prog E 168 #[v,fv] g s (fun r g' s'=>r=vi (xO p l)∧g=g'∧s=s'):=by
 obtain ⟨q,c,rfl⟩:=za4 hv;refine zb2 (args:=[.slice q l.length c,fv]) func168 I ntmps168 (bE I) ?_;refine rZ (aT I (sQ (sW I (lU (eN aY I) (lM I (tZ (bK ?_)))))));refine oP (ι:=Nat) (fun k=>[(0,.slice q l.length c),(1,fv),(7,vi l.length),(8,vi k)]) (fun _=>g) (fun _=>s)
  (fun k=>k≤l.length∧∀ j (hj:j<k) (hl:j<l.length),p l[j]=false) (fun k=>l.length - k) 0 sB rfl rfl ⟨zf6 _,fun j hj=>absurd hj oM⟩ ?_
 rintro k ⟨hk,hno⟩;try dsimp only at hk hno ⊢
 refine rZ (yL I (tZ (sQ ?_)));refine iP I (fun hlt=>?_) (fun hlt=>?_)
 ·have hkl:k<l.length:=oM;have hb1:=za6 hv oM;have hgk:l[((k:Nat):Int).toNat]?=some l[k]:=gE hkl;have hhere:=fun h=>yx (p:=p) hkl (fun j hj=>hno j hj oM) h;have hsucc:p l[k]=false→∀ j (hj:j<k+1) (hl:j<l.length),p l[j]=false:=fun h j hj hl=>by
   by_cases e:j=k
   ·subst e; exact h
   ·exact hno j oM hl
  generalize l[k]=x at *;refine kP (tN (sQ (bK (sW I (aT I (sW I (lM I (lM I (lU (iA aY aI I I hb1 oM sL) (lK (eA fh aI I (za7 hv) hgk) (lW (SO.callV I I (hc x)) ?_)))))))))));rintro _ _ _ ⟨rfl,rfl,rfl⟩;refine tZ ?_;refine iQ I (fun hp=>?_) (fun hp=>?_)
  ·refine sW I (aT I (rE (bR (tR (tR (bR (tR ?_)))))));exact za8 (.inl I) results168 I ⟨by rw[hhere hp],I,I⟩
  ·refine kP (bN (tN (rG (yD I (lM I (nL ?_))))));exact ST.again (k+1) sB I I ⟨oM,hsucc hp⟩ oM
 ·refine xI (tX (tX (bX (tN (rZ (aT I (rE ?_)))))));exact za8 (.inl I) results168 I ⟨by rw[yw fun j hj=>hno j oM hj],I,I⟩
abbrev edV (e:Ed)(sv pv:Value):Array Value:=#[vi e.kind,vi e.cell,vi e.dim,vi e.new,vi e.other,sv,pv]
theorem DV (E:World)(g:PH)(s:Own)(b3:Nat)(e:Ed)(sv pv:Value)(x:Side)(q:Nat)(hq:s[q]?=some (pt b3 (.cells (edV e sv pv) 42 (0,0)))) :
  c4 Tryz.prog E (.func (.func 172) #[] #[pp b3 0]) [.agg #[vi x.cell,vi x.sign]] g s (fun r g' s'=>r=vb (decide (x.cell=e.cell))∧g=g'∧s=s'):=by
 refine c4.mk (args:=[_]) (cap:=[pp b3 0]) call172 ?_;refine zb2 (args:=[.agg #[vi x.cell,vi x.sign],pp b3 0]) func172 I ntmps172 (bE I) ?_;refine rZ (bW (bO I) fun b2=>?_);refine aT I (rZ (lU (fA dw I zT3 I) (lK (qL (v:=vi x.cell) iT3 I (cO 0 I I)) (lU (fA cY I zT3 I) (lK (qL (v:=vi e.cell) iT3 I (cO (q+1) hq I)) (yE I (aT I (rE (dR (s':=s) uR ?_)))))))));exact za8 (.inl I) results172 I ⟨I,I,I⟩
def bB (A:List Cl)(e:Ed):List Side:=((am A e.other).getD cJ).sides
def m3 (l:List Side)(i:Nat):Int:=(l[i]?.map Side.sign).getD 0
def eR (A:List Cl)(e:Ed):List Tm:=((bB A e).eraseIdx ((bB A e).findIdx fun x=>decide (x.cell=e.cell))).map fun x=>(x.cell,-m3 (bB A e) ((bB A e).findIdx fun x=>decide (x.cell=e.cell)) * x.sign)
def dP (A:List Cl)(e:Ed):Int:=if (am A e.cell).isSome&&(am A e.other).isSome then (if aj A e.cell=[e.other]∧¬ 0<(aj A e.other).length then 0 else 32) else 30
theorem Ah {l:List Side}{i k:Nat}(hk:k<l.length)(h:i≠k):(l.take (k+1)).eraseIdx i=(l.take k).eraseIdx i++[l[k]]:=by
 rw[tS hk];by_cases h2:i<k
 ·rw[List.eraseIdx_append_of_lt_length (by rw[ze4]; omega)]
 ·rw[List.eraseIdx_of_length_le (l:=l.take k) (by rw[ze4]; omega),List.eraseIdx_of_length_le (by rw[ze5,ze4,ze7]; omega)]
theorem Ai {l:List Side}{k:Nat}(hk:k<l.length):(l.take (k+1)).eraseIdx k=(l.take k).eraseIdx k:=by
 rw[tS hk,List.eraseIdx_of_length_le (l:=l.take k) (by rw[ze4]; omega),List.eraseIdx_append_of_length_le (by rw[ze4]; omega)];rw[ze4,show k - min k l.length=0 by omega];simp
theorem tJ (E:World)(g:PH)(s:Own)(bx mb ms:Nat)(u v:Value)(e:Ed)(A:List Cl)(rs:List Rc)(hu:ar g u A)(hf:ci A)(hall:aF (aw g) A rs)(he:EdR g v e)
  (hsg:∀ x∈bB A e,x.sign=1∨x.sign = -1) (hlen:(bB A e).length≤64) (hmem:aj A e.cell=[e.other]→(bB A e).any (fun x=>decide (x.cell=e.cell))=true) :
  Ctr Tryz.prog E 109 #[pp bx 0,v] g (edP bx u mb ms false::mp mb (rs.map ah)::mp ms []::s) (fun r g' s'=>Le g g'∧r=vi (dP A e) ∧
   (if dP A e=0 then ∃ v1 p n c,v1 = .slice p n c∧s'=edP bx u mb ms false::mp mb ((oN (oN rs e.cell) e.other).map ah)::mp ms (ii [(e.cell,v1,eR A e),(e.other,.slice none 0 0,[])])::(di [(e.cell,v1,eR A e),(e.other,.slice none 0 0,[])]++s) else ∃ h,s'=h++s)):=by
 obtain ⟨sv,pv,rfl,hsv,hpv⟩:=he;obtain ⟨p,c,rfl⟩:=hu.form;have hal:(aj A e.cell).length<1099511627776:=Nat.lt_of_le_of_lt (by unfold aj; rw[ze6]; exact zc5 _ _) (dv hf).1;have hsvf:=za4 hsv;have hpvf:=za4 hpv;obtain ⟨sp,sc,rfl⟩:=hsvf;obtain ⟨qp,qc,rfl⟩:=hpvf;refine zb2 (args:=[pp bx 0,.agg #[vi e.kind,vi e.cell,vi e.dim,vi e.new,vi e.other,.slice sp e.sides.length sc,.slice qp e.pairs.length qc]]) func109 I ntmps109 (bE I) ?_;cases hc:(am A e.cell).isSome with
 | false =>
  have hcode:dP A e=30:=by unfold dP; rw[hc]; rfl
  rw[hcode];refine rZ (bW (bO I) fun b3=>?_);refine aT I (sQ (sW I (lU (fA cY I zT3 I) (lK (qL (v:=vi e.cell) iT3 I (cO 0 I I)) (lW (cL call166 I (ce E g _ bx mb ms _ false e.cell _ (fun _ _ h=>h.1) A rs hall 1 2 I I)) ?_)))));rintro _ _ _ ⟨rfl,rfl,rfl⟩;refine lU (SU.eq (v':=vb true) (SU.not I) (ze2 vb (by rw[hc]; rfl))) ?_;refine lM I (yA I (yA I (yA I (yA I (yA I (yP I (tZ (za2 I (rZ (aT I (rE (tR ?_))))))))))));exact za8 (.inl I) results109 I ⟨zb9 _,I,by rw[zf9 dC]; exact⟨[_,_,_,_],I⟩⟩
 | true =>
  cases ho:(am A e.other).isSome with
  | false =>
   have hcode:dP A e=30:=by unfold dP; rw[hc,ho]; rfl
   rw[hcode];refine rZ (bW (bO I) fun b3=>?_);refine aT I (sQ (sW I (lU (fA cY I zT3 I) (lK (qL (v:=vi e.cell) iT3 I (cO 0 I I)) (lW (cL call166 I (ce E g _ bx mb ms _ false e.cell _ (fun _ _ h=>h.1) A rs hall 1 2 I I)) ?_)))));rintro _ _ _ ⟨rfl,rfl,rfl⟩;refine lU (SU.eq (v':=vb false) (SU.not I) (ze2 vb (by rw[hc]; rfl))) ?_;refine lM I (yC I (lY I I I (fA cY I zT3 I) (SL.gq (gT I I I dC) (qL (v:=vi e.other) iT3 I (cO 0 I I)) dC (SL.go (gT I I I dC) (cL call166 I (ce E g _ bx mb ms _ false e.other _ (fun _ _ h=>h.1) A rs hall 1 2 I I)) dC ?_))));rintro _ _ _ ⟨rfl,rfl,rfl⟩;refine lY I I I (SU.eq (v':=vb true) (SU.not I) (ze2 vb (by rw[ho]; rfl))) ?_;refine yF I (tZ (za2 I (rZ (aT I (rE (tR ?_))))));exact za8 (.inl I) results109 I ⟨zb9 _,I,by rw[zf9 dC]; exact⟨[_,_,_,_],I⟩⟩
  | true =>
   refine rZ (bW (bO I) fun b3=>?_);refine aT I (sQ (sW I (lU (fA cY I zT3 I) (lK (qL (v:=vi e.cell) iT3 I (cO 0 I I)) (lW (cL call166 I (ce E g _ bx mb ms _ false e.cell _ (fun _ _ h=>h.1) A rs hall 1 2 I I)) ?_)))));rintro _ _ _ ⟨rfl,rfl,rfl⟩;refine lU (SU.eq (v':=vb false) (SU.not I) (ze2 vb (by rw[hc]; rfl))) ?_;refine lM I (yC I (lY I I I (fA cY I zT3 I) (SL.gq (gT I I I dC) (qL (v:=vi e.other) iT3 I (cO 0 I I)) dC (SL.go (gT I I I dC) (cL call166 I (ce E g _ bx mb ms _ false e.other _ (fun _ _ h=>h.1) A rs hall 1 2 I I)) dC ?_))));rintro _ _ _ ⟨rfl,rfl,rfl⟩;refine lY I I I (SU.eq (v':=vb false) (SU.not I) (ze2 vb (by rw[ho]; rfl))) ?_;refine yF I (tZ (za1 I (kP (tN (sQ ?_)))));refine SC.cut (ι:=PH) (fun _=>[(0,pp bx 0),(3,pp b3 0),(44,vb (!decide (aj A e.cell=[e.other])||decide (0<(aj A e.other).length)))]) (fun g'=>g') (fun _=>pt b3 (.cells (edV e (.slice sp e.sides.length sc) (.slice qp e.pairs.length qc)) 42 (0,0))::edP bx (.slice p A.length c) mb ms false::mp mb (rs.map ah)::mp ms []::s) (fun g'=>Le g g') ?_ ?_
   ·by_cases hab:aj A e.cell=[e.other]
    ·refine SC.drawX [] ze3 kR ?_;refine SX.u (i:=0) I kR (mV I) dC (SX.u (i:=1) I kR (nC I) dC (SX.u (i:=2) I kR (fA de I aC I) dC (SX.q (i:=3) I kR (SQ.loadOne ba aC I (cO (v:=.slice p A.length c) 1 I I)) dC (SX.u (i:=4) I kR (fA cY I zT3 I) dC (SX.q (i:=5) I kR (qL (v:=vi e.cell) iT3 I (cO 0 I I)) dC (SX.u (i:=7) I kR (fA cY I zT3 I) dC (SX.q (i:=8) I kR (qL (v:=vi e.other) iT3 I (cO 0 I I)) dC ?_)))))))
     repeat' (first
      | (refine SB.o (i:=6) rfl (cL call167 rfl (fK E _ _ _ A e.cell (by exact hu.mono (by assumption)) hf)) dC (.inr (by rintro v28 g1 _ ⟨rfl,hle1,ha1⟩; exact⟨by exact Le.trans (by assumption) (by assumption),(by exact .refl _)⟩)) ?_; rintro v28 g1 _ ⟨rfl,hle1,ha1⟩; first | have hleB:=hle2.trans hle1 | skip)
      | (refine SB.o (i:=6) I (cL call167 I (fK E _ _ _ A e.cell (by exact hu) hf)) dC (.inr iR) ?_; rintro v28 g1 _ ⟨rfl,hle1,ha1⟩; first | have hleB:=hle2.trans hle1 | skip)
      | (refine SB.o (i:=9) I (bS sty52 I I I (ae ⟨I,trivial⟩) dC) dC (.inr iR) ?_; rintro _ _ _ ⟨b31,rfl,rfl,rfl⟩; refine SX.to (fun w hw=>At.litRow (e:=encInt) (l:=[e.other]) (n:=0) hw I I dC) ?_; refine SX.freezeRow fun g2 hle2 hs2=>?_; first | have hleB:=hle1.trans hle2 | skip)
      | (refine SB.o (i:=9) I (bS sty52 I I I (ae ⟨I,trivial⟩) dC) dC (.inr iR) ?_; rintro _ _ _ ⟨b31,rfl,rfl,rfl⟩; refine SX.to (fun w hw=>At.litRow (e:=encInt) (l:=[e.other]) (n:=0) hw I I dC) ?_; refine SX.freezeRow fun g2 hle2 hs2=>?_; first | have hleB:=hle1.trans hle2 | skip)
      | (refine SB.o (i:=10) I (cL call138 I (j4 E _ _ _ _ (aj A e.cell) [e.other] (by exact za5 ha1 (by assumption)) (by exact hs2) hal)) dC (.inr iR) ?_; rintro _ _ _ ⟨rfl,rfl,rfl⟩; refine SX.u (i:=11) I kD (SU.eq (v':=vb false) (SU.not I) (ze2 vb (by rw[zf8 hab]; rfl))) dC ?_; refine SX.u (i:=12) I kD (mV I) dC ?_; refine SX.gu (i:=13) I kD (gT I I I dC) (mV I) dC ?_; refine SX.gu (i:=14) I kD (gT I I I dC) (nC I) dC ?_; refine SX.gu (i:=15) I kD (gT I I I dC) (fA de I aC I) dC ?_; refine SX.gq (i:=16) I kD (gT I I I dC) (SQ.loadOne ba aC I (cO (v:=.slice p A.length c) 1 I I)) dC ?_; refine SX.gu (i:=17) I kD (gT I I I dC) (fA cY I zT3 I) dC ?_; refine SX.gq (i:=18) I kD (gT I I I dC) (qL (v:=vi e.other) iT3 I (cO 0 I I)) dC ?_)
      | (refine SB.o (i:=10) I (cL call138 I (j4 E _ _ _ _ (aj A e.cell) [e.other] (by exact ha1) (by exact za5 hs2 (by assumption)) hal)) dC (.inr iR) ?_; rintro _ _ _ ⟨rfl,rfl,rfl⟩; refine SX.u (i:=11) I kD (SU.eq (v':=vb false) (SU.not I) (ze2 vb (by rw[zf8 hab]; rfl))) dC ?_; refine SX.u (i:=12) I kD (mV I) dC ?_; refine SX.gu (i:=13) I kD (gT I I I dC) (mV I) dC ?_; refine SX.gu (i:=14) I kD (gT I I I dC) (nC I) dC ?_; refine SX.gu (i:=15) I kD (gT I I I dC) (fA de I aC I) dC ?_; refine SX.gq (i:=16) I kD (gT I I I dC) (SQ.loadOne ba aC I (cO (v:=.slice p A.length c) 1 I I)) dC ?_; refine SX.gu (i:=17) I kD (gT I I I dC) (fA cY I zT3 I) dC ?_; refine SX.gq (i:=18) I kD (gT I I I dC) (qL (v:=vi e.other) iT3 I (cO 0 I I)) dC ?_)
      | (refine SB.go (i:=19) rfl (gT rfl rfl rfl dC) (cL call167 rfl (fK E _ _ _ A e.other (hu.mono hleB) hf)) dC (.inr (by rintro v41 g5 _ ⟨rfl,hle5,ha5⟩; exact⟨by exact Le.trans (by assumption) (by assumption),(by exact .refl _)⟩)) ?_; rintro v41 g5 _ ⟨rfl,hle5,ha5⟩; obtain ⟨q5,d5,rfl⟩:=za4 ha5; have hleF:=hleB.trans hle5; refine SX.gu (i:=20) I kD (gT I I I dC) (eN aH I) dC ?_; refine SX.gu (i:=21) I kD (gT I I I dC) (SU.eq (v':=vb (decide (0<(aj A e.other).length))) (gR I I) (ze2 vb (by simp only[gt_iff_lt,Int.natCast_pos]))) dC ?_; refine SX.u (i:=22) I kD (wF I I) dC ?_)
      | refine zd7 6 9 kD ?_ ?_
      | refine zd6 9 kD ?_
      | refine zd6 10 kD ?_
      | refine zd6 19 kD ?_
      | refine zd6 6 kD ?_
      | (refine SX.nil kD ?_; exact za9 _ ⟨I,I,(by rw[zf8 hab]; rfl),trivial⟩ rfl rfl hleF))
    ·refine SC.drawX [] ze3 kR ?_;refine SX.u (i:=0) I kR (mV I) dC (SX.u (i:=1) I kR (nC I) dC (SX.u (i:=2) I kR (fA de I aC I) dC (SX.q (i:=3) I kR (SQ.loadOne ba aC I (cO (v:=.slice p A.length c) 1 I I)) dC (SX.u (i:=4) I kR (fA cY I zT3 I) dC (SX.q (i:=5) I kR (qL (v:=vi e.cell) iT3 I (cO 0 I I)) dC (SX.u (i:=7) I kR (fA cY I zT3 I) dC (SX.q (i:=8) I kR (qL (v:=vi e.other) iT3 I (cO 0 I I)) dC ?_)))))))
     repeat' (first
      | (refine SB.o (i:=6) rfl (cL call167 rfl (fK E _ _ _ A e.cell (by exact hu.mono (by assumption)) hf)) dC (.inr (by rintro v28 g1 _ ⟨rfl,hle1,ha1⟩; exact⟨by exact Le.trans (by assumption) (by assumption),(by exact .refl _)⟩)) ?_; rintro v28 g1 _ ⟨rfl,hle1,ha1⟩; first | have hleB:=hle2.trans hle1 | skip)
      | (refine SB.o (i:=6) I (cL call167 I (fK E _ _ _ A e.cell (by exact hu) hf)) dC (.inr iR) ?_; rintro v28 g1 _ ⟨rfl,hle1,ha1⟩; first | have hleB:=hle2.trans hle1 | skip)
      | (refine SB.o (i:=9) I (bS sty52 I I I (ae ⟨I,trivial⟩) dC) dC (.inr iR) ?_; rintro _ _ _ ⟨b31,rfl,rfl,rfl⟩; refine SX.to (fun w hw=>At.litRow (e:=encInt) (l:=[e.other]) (n:=0) hw I I dC) ?_; refine SX.freezeRow fun g2 hle2 hs2=>?_; first | have hleB:=hle1.trans hle2 | skip)
      | (refine SB.o (i:=9) I (bS sty52 I I I (ae ⟨I,trivial⟩) dC) dC (.inr iR) ?_; rintro _ _ _ ⟨b31,rfl,rfl,rfl⟩; refine SX.to (fun w hw=>At.litRow (e:=encInt) (l:=[e.other]) (n:=0) hw I I dC) ?_; refine SX.freezeRow fun g2 hle2 hs2=>?_; first | have hleB:=hle1.trans hle2 | skip)
      | (refine SB.o (i:=10) I (cL call138 I (j4 E _ _ _ _ (aj A e.cell) [e.other] (by exact za5 ha1 (by assumption)) (by exact hs2) hal)) dC (.inr iR) ?_; rintro _ _ _ ⟨rfl,rfl,rfl⟩; refine SX.u (i:=11) I kD (SU.eq (v':=vb true) (SU.not I) (ze2 vb (by rw[zf7 hab]; rfl))) dC ?_; refine SX.u (i:=12) I kD (mV I) dC ?_; refine SX.off (i:=13) I kD (gZ I I I dC) dC ?_; refine SX.off (i:=14) I kD (gZ I I I dC) dC ?_; refine SX.off (i:=15) I kD (gZ I I I dC) dC ?_; refine SX.off (i:=16) I kD (gZ I I I dC) dC ?_; refine SX.off (i:=17) I kD (gZ I I I dC) dC ?_; refine SX.off (i:=18) I kD (gZ I I I dC) dC ?_)
      | (refine SB.o (i:=10) I (cL call138 I (j4 E _ _ _ _ (aj A e.cell) [e.other] (by exact ha1) (by exact za5 hs2 (by assumption)) hal)) dC (.inr iR) ?_; rintro _ _ _ ⟨rfl,rfl,rfl⟩; refine SX.u (i:=11) I kD (SU.eq (v':=vb true) (SU.not I) (ze2 vb (by rw[zf7 hab]; rfl))) dC ?_; refine SX.u (i:=12) I kD (mV I) dC ?_; refine SX.off (i:=13) I kD (gZ I I I dC) dC ?_; refine SX.off (i:=14) I kD (gZ I I I dC) dC ?_; refine SX.off (i:=15) I kD (gZ I I I dC) dC ?_; refine SX.off (i:=16) I kD (gZ I I I dC) dC ?_; refine SX.off (i:=17) I kD (gZ I I I dC) dC ?_; refine SX.off (i:=18) I kD (gZ I I I dC) dC ?_)
      | (refine SB.offo (i:=19) I (gZ I I I dC) dC ⟨by assumption,(by exact .refl _)⟩ ?_; refine SX.off (i:=20) I kD (gZ I I I dC) dC ?_; refine SX.off (i:=21) I kD (gZ I I I dC) dC ?_; refine SX.u (i:=22) I kD (wT I I) dC ?_)
      | refine zd7 6 9 kD ?_ ?_
      | refine zd6 9 kD ?_
      | refine zd6 10 kD ?_
      | refine zd6 19 kD ?_
      | refine zd6 6 kD ?_
      | (refine SX.nil kD ?_; exact za9 _ ⟨I,I,(by rw[zf7 hab]; rfl),trivial⟩ rfl rfl hleB))
   rintro g1 hle1;try dsimp only at hle1 ⊢
   refine iQ I (fun hcond=>?_) (fun hcond=>?_)
   ·have hcode:dP A e=32:=by
     unfold dP;rw[hc,ho,Bool.and_true,zg1 rfl,zf9];rintro ⟨h1,h2⟩;rw[zf8 h1,zf7 h2] at hcond;cases hcond
    rw[hcode];refine rZ (aT I (rE (tR ?_)));exact za8 (.inl I) results109 I ⟨hle1,I,by rw[zf9 dC]; exact⟨[_,_,_,_],I⟩⟩
   ·rw[Bool.or_eq_false_iff,Bool.not_eq_false',zj6,decide_eq_false_iff_not] at hcond;obtain ⟨hab,hno⟩:=hcond;have hcode:dP A e=0:=by
     unfold dP;rw[hc,ho,Bool.and_true,zg1 rfl,zg1 ⟨hab,hno⟩]
    have hany:=hmem hab;have hne:¬ e.other=e.cell:=fun h=>hno (by rw[h,hab]; simp);rw[hcode];have hall1:=hall.mono fun _ _=>aw.mono hle1
    rcases fJ (fun _ _ h=>h.1) hall1 e.other with ⟨h1,_⟩ | ⟨cy,ry,h1,h2,h3⟩
    ·unfold am at ho;rw[h1] at ho;cases ho
    have hcs:bB A e=cy.sides:=by unfold bB am; rw[h1]; rfl
    have hch:eR A e=(cy.sides.eraseIdx (cy.sides.findIdx fun x=>decide (x.cell=e.cell))).map fun x=>(x.cell,-m3 cy.sides (cy.sides.findIdx fun x=>decide (x.cell=e.cell)) * x.sign):=by unfold eR; rw[hcs]
    rw[hch];rw[hcs] at hsg hlen hany;obtain ⟨yi,yd,yp,yn,yc⟩:=ry;obtain ⟨-,-,hys⟩:=h3;dsimp only at hys;have hyn:yn=cy.sides.length:=zc2 hys;subst hyn;have hidx:xO (fun x=>decide (x.cell=e.cell)) cy.sides=((cy.sides.findIdx fun x=>decide (x.cell=e.cell):Nat):Int):=zg1 hany;have hil:(cy.sides.findIdx fun x=>decide (x.cell=e.cell))<cy.sides.length:=by
     obtain ⟨x,hx,hx2⟩:=zj8.1 hany;exact List.findIdx_lt_length_of_exists ⟨x,hx,hx2⟩
    generalize hi0:(cy.sides.findIdx fun x=>decide (x.cell=e.cell))=i0 at *;have hgi:cy.sides[((i0:Nat):Int).toNat]?=some cy.sides[i0]:=gE hil;have hcsg:m3 cy.sides i0=cy.sides[i0].sign:=by unfold m3; rw[gE hil]; rfl
    have hs1:=hsg _ (gM hil);rw[hcsg];generalize cy.sides[i0]=z at *;obtain ⟨zc,zs⟩:=z;dsimp only at hs1 hcsg ⊢;have hneg:IntKind.i64.wrap (0 - zs) = -zs:=by rcases hs1 with h | h <;> subst h <;> decide
    have hby:=za6 hys oM;refine kP (tN (sQ ?_));refine dW [] [(0,2),(1,2),(2,2),(3,1),(4,2),(5,1),(6,1),(7,2),(8,2)] ze3 kR ?_;refine yM I (pU I (nC I) (pU I (fA de I eC I) (pK I (qL (v:=.map (some mb)) eD I (cO 1 I I)) (pU I (fA cY I zT3 I) (pK I (qL (v:=vi e.other) iT3 I (cO 0 I I)) (pK I (SQ.eq (v':=.agg #[vi yi,vi yd,.slice yp cy.sides.length yc]) (SQ.lookup mty125 I I (bJ.own 2 I)) (by rw[h2]; rfl)) ?_))))));refine pU I (SU.field au I cZ I I) (pU I (aS I) (pN (tN (sW I (lU (SU.mkFunc I) (lW (cL call168 I (uB E g1 _ _ _ cy.sides (fun x=>decide (x.cell=e.cell)) hys oM I (fun x=>DV E g1 _ b3 e _ _ x 0 I))) ?_))))));rintro _ _ _ ⟨rfl,rfl,rfl⟩;rw[hidx];refine aT I (rZ (aT I (sQ (sW I (lU (eN aY I) (lM I (tZ (bK (zb6 82 3 ?_)))))))));refine oP (ι:=Nat×PH×Value) (fun i=>[(0,pp bx 0),(3,pp b3 0),(5,.slice yp cy.sides.length yc),(6,vi i0),(7,i.2.2),(56,.slice yp cy.sides.length yc),(57,vi cy.sides.length),(58,vi i.1)]) (fun i=>i.2.1)
     (fun i=>rowA a6 82 i.2.2 (((cy.sides.take i.1).eraseIdx i0).map fun x=>(x.cell,-zs * x.sign))::pt b3 (.cells (edV e (.slice sp e.sides.length sc) (.slice qp e.pairs.length qc)) 42 (0,0))::edP bx (.slice p A.length c) mb ms false::mp mb (rs.map ah)::mp ms []::s)
     (fun i=>i.1≤cy.sides.length∧Le g1 i.2.1) (fun i=>cy.sides.length - i.1) (0,g1,.slice none 0 0) sB rfl rfl ⟨zf6 _,zb9 _⟩ ?_
    rintro ⟨k,g2,w⟩ ⟨hk,hle2⟩;dsimp only at hk hle2 ⊢;refine rZ (yL I (tZ (sQ ?_)));refine iP I (fun hlt=>?_) (fun hlt=>?_)
    ·have hkl:k<cy.sides.length:=oM;have hys2:=za5 hys hle2;have hgk:cy.sides[((k:Nat):Int).toNat]?=some cy.sides[k]:=gE hkl;have hsk:=hsg _ (gM hkl);have hes:i0≠k→((cy.sides.take (k+1)).eraseIdx i0).map (fun x=>(x.cell,-zs * x.sign))=((cy.sides.take k).eraseIdx i0).map (fun x=>(x.cell,-zs * x.sign))++[(cy.sides[k].cell,-zs * cy.sides[k].sign)]:=fun h=>by rw[Ah hkl h,zg5]; rfl
     have hee:i0=k→((cy.sides.take (k+1)).eraseIdx i0).map (fun x=>(x.cell,-zs * x.sign))=((cy.sides.take k).eraseIdx i0).map (fun x=>(x.cell,-zs * x.sign)):=fun h=>by subst h; rw[Ai hkl]
     have hel:(((cy.sides.take k).eraseIdx i0).map (fun x=>(x.cell,-zs * x.sign))).length≤64:=by
      rw[ze6];have:=List.length_eraseIdx_le (cy.sides.take k) i0;rw[ze4] at this;omega
     generalize cy.sides[k]=y at *;obtain ⟨yc1,ys1⟩:=y;dsimp only at hsk hes;have hpr : -9223372036854775808 ≤ -zs * ys1 ∧ -zs * ys1≤9223372036854775807:=by rcases hs1 with h | h <;> rcases hsk with h' | h' <;> subst h <;> subst h' <;> decide
     refine kP (tN (sQ (bK (sW I (lU (iA aY aI I I hby oM sL) ?_)))));refine lK (eA fh aI I (za7 hys2) hgk) (bW (aL zl3) fun b9=>?_);refine lA I (oZ (sK 0 aI I I I I I sB) ?_);refine tZ (sW I (lM I (lU (nQ I I) (tZ ?_))));refine iP I (fun hki=>?_) (fun hki=>?_)
     ·have hes':=hes oM;refine dW [14] [(0,2),(1,2),(2,1),(3,2),(4,2),(5,2),(6,2),(7,1),(8,2),(9,2),(10,1),(11,2),(12,0),(13,0),(14,0),(15,2)] ze3 kR ?_;refine yM I (pU I (fA dw I zT3 I) (pK I (qL (v:=vi yc1) iT3 I (cO 0 I I)) (yM I (yM I (pU I (iA aY aI I I hby oM sL) ?_)))));refine pU I (fC dw I zT3 I hby) (pK I (aZ (e:=encSide) (o:=1) (u:=vi zs) iT3 I (za7 hys2) hgi I) (pU I (SU.eq (v':=vi (-zs)) (SU.neg I) (ze2 vi hneg)) (pU I (fA dw I zT3 I) (pK I (qL (v:=vi ys1) iT3 I (cO 0 I I)) (pU I (SU.mul I I hpr) (SP.o I (cL call112 I (jW E g2 _ yc1 (-zs * ys1) hpr.1 oM)) dC (.inr iR) ?_))))));rintro _ g3 _ ⟨rfl,rfl,hle3⟩;refine SP.o I (bS sty77 I I I (ae ⟨I,trivial⟩) dC) dC (.inr iR) ?_;rintro _ _ _ ⟨b79,rfl,rfl,rfl⟩;refine SP.o I (aP (e:=a6) 1 (yc1,-zs * ys1) sty77 I I I I I oM oM) dC (.inl dC) ?_;rintro w' _ _ ⟨rfl,rfl⟩;refine pU I (aS I) (pN (bN (tN (rG (yD I (lM I (nL (dR (.cons _ (.refl _)) ?_))))))));exact ST.again (k+1,g3,w') sB I (by dsimp only; rw[hes']; rfl) ⟨by dsimp only; omega,hle2.trans hle3⟩ (by dsimp only; omega)
     ·have hee':=hee oM;refine kP (bN (tN (rG (yD I (lM I (nL (dR (.cons _ (.refl _)) ?_)))))));exact ST.again (k+1,g2,w) sB I (by dsimp only; rw[hee']) ⟨by dsimp only; omega,hle2⟩ (by dsimp only; omega)
    ·have hkk:cy.sides.take k=cy.sides:=tL oM;rw[hkk];have hput:dG (dG [] e.cell w) e.other (.slice none 0 0)=ii [(e.cell,w,(cy.sides.eraseIdx i0).map fun x=>(x.cell,-zs * x.sign)),(e.other,.slice none 0 0,[])]:=by
      show dG [(e.cell,w)] e.other _=_;unfold dG;rw[zf9 hne];rfl
     refine xI (tX (tX (bX (tN (sQ ?_)))));refine SC.drawT 3 [] [(0,2),(1,2),(2,2),(3,1),(4,2),(5,1),(6,2),(7,2),(8,2),(9,1),(10,2),(11,1),(12,2),(13,0),(14,2),(15,0),(16,0),(17,2),(18,0)] ze3 kR ?_;refine yM rfl (pU rfl (nC rfl) (pU rfl (fA de rfl sizeOf110 rfl) (pK rfl (qL (v:=.map (some ms)) isAgg110 rfl (cO 2 rfl rfl)) (pU rfl (fA cY rfl zT3 rfl) (pK rfl (qL (v:=vi e.cell) iT3 rfl (cO 1 rfl rfl)) (yM rfl (pU rfl (nC rfl) (pU rfl (fA de rfl sizeOf110 rfl) (pK rfl (qL (v:=.map (some ms)) isAgg110 rfl (cO 2 rfl rfl)) (pU rfl (fA cY rfl zT3 rfl) (pK rfl (qL (v:=vi e.other) iT3 rfl (cO 1 rfl rfl)) (yM rfl (SP.o rfl (SO.mapEntry 4 mty110 rfl rfl rfl) dC (.inr (by rintro _ _ _ ⟨st1,j1,l1,rfl,rfl,rfl,hk1,hp1⟩; exact⟨by exact zb9 _,(by exact f5 _ _ _ _)⟩)) ?_)))))))))))));rintro _ _ _ ⟨st1,j1,l1,rfl,rfl,rfl,hk1,hp1⟩;refine pU rfl (xT rfl rfl) (SP.on rfl (SO.entryStore 4 rfl rfl rfl rfl hk1) (.inr (by rintro _ _ _ ⟨rfl,rfl⟩; exact⟨by exact zb9 _,(by exact .cons_cons _ (.cons_cons _ (.cons_cons _ (List.nil_sublist _))))⟩)) ?_);rintro _ _ _ ⟨rfl,rfl⟩;rw[← hp1];refine SP.o rfl (SO.mapEntry 4 mty110 rfl rfl rfl) dC (.inr (by rintro _ _ _ ⟨st2,j2,l2,rfl,rfl,rfl,hk2,hp2⟩; exact⟨by exact zb9 _,(by exact .cons_cons _ (.cons_cons _ (.cons_cons _ (List.nil_sublist _))))⟩)) ?_;rintro _ _ _ ⟨st2,j2,l2,rfl,rfl,rfl,hk2,hp2⟩;refine pU rfl (xT rfl rfl) (SP.on rfl (SO.entryStore 4 rfl rfl rfl rfl hk2) (.inr (by rintro _ _ _ ⟨rfl,rfl⟩; exact⟨by exact zb9 _,(by exact .cons_cons _ (.cons_cons _ (.cons_cons _ (List.nil_sublist _))))⟩)) ?_);rintro _ _ _ ⟨rfl,rfl⟩;rw[← hp2,hput];refine pN (tN (sQ ?_));refine dW [6] [(0,2),(1,2),(2,2),(3,1),(4,2),(5,1),(6,0)] ze3 kR ?_;refine yM I (pU I (nC I) (pU I (fA de I eC I) (pK I (qL (v:=.map (some mb)) eD I (cO 2 I I)) (pU I (fA cY I zT3 I) (pK I (qL (v:=vi e.cell) iT3 I (cO 1 I I)) (SP.on I (SO.delete 3 mty125 I I I) (.inl dC) ?_))))));rintro _ _ _ ⟨rfl,rfl⟩;refine pN (tN (sQ ?_));refine dW [6] [(0,2),(1,2),(2,2),(3,1),(4,2),(5,1),(6,0)] ze3 kR ?_;refine yM I (pU I (nC I) (pU I (fA de I eC I) (pK I (qL (v:=.map (some mb)) eD I (cO 2 I I)) (pU I (fA cY I zT3 I) (pK I (qL (v:=vi e.other) iT3 I (cO 1 I I)) (SP.on I (SO.delete 3 mty125 I I I) (.inl dC) ?_))))));rintro _ _ _ ⟨rfl,rfl⟩;rw[o5,o5];refine pN (tN (rZ (aT rfl (rE (ST.facts fun ⟨w0,hw0⟩=>?_)))));obtain ⟨wp,wc,hwf⟩:=ag (e:=a6) (l:=(cy.sides.eraseIdx i0).map fun x=>(x.cell,-zs * x.sign)) (i:=0) hw0 rfl;clear hw0 w0;refine ST.nilRow 82 3 ?_;refine ST.to (g':=g2) (s':=edP bx (.slice p A.length c) mb ms false::mp mb ((oN (oN rs e.cell) e.other).map ah)::mp ms (ii [(e.cell,w,(cy.sides.eraseIdx i0).map fun x=>(x.cell,-zs * x.sign)),(e.other,.slice none 0 0,[])])::(di [(e.cell,w,(cy.sides.eraseIdx i0).map fun x=>(x.cell,-zs * x.sign)),(e.other,.slice none 0 0,[])]++s)) (fun w1 hw1=>?_) ?_
     ·have h5:=hw1.sublist (s':=rowA a6 82 (.slice none 0 0) []::rowA a6 82 w ((cy.sides.eraseIdx i0).map fun x=>(x.cell,-zs * x.sign))::([edP bx (.slice p A.length c) mb ms false,mp mb ((oN (oN rs e.cell) e.other).map ah),mp ms (ii [(e.cell,w,(cy.sides.eraseIdx i0).map fun x=>(x.cell,-zs * x.sign)),(e.other,.slice none 0 0,[])])]++s)) (.cons_cons _ (.cons_cons _ (.cons _ (.refl _))));refine h5.perm ((zk1 _ _ _).trans ?_);have h6:∀ (x y:Ent) (L:Own),(x::y::(L++s)).Perm (L++(x::y::s)):=fun x y L=>(List.perm_append_comm (l₁:=[x,y]) (l₂:=L)).append_right s |>.trans (by simp);exact h6 _ _ _
     exact za8 (.inl I) results109 I ⟨hle1.trans hle2,I,by rw[zg1 I]; exact⟨w,wp,_,wc,hwf,I⟩⟩
set_option maxHeartbeats 4000000
theorem SU.min2 {P:Program}{N:Nat}{f:Fr}{dst:Option Tmp}{ty:TypeId}{pos:String}{af:Array Edge}{gd:Option (Nat×Bool)}{x y:Operand}{T U:TypeId}{m n:Int}(hx:ev f x=some (vi m))(hy:ev f y=some (vi n)) :
  SU P N ⟨dst,.call ⟨.builtin .min,#[x,y],#[T,U]⟩,ty,pos,af,gd⟩ f (vi (min m n)):=fun a w ha=>by
 have h:=run_min_int2 (P:=P) (w:=w) #[T,U] ty .i64 .i64 m n;have h2:(if n<m then n else m)=min m n:=by split <;> omega
 rw[h2] at h;simp[execOp,resolve,invoke,builtin,ha.ev hx,ha.ev hy,h]
theorem sH (id:Int):∀ {B:List Cl} {rs:List Rc},aF kY B rs→(am B id=none∧df (rs.map ah) id=none)∨∃ (m:Nat) (c:Cl) (r:Rc),am B id=some c∧c.id=id∧df (rs.map ah) id=some (rcv r)∧kY c r∧(gy B rs)[m]?=some (Dd c r) ∧
  ∀ c' r',c'.id=id→r'.id=id→kY c' r'→(gy B rs).set m (Dd c' r')=gy (eE B c') (iZ rs r')∧aF kY (eE B c') (iZ rs r')
 | [],[],_=>.inl ⟨rfl,rfl⟩
 | c::B,r::rs,⟨h1,h2⟩=>by
  have hm:(r::rs).map ah=(r.id,rcv r)::rs.map ah:=rfl;rw[hm,bD];unfold am;rw[zi6];by_cases e:c.id=id
  ·rw[zf8 e,zg1 (by rw[h1.1,e])];refine .inr ⟨0,c,r,I,e,I,h1,I,fun c' r' e1 e2 h3=>?_⟩;have e3:eE (c::B) c'=c'::B:=by simp[eE,e,e1]
   have e4:iZ (r::rs) r'=r'::rs:=by simp[iZ,h1.1,e,e2]
   rw[e3,e4];exact⟨I,h3,h2⟩
  ·rw[zf7 e,zf9 (by rw[h1.1]; exact fun h=>e h.symm)]
   rcases sH id h2 with ⟨h3,h4⟩ | ⟨m,c0,r0,h3,h4,h5,h6,h7,h8⟩
   ·exact .inl ⟨h3,h4⟩
   ·refine .inr ⟨m+1,c0,r0,h3,h4,h5,h6,h7,fun c' r' e1 e2 h9=>?_⟩;have e':¬ id=c.id:=fun h=>e h.symm;have e3:eE (c::B) c'=c::eE B c':=by simp[eE,e',e1]
    have e4:iZ (r::rs) r'=r::iZ rs r':=by simp[iZ,h1.1,e',e2]
    rw[e3,e4];obtain ⟨h10,h11⟩:=h8 c' r' e1 e2 h9;exact⟨by show Dd c r::(gy B rs).set m _=_; rw[h10]; rfl,h1,h11⟩
 | [],_::_,h=>h.elim
 | _::_,[],h=>h.elim
def EX (l:List Side)(cell:Int):Int:=((l.find? fun x=>decide (x.cell=cell)).map Side.sign).getD 0
def eY (e:Ed)(y:Cl):Cl:=⟨y.id,y.dim,y.sides++[⟨e.other,EX y.sides e.cell⟩]⟩
def aV (A:List Cl)(e:Ed)(ids:List Int):List Cl:=A.map fun y=>if y.id∈ids then eY e y else y
theorem qe {e:Ed}{ids:List Int}{id:Int}(hid:id ∉ ids){y:Cl}:∀ {A:List Cl},(A.map Cl.id).Nodup→am A id=some y→eE (aV A e ids) (eY e y)=aV A e (ids++[id])
 | [],_,hy=>by cases hy
 | c::A,hn,hy=>by
  rw[zg4,zk3] at hn;unfold am at hy;rw[zi6] at hy;have hs:∀ i,aV (c::A) e i=(if c.id∈i then eY e c else c)::aV A e i:=fun _=>rfl;rw[hs,hs];by_cases h:c.id=id
  ·rw[zf8 h] at hy;injection hy with hy
   subst hy;subst h;rw[zf9 hid,zg1 (by simp)];have e1:eE (c::aV A e ids) (eY e c)=eY e c::aV A e ids:=by simp[eE,eY]
   rw[e1];congr 1;unfold aV;refine zc8 fun x hx=>?_;have hne:x.id≠c.id:=fun he=>hn.1 (by rw[← he]; exact zf2.2 ⟨x,hx,I⟩);by_cases h1:x.id∈ids
   ·rw[zg1 h1,zg1 (by simp[h1])]
   ·rw[zf9 h1,zf9 (by simp[h1,hne])]
  ·rw[zf7 h] at hy;have hyid:y.id=id:=by simpa using List.find?_some hy
   have ih:=qe (e:=e) hid hn.2 hy;have h1:(if c.id∈ids then eY e c else c).id=c.id:=by split <;> rfl
   have e1:∀ (d:Cl) (L:List Cl),d.id=c.id→eE (d::L) (eY e y)=d::eE L (eY e y):=fun d L hd=>by
    have:¬ (eY e y).id=d.id:=by rw[hd]; show ¬ y.id=c.id; rw[hyid]; exact fun h'=>h h'.symm
    simp[eE,this]
   rw[e1 _ _ h1,ih];congr 1;by_cases h2:c.id∈ids
   ·rw[zg1 h2,zg1 (by simp[h2])]
   ·rw[zf9 h2,zf9 (by simp[h2,h])]
theorem nV {A:List Cl}{e:Ed}{ids:List Int}{id:Int}(hid:id ∉ ids):am (aV A e ids) id=am A id:=by
 unfold am aV;rw[List.find?_map];have h1:((fun c:Cl=>decide (c.id=id)) ∘ fun y=>if y.id∈ids then eY e y else y)=fun c:Cl=>decide (c.id=id):=by
  funext c;simp only[Function.comp];split <;> rfl
 rw[h1];cases h:A.find? fun c=>decide (c.id=id) with
 | none=>rfl
 | some c =>
  have:c.id=id:=by simpa using List.find?_some h
  rw[Option.map_some,zf9 (by rw[this]; exact hid)]
def iz (l:List Side)(b:Bool):Side:=(l.find? fun x=>decide (0<x.sign) == b).getD ⟨0,0⟩
def aU (A:List Cl)(e:Ed):Int:=match am A e.cell with
 | none=>30
 | some c=>if c.dim≠1 then 21 else if min e.new e.other<1∨e.new=e.other then 1 else if (am A e.new).isSome||(am A e.other).isSome then 54 else 0
def fj (A:List Cl)(e:Ed):List Cl :=
 eE (eE (eE (aV A e (aj A e.cell)) ⟨e.new,0,[]⟩) ⟨e.other,1,[⟨e.new,-1⟩,iz ((am A e.cell).getD cJ).sides true]⟩) ⟨e.cell,1,[iz ((am A e.cell).getD cJ).sides false,⟨e.new,1⟩]⟩
theorem FM (E:World)(g:PH)(s:Own)(q:Option Addr)(c:Nat)(fv:Value)(l:List Side)(p:Side→Bool)(hv:Rd g s (.slice q l.length c) (l.flatMap encSide.enc))(hb:0<l.length→based (.slice q l.length c)=true)(hl:l.length<1099511627776)(hfv:fv.cells = #[fv])(hc:∀ x:Side,c4 Tryz.prog E fv [.agg #[vi x.cell,vi x.sign]] g s (fun r g' s'=>r=vb (p x)∧g=g'∧s=s')) :
  Ctr Tryz.prog E 168 #[.slice q l.length c,fv] g s (fun r g' s'=>r=vi (xO p l)∧g=g'∧s=s'):=by
 refine zb2 (args:=[.slice q l.length c,fv]) func168 I ntmps168 (bE I) ?_;refine rZ (aT I (sQ (sW I (lU (eN aY I) (lM I (tZ (bK ?_)))))));refine oP (ι:=Nat) (fun k=>[(0,.slice q l.length c),(1,fv),(7,vi l.length),(8,vi k)]) (fun _=>g) (fun _=>s)
  (fun k=>k≤l.length∧∀ j (hj:j<k) (hl:j<l.length),p l[j]=false) (fun k=>l.length - k) 0 sB rfl rfl ⟨zf6 _,fun j hj=>absurd hj oM⟩ ?_
 rintro k ⟨hk,hno⟩;try dsimp only at hk hno ⊢
 refine rZ (yL I (tZ (sQ ?_)));refine iP I (fun hlt=>?_) (fun hlt=>?_)
 ·have hkl:k<l.length:=oM;have hb1:=hb oM;have hgk:l[((k:Nat):Int).toNat]?=some l[k]:=gE hkl;have hhere:=fun h=>yx (p:=p) hkl (fun j hj=>hno j hj oM) h;have hsucc:p l[k]=false→∀ j (hj:j<k+1) (hl:j<l.length),p l[j]=false:=fun h j hj hl=>by
   by_cases e:j=k
   ·subst e; exact h
   ·exact hno j oM hl
  generalize l[k]=x at *;refine kP (tN (sQ (bK (sW I (aT I (sW I (lM I (lM I (lU (iA aY aI I I hb1 oM sL) (lK (eA fh aI I hv hgk) (lW (SO.callV I I (hc x)) ?_)))))))))));rintro _ _ _ ⟨rfl,rfl,rfl⟩;refine tZ ?_;refine iQ I (fun hp=>?_) (fun hp=>?_)
  ·refine sW I (aT I (rE (bR (tR (tR (bR (tR ?_)))))));exact za8 (.inl I) results168 I ⟨by rw[hhere hp],I,I⟩
  ·refine kP (bN (tN (rG (yD I (lM I (nL ?_))))));exact ST.again (k+1) sB I I ⟨oM,hsucc hp⟩ oM
 ·refine xI (tX (tX (bX (tN (rZ (aT I (rE ?_)))))));exact za8 (.inl I) results168 I ⟨by rw[yw fun j hj=>hno j oM hj],I,I⟩
theorem DU (E:World)(g:PH)(s:Own)(b3:Nat)(e:Ed)(sv pv:Value)(x:Side)(q:Nat)(hq:s[q]?=some (pt b3 (.cells (edV e sv pv) 42 (0,0)))) :
  c4 Tryz.prog E (.func (.func 169) #[] #[pp b3 0]) [.agg #[vi x.cell,vi x.sign]] g s (fun r g' s'=>r=vb (decide (x.cell=e.cell))∧g=g'∧s=s'):=by
 refine c4.mk (args:=[_]) (cap:=[pp b3 0]) call169 ?_;refine zb2 (args:=[.agg #[vi x.cell,vi x.sign],pp b3 0]) func169 I ntmps169 (bE I) ?_;refine rZ (bW (bO I) fun b2=>?_);refine aT I (rZ (lU (fA dw I zT3 I) (lK (qL (v:=vi x.cell) iT3 I (cO 0 I I)) (lU (fA cY I zT3 I) (lK (qL (v:=vi e.cell) iT3 I (cO (q+1) hq I)) (yE I (aT I (rE (dR (s':=s) uR ?_)))))))));exact za8 (.inl I) results169 I ⟨I,I,I⟩
theorem FK (E:World)(g:PH)(s:Own)(x:Side) :
  c4 Tryz.prog E (.func (.func 170) #[] #[]) [.agg #[vi x.cell,vi x.sign]] g s (fun r g' s'=>r=vb (decide (0<x.sign))∧g=g'∧s=s'):=by
 refine c4.mk (args:=[_]) (cap:=[]) call170 ?_;refine zb2 (args:=[.agg #[vi x.cell,vi x.sign]]) func170 I ntmps170 (bE I) ?_;refine rZ (bW (bO I) fun b1=>?_);refine aT I (rZ (lU (fA dw I zT3 I) (lK (qL (v:=vi x.sign) iT3 I (cO 0 I I)) (lU (gR I I) (aT I (rE (dR (s':=s) uR ?_)))))));exact za8 (.inl I) results170 I ⟨I,I,I⟩
theorem SC.freezeO {P:Program}{N:Nat}{E:World}{c:Code}{Q:Exit→Act→World→Prop}{f:Fr}{g:PH}{L s:Own}{A:List Cl}{rs:List Rc}(hO:aF kY A rs)
  (h:∀ g1,Le g g1→aF (aw g1) A rs→SC P N E c Q f g1 (L++s)):SC P N E c Q f g (L++(gy A rs++s)):=fun a w ha hw=>by
 have h1:(L++(gy A rs++s)).Perm (gy A rs++(L++s)):=by
  rw[← zg8,← zg8];exact List.perm_append_comm.append_right s
 obtain ⟨g1,h2,h3,h4⟩:=Go.Proofs.YtbbppeihhkhkcaaGreatDoor.freezeO hO (hw.perm h1);exact h g1 h2 h4 a w ha h3
theorem Fz {a b:Rc}(h:rcv a=rcv b):a=b:=by
 obtain ⟨ai,ad,ap,an,ac⟩:=a;obtain ⟨bi,bd,bp,bn,bc⟩:=b;simp[rcv] at h;obtain ⟨rfl,rfl,rfl,rfl,rfl⟩:=h;rfl
theorem Tryz.buildI56 (x:Int)(w:World):(Instr.build 56 #[(0,vi x)]).run Tryz.prog w = .ok (.agg #[vi x,vi 0,.slice none 0 0]) w:=by
 have h1:(vi x).cells = #[vi x]:=rfl;simp[Instr.build,Instr.fill,h1];rfl
theorem Fq {l:List Side}{cell:Int}{i:Nat}(hi:i<l.length)(h:(l.findIdx fun x=>decide (x.cell=cell))=i):EX l cell=l[i].sign:=by
 unfold EX;have h1:l.find? (fun x=>decide (x.cell=cell))=some l[i]:=by
  obtain ⟨h2,h3⟩:=(List.findIdx_eq hi).1 h;exact List.find?_eq_some_iff_getElem.2 ⟨h2,i,hi,I,fun j hj=>by rw[h3 j hj]; rfl⟩
 rw[h1];rfl
theorem FsQ {l:List Side}{z0 z1:Side}(hl:l=[z0,z1])(h:(z0.sign=1∧z1.sign = -1)∨(z0.sign = -1∧z1.sign=1)):∃ (i:Nat) (zE zO:Side),i<2∧xO (fun x=>decide (0<x.sign)) l=(i:Int)∧l[i]?=some zE∧l[1 - i]?=some zO∧iz l true=zE∧iz l false=zO:=by
 subst hl
 rcases h with ⟨h0,h1⟩ | ⟨h0,h1⟩
 ·exact⟨0,z0,z1,oM,by simp[xO,h0,h1,List.findIdx_cons],I,I,by simp[iz,h0,h1],by simp[iz,h0,h1]⟩
 ·exact⟨1,z1,z0,oM,by simp[xO,h0,h1,List.findIdx_cons],I,I,by simp[iz,h0,h1],by simp[iz,h0,h1]⟩
theorem zA (E:World)(g:PH)(s:Own)(bx mb ms:Nat)(u v:Value)(e:Ed)(A:List Cl)(rs:List Rc)(hu:ar g u A)(hf:ci A)(hn:(A.map Cl.id).Nodup)(hO:aF kY A rs)(he:EdR g v e)
  (hab:∀ id∈aj A e.cell,∃ y,am A id=some y∧y.sides.any (fun x=>decide (x.cell=e.cell))=true∧y.sides.length≤64) (habn:(aj A e.cell).Nodup) (hself:e.cell ∉ aj A e.cell)
  (hedge:∀ c,am A e.cell=some c→c.dim=1→∃ z0 z1,c.sides=[z0,z1]∧((z0.sign=1∧z1.sign = -1)∨(z0.sign = -1∧z1.sign=1))) :
  Ctr Tryz.prog E 107 #[pp bx 0,v] g (edP bx u mb ms false::mp mb (rs.map ah)::mp ms []::(gy A rs++s)) (fun r g' s'=>Le g g'∧r=vi (aU A e) ∧
   (if aU A e=0 then ∃ rs' v1 p n c,v1 = .slice p n c∧aF (aw g') (fj A e) rs'∧s'=edP bx u mb ms false::mp mb (rs'.map ah)::mp ms (ii [(e.cell,v1,[(e.cell,1),(e.other,1)])])::(di [(e.cell,v1,[(e.cell,1),(e.other,1)])]++s) else ∃ h,s'=h++s)):=by
 obtain ⟨sv,pv,rfl,hsv,hpv⟩:=he;obtain ⟨p,c,rfl⟩:=hu.form;have hsvf:=za4 hsv;have hpvf:=za4 hpv;obtain ⟨sp,sc,rfl⟩:=hsvf;obtain ⟨qp,qc,rfl⟩:=hpvf;have hHl:(aj A e.cell).length<1099511627776:=Nat.lt_of_le_of_lt (by unfold aj; rw[ze6]; exact zc5 _ _) (dv hf).1;refine zb2 (args:=[pp bx 0,.agg #[vi e.kind,vi e.cell,vi e.dim,vi e.new,vi e.other,.slice sp e.sides.length sc,.slice qp e.pairs.length qc]]) func107 I ntmps107 (bE I) ?_
 rcases sH e.cell hO with ⟨h1,h2⟩ | ⟨m0,c0,r0,h1,hcid,h2,hco,hrow0,-⟩
 ·have hcode:aU A e=30:=by unfold aU; rw[h1]
  rw[hcode];refine rZ (bW (bO I) fun b3=>?_);refine aT I (sQ ?_);refine dW [] [(0,2),(1,2),(2,2),(3,1),(4,2),(5,1),(6,1),(7,2),(8,2),(9,2),(10,0),(11,0),(12,2)] ze3 kR ?_;refine yM I (pU I (nC I) (pU I (fA de I eC I) (pK I (qL (v:=.map (some mb)) eD I (cO 1 I I)) (pU I (fA cY I zT3 I) (pK I (qL (v:=vi e.cell) iT3 I (cO 0 I I)) (pK I (SQ.eq (v':=.tuple #[.agg #[vi 0,vi 0,.slice none 0 0],vb false]) (SQ.lookupOk mty125 I I (bJ.own 2 I)) (by rw[h2]; rfl)) ?_))))));refine yM I (pU I (xT I I) (pU I (xT I I) (SP.o I (aL zl4) dC (.inr iR) ?_)));rintro _ _ _ ⟨b5,rfl,rfl,rfl⟩;refine SP.on I (sK 0 aq I I I I I sB) (.inr iR) ?_;rintro _ _ _ ⟨rfl,rfl⟩;refine pU I (aS I) (pN (tN (sQ (bK (sW I (lU (SU.not I) (aT I (za2 I (rZ (aT I (rE (bR (tR ?_)))))))))))));exact za8 (.inl I) results107 I ⟨zb9 _,I,by rw[zf9 dC]; exact⟨_::_::_::_::_::gy A rs,I⟩⟩
 obtain ⟨ri,rd,rp,rn,rc⟩:=r0;obtain ⟨e1,e2,e3⟩:=hco;dsimp only at e1 e2 e3;subst e1 e2 e3;refine rZ (bW (bO I) fun b3=>?_);refine aT I (sQ ?_);refine dW [] [(0,2),(1,2),(2,2),(3,1),(4,2),(5,1),(6,1),(7,2),(8,2),(9,2),(10,0),(11,0),(12,2)] ze3 kR ?_;refine yM I (pU I (nC I) (pU I (fA de I eC I) (pK I (qL (v:=.map (some mb)) eD I (cO 1 I I)) (pU I (fA cY I zT3 I) (pK I (qL (v:=vi e.cell) iT3 I (cO 0 I I)) (pK I (SQ.eq (v':=.tuple #[.agg #[vi c0.id,vi c0.dim,.slice rp c0.sides.length rc],vb true]) (SQ.lookupOk mty125 I I (bJ.own 2 I)) (by rw[h2]; rfl)) ?_))))));refine yM I (pU I (xT I I) (pU I (xT I I) (SP.o I (aL zl4) dC (.inr iR) ?_)));rintro _ _ _ ⟨b5,rfl,rfl,rfl⟩;refine SP.on I (sK 0 aq I I I I I sB) (.inr iR) ?_;rintro _ _ _ ⟨rfl,rfl⟩;refine pU I (aS I) (pN (tN (sQ (bK (sW I (lU (SU.not I) (aT I (za1 I (rZ (lU (fA au I zT3 I) (lK (qL iT3 I (cO 0 I I)) (lU (nQ I I) (aT I ?_)))))))))))));refine iP I (fun hd=>?_) (fun hd=>?_)
 ·have hcode:aU A e=21:=by unfold aU; rw[h1]; exact zg1 hd
  rw[hcode];refine rZ (aT I (rE (bR (tR ?_))));exact za8 (.inl I) results107 I ⟨zb9 _,I,by rw[zf9 dC]; exact⟨_::_::_::_::_::gy A rs,I⟩⟩
 have hd1:c0.dim=1:=Decidable.not_not.1 hd;by_cases hmin:min e.new e.other<1
 ·have hcode:aU A e=1:=by
   unfold aU;rw[h1];show (if c0.dim≠1 then (21:Int) else if min e.new e.other<1∨e.new=e.other then 1 else _)=1;rw[zf9 hd,zg1 (.inl hmin)]
  rw[hcode];refine rZ (lU (fA cY I zT3 I) (lK (qL (v:=vi e.new) iT3 I (cO 1 I I)) (lU (fA cY I zT3 I) (lK (qL (v:=vi e.other) iT3 I (cO 1 I I)) (lU (SU.min2 I I) (lU (SU.eq (v':=vb true) (lS I I) (ze2 vb (zf8 hmin))) (lM I (yA I (yA I (yA I (yA I (yA I (yP I (aT I (za2 I (rZ (aT I (rE (bR (tR ?_))))))))))))))))))));exact za8 (.inl I) results107 I ⟨zb9 _,I,by rw[zf9 dC]; exact⟨_::_::_::_::_::gy A rs,I⟩⟩
 refine rZ (lU (fA cY I zT3 I) (lK (qL (v:=vi e.new) iT3 I (cO 1 I I)) (lU (fA cY I zT3 I) (lK (qL (v:=vi e.other) iT3 I (cO 1 I I)) (lU (SU.min2 I I) (lU (SU.eq (v':=vb false) (lS I I) (ze2 vb (zf7 hmin))) (lM I (lY I I I (fA cY I zT3 I) (SL.gq (gT I I I dC) (qL (v:=vi e.new) iT3 I (cO 1 I I)) dC (lY I I I (fA cY I zT3 I) (SL.gq (gT I I I dC) (qL (v:=vi e.other) iT3 I (cO 1 I I)) dC (lY I I I (eQ I I) (yF I (aT I ?_))))))))))))));refine iP I (fun hne=>?_) (fun hne=>?_)
 ·have hcode:aU A e=1:=by
   unfold aU;rw[h1];show (if c0.dim≠1 then (21:Int) else if min e.new e.other<1∨e.new=e.other then 1 else _)=1;rw[zf9 hd,zg1 (.inr hne)]
  rw[hcode];refine rZ (aT I (rE (bR (tR ?_))));exact za8 (.inl I) results107 I ⟨zb9 _,I,by rw[zf9 dC]; exact⟨_::_::_::_::_::gy A rs,I⟩⟩
 have hcode:aU A e=if (am A e.new).isSome||(am A e.other).isSome then 54 else 0:=by
  unfold aU;rw[h1];show (if c0.dim≠1 then (21:Int) else if min e.new e.other<1∨e.new=e.other then 1 else if (am A e.new).isSome||(am A e.other).isSome then 54 else 0)=_;rw[zf9 hd,zf9 (fun h=>h.elim hmin hne)]
 rw[hcode];cases hnw:(am A e.new).isSome with
 | true =>
  have e54:(if (true||(am A e.other).isSome)=true then (54:Int) else 0)=54:=rfl;rw[e54];refine sW I (lU (fA cY I zT3 I) (lK (qL (v:=vi e.new) iT3 I (cO 1 I I)) (lW (cL call166 I (ce E g _ bx mb ms _ false e.new _ (fun _ _ h=>h.1) A rs hO 2 3 I I)) ?_)));rintro _ _ _ ⟨rfl,rfl,rfl⟩;rw[hnw];refine lM I (yA I (yA I (yA I (yA I (yP I (aT I (za2 I (rZ (aT I (rE (bR (tR ?_))))))))))));exact za8 (.inl I) results107 I ⟨zb9 _,I,by rw[zf9 dC]; exact⟨_::_::_::_::_::gy A rs,I⟩⟩
 | false =>
 rw[Bool.false_or];refine sW I (lU (fA cY I zT3 I) (lK (qL (v:=vi e.new) iT3 I (cO 1 I I)) (lW (cL call166 I (ce E g _ bx mb ms _ false e.new _ (fun _ _ h=>h.1) A rs hO 2 3 I I)) ?_)));rintro _ _ _ ⟨rfl,rfl,rfl⟩;rw[hnw];refine lM I (yC I (lY I I I (fA cY I zT3 I) (SL.gq (gT I I I dC) (qL (v:=vi e.other) iT3 I (cO 1 I I)) dC (SL.go (gT I I I dC) (cL call166 I (ce E g _ bx mb ms _ false e.other _ (fun _ _ h=>h.1) A rs hO 2 3 I I)) dC ?_))));rintro _ _ _ ⟨rfl,rfl,rfl⟩;refine yF I (aT I ?_);refine iQ I (fun hot=>?_) (fun hot=>?_)
 ·rw[zg1 hot];refine rZ (aT I (rE (bR (tR ?_))));exact za8 (.inl I) results107 I ⟨zb9 _,I,by rw[zf9 dC]; exact⟨_::_::_::_::_::gy A rs,I⟩⟩
 rw[zf9 (by rw[hot]; exact Bool.false_ne_true)];refine kP (bN (tN (sQ (sQ ?_))));refine dW [] [(0,2),(1,2),(2,2),(3,1),(4,2),(5,1),(8,2),(6,0),(7,2)] ze3 kR ?_;refine yM I (pU I (nC I) (pU I (fA de I aC I) (pK I (SQ.loadOne ba aC I (cO (v:=.slice p A.length c) 2 I I)) (pU I (fA cY I zT3 I) (pK I (qL (v:=vi e.cell) iT3 I (cO 1 I I)) (yM I (SP.o I (cL call167 I (fK E g _ _ A e.cell hu hf)) dC (.inr iR) ?_)))))));rintro _ g1 _ ⟨rfl,hle1,hav⟩;obtain ⟨qa,da,rfl⟩:=za4 hav;refine pU I (eN aH I) (pN (tN (bK ?_)));have hat0:aV A e []=A:=by simp[aV]
 refine oP (ι:=Nat×List Rc) (fun i=>[(0,pp bx 0),(3,pp b3 0),(5,pp b5 0),(60,.slice qa (aj A e.cell).length da),(61,vi (aj A e.cell).length),(62,vi i.1)]) (fun _=>g1)
  (fun i=>pt b5 (.cells #[vi c0.id,vi c0.dim,.slice rp c0.sides.length rc] 56 (0,0))::pt b3 (.cells (edV e (.slice sp e.sides.length sc) (.slice qp e.pairs.length qc)) 42 (0,0))::edP bx (.slice p A.length c) mb ms false::mp mb (i.2.map ah)::mp ms []::(gy (aV A e ((aj A e.cell).take i.1)) i.2++s))
  (fun i=>i.1≤(aj A e.cell).length∧aF kY (aV A e ((aj A e.cell).take i.1)) i.2∧df (i.2.map ah) e.cell=some (rcv ⟨c0.id,c0.dim,⟨rp,c0.sides.length,rc⟩⟩)) (fun i=>(aj A e.cell).length - i.1) (0,rs)
  sB rfl (by dsimp only; rw[List.take_zero,hat0]; rfl) ⟨zf6 _,by dsimp only; rw[List.take_zero,hat0]; exact hO,h2⟩ ?_
 rintro ⟨k,rs1⟩ ⟨hk,hO1,hg1⟩;dsimp only at hk hO1 hg1 ⊢;refine rZ (yL I (tZ (sQ ?_)));refine iP I (fun hlt=>?_) (fun hlt=>?_)
 ·have hkl:k<(aj A e.cell).length:=oM;have hba:=za6 hav oM;have hgk:(aj A e.cell)[((k:Nat):Int).toNat]?=some (aj A e.cell)[k]:=gE hkl;have htk:(aj A e.cell).take (k+1)=(aj A e.cell).take k++[(aj A e.cell)[k]]:=tS hkl;obtain ⟨y,hy1,hy2,hy3⟩:=hab _ (gM hkl);have hnot:(aj A e.cell)[k] ∉ (aj A e.cell).take k:=fun hm=>by
   obtain ⟨j,hj,hje⟩:=zc7 hm;rw[ze4] at hj;rw[List.getElem_take] at hje;have:=(List.getElem_inj habn).1 hje;omega
  have hne1:e.cell≠(aj A e.cell)[k]:=fun h=>hself (by have h9:=gM hkl; rwa [← h] at h9);have hput:=qe (e:=e) hnot hn hy1;rw[← htk] at hput;have hfd:=nV (e:=e) (A:=A) hnot;rw[hy1] at hfd;generalize hH1:(aj A e.cell).take (k+1)=H1 at *;generalize (aj A e.cell).take k=H0 at *;generalize (aj A e.cell)[k]=id at *
  rcases sH id hO1 with ⟨h3,_⟩ | ⟨m,y',r1,h3,hyid,h4,hco1,hrow1,hset1⟩
  ·rw[hfd] at h3; cases h3
  rw[hfd] at h3;injection h3 with h3
  subst h3;obtain ⟨si,sd,sp1,sn1,sc1⟩:=r1;obtain ⟨f1,f2,f3⟩:=hco1;dsimp only at f1 f2 f3;subst f1 f2 f3;subst hyid;have hm1:m<(gy (aV A e H0) rs1).length:=(zf5.1 hrow1).1;have hrow2:(gy (aV A e H0) rs1++s)[m]?=some (rowA encSide 75 (.slice sp1 y.sides.length sc1) y.sides):=by rw[zh2 hm1]; exact hrow1
  have hset2:∀ (q':Option Addr) (d':Nat) (x:Side),(eY e y).sides=y.sides++[x]→gy (aV A e H1) (iZ rs1 ⟨y.id,y.dim,⟨q',(y.sides++[x]).length,d'⟩⟩)++s=(gy (aV A e H0) rs1++s).set m (rowA encSide 75 (.slice q' (y.sides++[x]).length d') (y.sides++[x]))∧aF kY (aV A e H1) (iZ rs1 ⟨y.id,y.dim,⟨q',(y.sides++[x]).length,d'⟩⟩):=fun q' d' x hx=>by
   obtain ⟨h5,h6⟩:=hset1 (eY e y) ⟨y.id,y.dim,⟨q',(y.sides++[x]).length,d'⟩⟩ rfl rfl ⟨rfl,rfl,by dsimp only; rw[hx]⟩;rw[hput] at h5 h6;refine⟨?_,h6⟩;rw[← h5,List.set_append_left _ _ hm1];unfold Dd;rw[hx]
  have hidx:xO (fun x=>decide (x.cell=e.cell)) y.sides=((y.sides.findIdx fun x=>decide (x.cell=e.cell):Nat):Int):=zg1 hy2;have hil:(y.sides.findIdx fun x=>decide (x.cell=e.cell))<y.sides.length:=by
   obtain ⟨x,hx,hx2⟩:=zj8.1 hy2;exact List.findIdx_lt_length_of_exists ⟨x,hx,hx2⟩
  generalize hi0:(y.sides.findIdx fun x=>decide (x.cell=e.cell))=i0 at *;have hgi:y.sides[((i0:Nat):Int).toNat]?=some y.sides[i0]:=gE hil;have hws:(eY e y).sides=y.sides++[⟨e.other,y.sides[i0].sign⟩]:=by unfold eY; rw[Fq hil hi0]
  generalize y.sides[i0]=z at *;obtain ⟨zc,zs⟩:=z;dsimp only at hws;refine SC.facts fun ⟨w0,hw0⟩=>?_;obtain ⟨bb,cc,hbb⟩:=aW (i:=m+5) hw0 hrow2 oM;clear hw0 w0;have hby:based (.slice sp1 y.sides.length sc1)=true:=by rw[hbb]; rfl
  refine kP (tN (sQ (bK (rZ (lU (iA aH zT3 I I hba oM sL) (lK (eB iT3 I (za7 hav) hgk I) (aT I (sW I (lU (nC I) (lU (fA de I eC I) (lK (qL (v:=.map (some mb)) eD I (cO 2 I I)) (lM I (lK (SQ.eq (v':=.agg #[vi y.id,vi y.dim,.slice sp1 y.sides.length sc1]) (SQ.lookup mty125 I I (bJ.own 3 I)) (by rw[h4]; rfl)) ?_)))))))))))));refine bW (aL zl4) fun b9=>?_;refine oZ (sK 0 aq I I I I I sB) ?_;refine tZ (rZ (lU (fA au I bQ I) (lK (qL (v:=.slice sp1 y.sides.length sc1) cZ I (cO 0 I I)) (lU (SU.mkFunc I) (lW (cL call168 I (FM E g1 _ _ _ _ y.sides (fun x=>decide (x.cell=e.cell)) (zb7 (m+6) hrow2) (fun _=>hby) oM I (fun x=>DU E g1 _ b3 e _ _ x 2 I))) ?_)))));rintro _ _ _ ⟨rfl,rfl,rfl⟩;rw[hidx];refine aT I (sQ ?_);refine dW [12,14] [(0,2),(1,1),(2,2),(3,1),(4,2),(5,1),(6,2),(7,2),(8,2),(9,1),(10,2),(11,0),(12,0),(13,2),(14,0)] ze3 kR ?_;refine pU I (fA au I bQ I) (pK I (qL (v:=.slice sp1 y.sides.length sc1) cZ I (cO 0 I I)) (pU I (fA cY I zT3 I) (pK I (qL (v:=vi e.other) iT3 I (cO 2 I I)) (pU I (fA au I bQ I) (pK I (qL (v:=.slice sp1 y.sides.length sc1) cZ I (cO 0 I I)) (yM I (pU I (iA aY aI I I hby oM sL) ?_)))))));refine pU I (fC dw I zT3 I hby) (pK I (aZ (e:=encSide) (o:=1) (u:=vi zs) iT3 I (zb7 (m+6) hrow2) hgi I) (pU I (za3 I (buildS75 _ _)) (SP.o I (bS sty39 I I I (ae ⟨I,trivial⟩) dC) dC (.inr iR) ?_)));rintro _ _ _ ⟨b87,rfl,rfl,rfl⟩;refine SP.o I (aP (e:=encSide) (m+6) ⟨e.other,zs⟩ sty39 I I I hrow2 I oM oM) dC (.inl dC) ?_;rintro v88 _ _ ⟨rfl,rfl⟩;refine zd2 fun ⟨w0,hw0⟩=>?_;obtain ⟨q',d',rfl⟩:=ag (e:=encSide) (l:=y.sides++[(⟨e.other,zs⟩:Side)]) (i:=m+6) hw0 (Bi hrow2 _);clear hw0 w0;refine pU rfl (fA au rfl bQ rfl) (SP.on rfl (SO.store1 0 bQ rfl rfl rfl rfl (bE rfl) (by rfl)) (.inl dC) ?_);rintro _ _ _ ⟨rfl,rfl⟩;refine pN (tN ?_);obtain ⟨hown,hO2⟩:=hset2 q' d' ⟨e.other,zs⟩ hws;refine SC.to (g':=g1) (s':=pt b9 (.cells #[vi y.id,vi y.dim,.slice q' (y.sides++[(⟨e.other,zs⟩:Side)]).length d'] 56 (0,0))::pt b5 (.cells #[vi c0.id,vi c0.dim,.slice rp c0.sides.length rc] 56 (0,0))::pt b3 (.cells (edV e (.slice sp e.sides.length sc) (.slice qp e.pairs.length qc)) 42 (0,0))::edP bx (.slice p A.length c) mb ms false::mp mb (rs1.map ah)::mp ms []::(gy (aV A e H1) (iZ rs1 ⟨y.id,y.dim,⟨q',(y.sides++[(⟨e.other,zs⟩:Side)]).length,d'⟩⟩)++s)) (fun w hw=>by rw[hown]; exact hw) ?_;refine dW [6] [(0,2),(1,2),(2,2),(3,1),(4,2),(5,1),(6,0)] ze3 kR ?_;refine yM I (pU I (nC I) (pU I (fA de I eC I) (pK I (qL (v:=.map (some mb)) eD I (cO 3 I I)) (yM I (pK I (qV 0 dL aq I I I) (SP.on I (SO.mapUpdate 4 mty125 I I I I) (.inl dC) ?_))))));rintro _ _ _ ⟨rfl,rfl⟩;rw[show dG (rs1.map ah) y.id (.agg #[vi y.id,vi y.dim,.slice q' (y.sides++[(⟨e.other,zs⟩:Side)]).length d'])=(iZ rs1 ⟨y.id,y.dim,⟨q',(y.sides++[(⟨e.other,zs⟩:Side)]).length,d'⟩⟩).map ah from jg ⟨y.id,y.dim,⟨q',(y.sides++[(⟨e.other,zs⟩:Side)]).length,d'⟩⟩ rs1];refine pN (bN (tN (rG (yD I (lM I (nL (dR (.cons _ (.refl _)) ?_)))))));exact ST.again (k+1,iZ rs1 ⟨y.id,y.dim,⟨q',(y.sides++[(⟨e.other,zs⟩:Side)]).length,d'⟩⟩) sB I (by dsimp only; rw[hH1]; rfl) ⟨by dsimp only; omega,by dsimp only; rw[hH1]; exact hO2,by
   dsimp only;rw[← jg,mA,zf9 hne1];exact hg1⟩ (by dsimp only; omega)
 ·have hkk:(aj A e.cell).take k=aj A e.cell:=tL oM;rw[hkk] at hO1 ⊢;have hfe:=nV (e:=e) (A:=A) hself;rw[h1] at hfe;obtain ⟨z0,z1,hz,hzs⟩:=hedge c0 h1 hd1;obtain ⟨iE,zE,zO,hiE,hixE,hgE,hgO,heE,heO⟩:=FsQ hz hzs;have hl2:c0.sides.length=2:=by rw[hz]; rfl
  have hout:fj A e=eE (eE (eE (aV A e (aj A e.cell)) ⟨e.new,0,[]⟩) ⟨e.other,1,[⟨e.new,-1⟩,zE]⟩) ⟨e.cell,1,[zO,⟨e.new,1⟩]⟩:=by
   unfold fj;rw[h1];show eE (eE (eE (aV A e (aj A e.cell)) ⟨e.new,0,[]⟩) ⟨e.other,1,[⟨e.new,-1⟩,iz c0.sides true]⟩) ⟨e.cell,1,[iz c0.sides false,⟨e.new,1⟩]⟩=_;rw[heE,heO]
  rw[hout];refine xI (tX (tX (bX (tN (sQ (SC.freezeO (L:=[pt b5 (.cells #[vi c0.id,vi c0.dim,.slice rp c0.sides.length rc] 56 (0,0)),pt b3 (.cells (edV e (.slice sp e.sides.length sc) (.slice qp e.pairs.length qc)) 42 (0,0)),edP bx (.slice p A.length c) mb ms false,mp mb (rs1.map ah),mp ms []]) hO1 fun g2 hle2 hall2=>?_))))));refine SC.to (g':=g2) (s':=pt b5 (.cells #[vi c0.id,vi c0.dim,.slice rp c0.sides.length rc] 56 (0,0))::pt b3 (.cells (edV e (.slice sp e.sides.length sc) (.slice qp e.pairs.length qc)) 42 (0,0))::edP bx (.slice p A.length c) mb ms false::mp mb (rs1.map ah)::mp ms []::s) (fun w hw=>hw) ?_;have hsl:SlA encSide g2 (.slice rp c0.sides.length rc) c0.sides:=by
   rcases fJ (fun _ _ h=>h.1) hall2 e.cell with ⟨h5,_⟩ | ⟨c1,r1,h5,h6,h7⟩
   ·unfold am at hfe; rw[h5] at hfe; cases hfe
   ·rw[hg1] at h6; injection h6 with h6; have h8:=Fz h6; subst h8; unfold am at hfe; rw[h5] at hfe; injection hfe with hfe; subst hfe; exact h7.2.2
  generalize aV A e (aj A e.cell)=B0 at *;have hbE:=za6 hsl oM;have hgE':c0.sides[((iE:Nat):Int).toNat]?=some zE:=hgE;have hgO':c0.sides[((1 - (iE:Int)):Int).toNat]?=some zO:=by rw[show (1 - (iE:Int)).toNat=1 - iE by omega]; exact hgO
  refine rG (lU (fA au I bQ I) (lK (qL (v:=.slice rp c0.sides.length rc) cZ I (cO 0 I I)) (lW (cL call168 I (uB E g2 _ _ _ c0.sides (fun x=>decide (0<x.sign)) hsl oM I (fun x=>FK E g2 _ x))) ?_)));rintro _ _ _ ⟨rfl,rfl,rfl⟩;rw[hixE];refine aT I (sQ ?_);refine dW [9] [(0,2),(1,2),(2,2),(3,1),(4,2),(5,1),(6,2),(7,1),(8,2),(9,0)] ze3 kR ?_;refine yM I (pU I (nC I) (pU I (fA de I eC I) (pK I (qL (v:=.map (some mb)) eD I (cO 2 I I)) (pU I (fA cY I zT3 I) (pK I (qL (v:=vi e.new) iT3 I (cO 1 I I)) (pU I (fA cY I zT3 I) (pK I (qL (v:=vi e.new) iT3 I (cO 1 I I)) (pU I (za3 I (buildI56 _)) (SP.on I (SO.mapUpdate 3 mty125 I I I I) (.inl dC) ?_)))))))));rintro _ _ _ ⟨rfl,rfl⟩;rw[show dG (rs1.map ah) e.new (.agg #[vi e.new,vi 0,.slice none 0 0])=(iZ rs1 ⟨e.new,0,⟨none,0,0⟩⟩).map ah from jg ⟨e.new,0,⟨none,0,0⟩⟩ rs1];refine pN (tN (sQ ?_));have hall3:aF (aw g2) (eE B0 ⟨e.new,0,[]⟩) (iZ rs1 ⟨e.new,0,⟨none,0,0⟩⟩):=kh (fun _ _ h=>h.1) ⟨rfl,rfl,zc1 _ _⟩ hall2;generalize iZ rs1 ⟨e.new,0,⟨none,0,0⟩⟩=rs2 at *;generalize eE B0 ⟨e.new,0,[]⟩=B1 at *;refine dW [18] [(0,2),(1,2),(2,2),(3,1),(4,2),(5,1),(6,2),(7,1),(8,2),(9,1),(10,2),(11,2),(12,1),(13,2),(14,2),(15,1),(16,0),(17,2),(18,0)] ze3 kR ?_;refine yM I (pU I (nC I) (pU I (fA de I eC I) (pK I (qL (v:=.map (some mb)) eD I (cO 2 I I)) (pU I (fA cY I zT3 I) (pK I (qL (v:=vi e.other) iT3 I (cO 1 I I)) (pU I (fA cY I zT3 I) (pK I (qL (v:=vi e.other) iT3 I (cO 1 I I)) (pU I (fA cY I zT3 I) (pK I (qL (v:=vi e.new) iT3 I (cO 1 I I)) (pU I (za3 I (buildS75 _ _)) (pU I (fA au I bQ I) (pK I (qL (v:=.slice rp c0.sides.length rc) cZ I (cO 0 I I)) (yM I (pU I (iA aY aI I I hbE oM sL) (pK I (eA fh aI I (za7 hsl) hgE') (SP.o I (bS sty39 I I I (ae sB) dC) dC (.inr iR) ?_))))))))))))))));rintro _ _ _ ⟨b125,rfl,rfl,rfl⟩;refine SP.freeze fun g3 hle3 hb3=>?_;have hs3:SlA encSide g3 (.slice (some ⟨b125,0,none⟩) 2 2) [⟨e.new,-1⟩,zE]:=SlA.lit hb3 rfl rfl;refine pU I (za3 I (buildF56 _ _ _ I)) (SP.on I (SO.mapUpdate 3 mty125 I I I I) (.inl dC) ?_);rintro _ _ _ ⟨rfl,rfl⟩;rw[show dG (rs2.map ah) e.other (.agg #[vi e.other,vi 1,.slice (some ⟨b125,0,none⟩) 2 2])=(iZ rs2 ⟨e.other,1,⟨some ⟨b125,0,none⟩,2,2⟩⟩).map ah from jg ⟨e.other,1,⟨some ⟨b125,0,none⟩,2,2⟩⟩ rs2];refine pN (tN (sQ ?_));have hall4:aF (aw g3) (eE B1 ⟨e.other,1,[⟨e.new,-1⟩,zE]⟩) (iZ rs2 ⟨e.other,1,⟨some ⟨b125,0,none⟩,2,2⟩⟩):=kh (fun _ _ h=>h.1) ⟨rfl,rfl,hs3⟩ (hall3.mono fun _ _=>aw.mono hle3);have hsl3:=za5 hsl hle3;generalize iZ rs2 ⟨e.other,1,⟨some ⟨b125,0,none⟩,2,2⟩⟩=rs3 at *;generalize eE B1 ⟨e.other,1,[⟨e.new,-1⟩,zE]⟩=B2 at *;refine dW [19] [(0,2),(1,2),(2,2),(3,1),(4,2),(5,1),(6,2),(7,1),(8,2),(9,1),(10,2),(11,2),(12,2),(13,1),(14,2),(15,1),(16,2),(17,0),(18,2),(19,0)] ze3 kR ?_;refine yM I (pU I (nC I) (pU I (fA de I eC I) (pK I (qL (v:=.map (some mb)) eD I (cO 2 I I)) (pU I (fA cY I zT3 I) (pK I (qL (v:=vi e.cell) iT3 I (cO 1 I I)) (pU I (fA cY I zT3 I) (pK I (qL (v:=vi e.cell) iT3 I (cO 1 I I)) (pU I (fA au I bQ I) (pK I (qL (v:=.slice rp c0.sides.length rc) cZ I (cO 0 I I)) (yM I (pU I (sU I I oM) (pU I (iA aY aI I I hbE oM sL) (pK I (eA fh aI I (za7 hsl3) hgO') (pU I (fA cY I zT3 I) (pK I (qL (v:=vi e.new) iT3 I (cO 1 I I)) (pU I (za3 I (buildS75 _ _)) (SP.o I (bS sty39 I I I (ae sB) dC) dC (.inr iR) ?_)))))))))))))))));rintro _ _ _ ⟨b144,rfl,rfl,rfl⟩;refine SP.freeze fun g4 hle4 hb4=>?_;have hs4:SlA encSide g4 (.slice (some ⟨b144,0,none⟩) 2 2) [zO,⟨e.new,1⟩]:=SlA.lit hb4 rfl rfl;refine pU I (za3 I (buildF56 _ _ _ I)) (SP.on I (SO.mapUpdate 3 mty125 I I I I) (.inl dC) ?_);rintro _ _ _ ⟨rfl,rfl⟩;rw[show dG (rs3.map ah) e.cell (.agg #[vi e.cell,vi 1,.slice (some ⟨b144,0,none⟩) 2 2])=(iZ rs3 ⟨e.cell,1,⟨some ⟨b144,0,none⟩,2,2⟩⟩).map ah from jg ⟨e.cell,1,⟨some ⟨b144,0,none⟩,2,2⟩⟩ rs3];refine pN (tN (sQ ?_));have hall5:aF (aw g4) (eE B2 ⟨e.cell,1,[zO,⟨e.new,1⟩]⟩) (iZ rs3 ⟨e.cell,1,⟨some ⟨b144,0,none⟩,2,2⟩⟩):=kh (fun _ _ h=>h.1) ⟨rfl,rfl,hs4⟩ (hall4.mono fun _ _=>aw.mono hle4);generalize iZ rs3 ⟨e.cell,1,⟨some ⟨b144,0,none⟩,2,2⟩⟩=rs4 at *;refine dW [13] [(0,2),(1,2),(2,2),(3,1),(4,2),(5,1),(6,2),(7,1),(9,2),(10,1),(8,0),(11,0),(12,0),(13,0)] ze3 kR ?_;refine yM I (pU I (nC I) (pU I (fA de I sizeOf110 I) (pK I (qL (v:=.map (some ms)) isAgg110 I (cO 2 I I)) (pU I (fA cY I zT3 I) (pK I (qL (v:=vi e.cell) iT3 I (cO 1 I I)) (pU I (fA cY I zT3 I) (pK I (qL (v:=vi e.cell) iT3 I (cO 1 I I)) (pU I (fA cY I zT3 I) (pK I (qL (v:=vi e.other) iT3 I (cO 1 I I)) (SP.o I (cL call112 I (jW E g4 _ e.cell 1 dC dC)) dC (.inr iR) ?_))))))))));rintro _ g5 _ ⟨rfl,rfl,hle5⟩;refine SP.o rfl (cL call112 rfl (jW E g5 _ e.other 1 dC dC)) dC (.inr (by rintro _ g6 _ ⟨rfl,rfl,hle6⟩; exact⟨by exact Le.trans (by assumption) (by assumption),(by exact .refl _)⟩)) ?_;rintro _ g6 _ ⟨rfl,rfl,hle6⟩;have hle46:=hle5.trans hle6;refine SP.o I (bS sty77 I I I (ae sB) dC) dC (.inr iR) ?_;rintro _ _ _ ⟨b158,rfl,rfl,rfl⟩;refine SP.to (fun w hw=>At.litRow (e:=a6) (l:=[(e.cell,1),(e.other,1)]) (n:=1) hw I I dC) ?_;refine SP.on I (SO.mapUpdate 5 mty110 I I I I) (.inl dC) ?_;rintro _ _ _ ⟨rfl,rfl⟩;refine pN (tN (rZ (aT I (rE ?_))));refine ST.to (g':=g6) (s':=edP bx (.slice p A.length c) mb ms false::mp mb (rs4.map ah)::mp ms (ii [(e.cell,.slice (some ⟨b158,0,none⟩) 2 2,[(e.cell,1),(e.other,1)])])::(di [(e.cell,.slice (some ⟨b158,0,none⟩) 2 2,[(e.cell,1),(e.other,1)])]++s)) (fun w1 hw1=>?_) ?_
  ·have h5:=hw1.sublist (s':=rowA a6 82 (.slice (some ⟨b158,0,none⟩) 2 2) [(e.cell,1),(e.other,1)]::([edP bx (.slice p A.length c) mb ms false,mp mb (rs4.map ah),mp ms (ii [(e.cell,.slice (some ⟨b158,0,none⟩) 2 2,[(e.cell,1),(e.other,1)])])]++s)) (.cons_cons _ (.cons _ (.cons _ (.refl _))));exact h5.perm (zk2 (l₁:=[edP bx (.slice p A.length c) mb ms false,mp mb (rs4.map ah),mp ms (ii [(e.cell,.slice (some ⟨b158,0,none⟩) 2 2,[(e.cell,1),(e.other,1)])])])).symm
  exact za8 (.inl I) results107 I ⟨hle1.trans (hle2.trans (hle3.trans (hle4.trans hle46))),I,by rw[zg1 I]; exact⟨rs4,_,_,_,_,I,hall5.mono fun _ _=>aw.mono hle46,I⟩⟩
open Go Go.Sy Go.Pl Go.Proofs Go.Shelf Go.Sort
def Tryz.sortSd_ren:Ren :=
 {
  f:=fun x =>
   match x with
   | 6=>217
   | 15=>156
   | 14=>265
   | 28=>209
   | 29=>210
   | 20=>269
   | 21=>284
   | 22=>285
   | 23=>286
   | 24=>287
   | 25=>288
   | 26=>289
   | 27=>290
   | 46=>298
   | 47=>259
   | 48=>260
   | 49=>299
   | 50=>300
   | 57=>304
   | n=>n,
  t:=fun x =>
   match x with
   | 22=>39
   | 24=>75
   | 25=>215
   | 3=>3
   | 39=>203
   | 0=>0
   | 53=>239
   | 55=>145
   | 4=>4
   | 46=>233
   | 45=>232
   | 50=>149
   | 5=>5
   | 9=>9
   | 66=>270
   | 70=>274
   | 76=>292
   | 77=>293
   | n=>n,
  g:=fun x =>
   have n:=x;
   n }
theorem Tryz.sortSd:SlLaysF0.n6 Tryz.prog Tryz.sortSd_ren :=
  {
  mixed:=Eq.refl true,
  f6 :=
   Exists.intro "slices.SortFunc[[]cocycle/api.Side,cocycle/api.Side]"
    ⟨zg3 (id (Eq.refl true)),
     zb8 func217
      (ze2 some
       kR)⟩,
  f14 :=
   Exists.intro "slices.pdqsortCmpFunc[cocycle/api.Side]"
    ⟨zg3 (id (Eq.refl true)),
     zb8 func265
      (ze2 some
       kR)⟩,
  f15:=zb8 func156 (ze2 some kR),
  f20 :=
   Exists.intro "slices.insertionSortCmpFunc[cocycle/api.Side]"
    ⟨zg3 (id (Eq.refl true)),
     zb8 func269
      (ze2 some
       kR)⟩,
  f21 :=
   Exists.intro "slices.heapSortCmpFunc[cocycle/api.Side]"
    ⟨zg3 (id (Eq.refl true)),
     zb8 func284
      (ze2 some
       kR)⟩,
  f22 :=
   Exists.intro "slices.breakPatternsCmpFunc[cocycle/api.Side]"
    ⟨zg3 (id (Eq.refl true)),
     zb8 func285
      (ze2 some
       kR)⟩,
  f23 :=
   Exists.intro "slices.choosePivotCmpFunc[cocycle/api.Side]"
    ⟨zg3 (id (Eq.refl true)),
     zb8 func286
      (ze2 some
       kR)⟩,
  f24 :=
   Exists.intro "slices.reverseRangeCmpFunc[cocycle/api.Side]"
    ⟨zg3 (id (Eq.refl true)),
     zb8 func287
      (ze2 some
       kR)⟩,
  f25 :=
   Exists.intro "slices.partialInsertionSortCmpFunc[cocycle/api.Side]"
    ⟨zg3 (id (Eq.refl true)),
     zb8 func288
      (ze2 some
       kR)⟩,
  f26 :=
   Exists.intro "slices.partitionEqualCmpFunc[cocycle/api.Side]"
    ⟨zg3 (id (Eq.refl true)),
     zb8 func289
      (ze2 some
       kR)⟩,
  f27 :=
   Exists.intro "slices.partitionCmpFunc[cocycle/api.Side]"
    ⟨zg3 (id (Eq.refl true)),
     zb8 func290
      (ze2 some
       kR)⟩,
  f28:=zb8 func209 (ze2 some kR),
  f29:=zb8 func210 (ze2 some kR),
  f46 :=
   Exists.intro "slices.siftDownCmpFunc[cocycle/api.Side]"
    ⟨zg3 (id (Eq.refl true)),
     zb8 func298
      (ze2 some
       kR)⟩,
  f47:=zb8 func259 (ze2 some kR),
  f48:=zb8 func260 (ze2 some kR),
  f49 :=
   Exists.intro "slices.medianAdjacentCmpFunc[cocycle/api.Side]"
    ⟨zg3 (id (Eq.refl true)),
     zb8 func299
      (ze2 some
       kR)⟩,
  f50 :=
   Exists.intro "slices.medianCmpFunc[cocycle/api.Side]"
    ⟨zg3 (id (Eq.refl true)),
     zb8 func300
      (ze2 some
       kR)⟩,
  f57 :=
   Exists.intro "slices.order2CmpFunc[cocycle/api.Side]"
    ⟨zg3 (id (Eq.refl true)),
     zb8 func304
      (ze2 some
       kR)⟩,
  t0:=uT0,a0:=isAgg0,z0:=sizeOf0,v0:=zl2,t3:=uT3,
  a3:=iT3,z3:=zT3,v3:=zl1,t4:=uT4,a4:=iT4,
  z4:=zT4,v4:=zl9,t5:=uT5,a5:=isAgg5,z5:=sizeOf5,
  v5:=zeroValue5,t9:=uT9,a9:=isAgg9,z9:=sizeOf9,v9:=zeroValue9,
  t22:=aY,a22:=cZ,z22:=bQ,v22:=zeroValue39,
  t25:=underlying215,a25:=isAgg215,z25:=sizeOf215,v25:=zeroValue215,
  t39:=fV,a39:=isAgg203,z39:=sizeOf203,v39:=zeroValue203,
  t45:=underlying232,a45:=isAgg232,z45:=sizeOf232,v45:=zeroValue232,
  t46:=underlying233,a46:=isAgg233,z46:=sizeOf233,v46:=zeroValue233,
  t50:=underlying149,a50:=isAgg149,z50:=sizeOf149,v50:=zeroValue149,
  t53:=underlying239,a53:=isAgg239,z53:=sizeOf239,v53:=zeroValue239,
  t55:=mO,a55:=iS,z55:=dH,v55:=zeroValue145,
  t66:=underlying270,a66:=isAgg270,z66:=sizeOf270,v66:=zeroValue270,
  t70:=underlying274,a70:=isAgg274,z70:=sizeOf274,v70:=zeroValue274,
  t76:=underlying292,a76:=isAgg292,z76:=sizeOf292,v76:=zeroValue292,
  t77:=underlying293,a77:=isAgg293,z77:=sizeOf293,v77:=zeroValue293 }
instance:Inhabited Side:=⟨⟨0,0⟩⟩
def s9 (x y:Side):Int:=orI [jA x.cell y.cell,jA x.sign y.sign]
theorem gU (x y:Side):s9 x y<0↔x.cell<y.cell∨(x.cell=y.cell∧x.sign<y.sign):=by
 unfold s9 orI orI orI jA;split <;> split <;> (try split)<;>(try split)<;>simp_all <;> omega
theorem GQ:SWO (ltOf s9):=⟨fun x=>by simp[ltOf,gU],fun x y z h1 h2=>by simp[ltOf,gU] at *; omega,fun x y z h1 h2=>by simp[ltOf,gU] at *; omega⟩
def E6 (l:List Side):Prop:=l.Pairwise fun x y=>¬ s9 y x<0
theorem sb {l m:List Side}(hl:E6 l)(hm:E6 m)(hp:l.Perm m):l=m:=by
 refine hp.eq_of_pairwise (le:=fun x y=>¬ s9 y x<0) (fun x y _ _ h1 h2=>?_) hl hm;rw[gU] at h1 h2;obtain ⟨xc,xs⟩:=x;obtain ⟨yc,ys⟩:=y;dsimp only at h1 h2;have e1:xc=yc:=oM;have e2:xs=ys:=oM;rw[e1,e2]
theorem FV:GP Tryz.prog 218 encSide.enc s9:=by
 intro E g s x y;obtain ⟨x1,x2⟩:=x;obtain ⟨y1,y2⟩:=y;refine zb2 (args:=[.agg #[vi x1,vi x2],.agg #[vi y1,vi y2]]) func218 I ntmps218 (bE I) ?_;refine rZ (bW (bO I) fun b2=>?_);refine bW (bO I) fun b3=>?_;refine aT I (sQ ?_);refine dW [] [(0,2),(1,1),(2,2),(3,1),(5,2),(6,1),(7,2),(8,1),(4,0),(9,0),(10,0),(11,0),(12,2)] ze3 kR ?_;refine pU I (fA dw I zT3 I) (pK I (qL (v:=vi x1) iT3 I (cO 1 I I)) (pU I (fA dw I zT3 I) (pK I (qL (v:=vi y1) iT3 I (cO 0 I I)) (pU I (fA dw I zT3 I) (pK I (qL (v:=vi x2) iT3 I (cO 1 I I)) (pU I (fA dw I zT3 I) (pK I (qL (v:=vi y2) iT3 I (cO 0 I I)) (SP.o I (cL call90 I (ew E g _ x1 y1)) dC (.inr iR) ?_))))))));rintro _ _ _ ⟨rfl,rfl,rfl⟩;refine SP.o I (cL call90 I (ew E g _ x2 y2)) dC (.inr iR) ?_;rintro _ _ _ ⟨rfl,rfl,rfl⟩;refine SP.o I (bS sty52 I I I (ae sB) dC) dC (.inr iR) ?_;rintro _ _ _ ⟨b15,rfl,rfl,rfl⟩;refine SP.o I (cL call157 I (A7 E g _ _ [jA x1 y1,jA x2 y2] (Rd.pt 0 I) ⟨_,_,I⟩ (fun _=>I) (by simp))) dC (.inr iR) ?_;rintro _ _ _ ⟨rfl,rfl,rfl⟩;refine pU I (aS I) (pN (tN (rE (dR (s':=s) uR ?_))));exact za8 (.inl I) results218 I ⟨I,I,I⟩
theorem BR (E:World)(g:PH)(s:Own)(v:Value)(l:List Side)(i:Nat)(hi:s[i]?=some (rowA encSide 75 v l))(hl:l.length<1099511627776) :
  Ctr Tryz.prog E 217 #[v,.func (.func 218) #[] #[]] g s (fun _ g' s'=>g=g'∧∃ l',l'.Perm l∧E6 l'∧s'=s.set i (rowA encSide 75 v l')) :=
 x5 Tryz.sortSd encSide fh aI s9 GQ 218 call218 FV 75 E g s v l i hi hl
def gn (f:Int→Option Int)(x:Side):Side:=⟨(f x.cell).getD x.cell,x.sign⟩
theorem jH (E:World)(g:PH)(s:Own)(v:Value)(l:List Side)(bb:Nat)(pm:List (Int×Value))(f:Int→Option Int)(hv:SlA encSide g v l)(hl:l.length<1099511627776)(hb:Mp g bb pm)(hf:∀ k,df pm k=(f k).map vi) :
  Ctr Tryz.prog E 171 #[v,.map (some bb)] g s (fun r g' s'=>g=g'∧∃ l',l'.Perm (l.map (gn f))∧E6 l'∧s'=rowA encSide 75 r l'::s):=by
 obtain ⟨p,c,rfl⟩:=za4 hv;refine zb2 (args:=[.slice p l.length c,.map (some bb)]) func171 I ntmps171 (bE I) ?_;refine rZ (aT I (sW I (lW (cL call110 I (we E g _ _ l hv hl)) ?_)));rintro v11 _ _ ⟨rfl,rfl⟩;refine zd3 fun ⟨w0,hw0⟩=>?_;obtain ⟨q,d,rfl⟩:=ag (e:=encSide) (l:=l) (i:=0) hw0 rfl;have hbb:0<l.length→based (.slice q l.length d)=true:=fun h=>(by obtain ⟨b,c',hv'⟩:=aW (e:=encSide) (l:=l) (i:=0) hw0 rfl h; rw[hv']; rfl);clear hw0 w0;refine aT I (sQ (sW I (lU (eN aY I) (lM I (tZ (bK ?_))))));refine oP (ι:=Nat) (fun k=>[(1,.map (some bb)),(5,.slice q l.length d),(12,.slice q l.length d),(13,vi l.length),(14,vi k)]) (fun _=>g) (fun k=>rowA encSide 75 (.slice q l.length d) ((l.take k).map (gn f)++l.drop k)::s)
  (fun k=>k≤l.length) (fun k=>l.length - k) 0 sB rfl (by simp) (zf6 _) ?_
 rintro k hk;try dsimp only at hk ⊢
 refine rZ (yL I (tZ (sQ ?_)));refine iP I (fun hlt=>?_) (fun hlt=>?_)
 ·have hkl:k<l.length:=oM;have hb1:=hbb oM;have hcur:((l.take k).map (gn f)++l.drop k)[((k:Nat):Int).toNat]?=some l[k]:=by
   show ((l.take k).map (gn f)++l.drop k)[k]?=_;rw[zh3 (by rw[ze6,ze4]; omega),ze6,ze4,show k - min k l.length=0 by omega,zg6 hkl];rfl
  have hnext:(l.take (k+1)).map (gn f)++l.drop (k+1)=((l.take k).map (gn f)++l.drop k).set k (gn f l[k]):=by
   rw[tS hkl,zg5,zg8,List.set_append_right _ _ (by rw[ze6,ze4]; omega),ze6,ze4,show k - min k l.length=0 by omega];congr 1;rw[zg6 hkl];rfl
  have hself:f l[k].cell=none→((l.take k).map (gn f)++l.drop k).set k (gn f l[k])=(l.take k).map (gn f)++l.drop k:=fun h=>by
   have h2:gn f l[k]=l[k]:=by unfold gn; rw[h]; rfl
   rw[h2];exact om hcur
  have hlen2:((l.take k).map (gn f)++l.drop k).length=l.length:=by simp; omega
  generalize l[k]=x at *;obtain ⟨xc,xs⟩:=x;generalize hcu:(l.take k).map (gn f)++l.drop k=L at *;dsimp only at hself;cases hfx:f xc with
  | none =>
   refine kP (tN (sQ (bK (sW I (lU (iA aY aI I I hb1 oM sL) (lK (eA fh aI I (zb7 0 I) hcur) (bW (aL zl3) fun b7=>?_)))))));refine lA I (oZ (sK 0 aI I I I I I sB) ?_);refine tZ (sW I (lU (fA dw I zT3 I) (lK (qL (v:=vi xc) iT3 I (cO 0 I I)) (lK (SQ.eq (v':=.tuple #[vi 0,vb false]) (SQ.lookupOk mty167 I I (bJ.known hb)) (by rw[hf,hfx]; rfl)) ?_))));refine lM I (yX I (yX I (lA I (aT I (sW I (tZ (za1 I (kP (bN (tN (rG (yD I (lM I (nL (dR (.cons _ (.refl _)) ?_)))))))))))))));exact ST.again (k+1) sB I (by rw[hnext,hself hfx]) oM oM
  | some t =>
   have hrep:gn f ⟨xc,xs⟩=⟨t,xs⟩:=by unfold gn; rw[hfx]; rfl
   rw[hrep] at hnext;refine kP (tN (sQ (bK (sW I (lU (iA aY aI I I hb1 oM sL) (lK (eA fh aI I (zb7 0 I) hcur) (bW (aL zl3) fun b7=>?_)))))));refine lA I (oZ (sK 0 aI I I I I I sB) ?_);refine tZ (sW I (lU (fA dw I zT3 I) (lK (qL (v:=vi xc) iT3 I (cO 0 I I)) (lK (SQ.eq (v':=.tuple #[vi t,vb true]) (SQ.lookupOk mty167 I I (bJ.known hb)) (by rw[hf,hfx]; rfl)) ?_))));refine lM I (yX I (yX I (lA I (aT I (sW I (tZ (za2 I (rG (lM I (lM I (lM I (lU (iA aY aI I I hb1 oM sL) (lU (fC dw I zT3 I hb1) (oZ (SO.partA (e:=encSide) (o:=0) 1 (⟨t,xs⟩:Side) zT3 I I I hcur I I dC I) (nL (bN (tN (rG (yD I (lM I (nL (dR (.cons _ (.refl _)) ?_))))))))))))))))))))));exact ST.again (k+1) sB I (by rw[hnext]; rfl) oM oM
 ·have hall:(l.take k).map (gn f)++l.drop k=l.map (gn f):=by
   rw[tL oM,List.drop_of_length_le oM,zc6]
  rw[hall];refine xI (tX (tX (bX (tN (sW I (lW (cL call217 I (BR E g _ _ (l.map (gn f)) 0 I (by rw[ze6]; exact hl))) ?_))))));rintro _ _ _ ⟨rfl,l',hp,ha,rfl⟩;refine tZ (sW I (aT I (rE ?_)));exact za8 (.inl I) results171 I ⟨I,l',hp,ha,I⟩
end Go.Proofs.YtbbppeihhkhkcaaGreatDoor
namespace Go.Sy
open Go Go.MapKept
section
variable {P:Program}{N:Nat}{E:World}{f:Fr}{g:PH}{s:Own}{dst:Option Tmp}{ty:TypeId}{pos:String}{af:Array Edge}{gd:Option (Nat×Bool)}
variable {t kt et:TypeId}{m r clk:Nat}{es:Array MapEntry}{vis:List MapEntry}{x y u:Operand}{l vl:List (Int×Value)}{z:Value}{b:Nat}{k:Int}{v:Value}
abbrev mx (b:Nat)(es:Array MapEntry)(clk:Nat):Ent:=pt b (.map es clk)
theorem vv (j:Nat)(hj:s[j]?=some (mx m es clk)):∀ w,At E g s w→w.heap[m]?=some (.map es clk):=fun w hw=>by
 have:=hw.own _ (zg2 hj);simpa [mx,pt] using this
theorem At.openMap {w:World}{i:Nat}(hi:s[i]?=some (mp b l))(h:At E g s w):∃ es clk,jn l es clk∧At E g (s.set i (mx b es clk)) w:=by
 obtain ⟨es,clk,h1,h2⟩:=h.own _ (zg2 hi);have hf:=h.fresh _ (zg2 hi);exact⟨es,clk,h2,h.turn hi I ⟨I,lR _⟩ I (lR _) (fun _ _ _=>I) (by simpa [mx,pt,mp] using h1) (fun b' hb'=>⟨(hf b' hb').2,.inl hb'⟩)⟩
theorem At.closeMap {w:World}{i:Nat}(hi:s[i]?=some (mx b es clk))(hI:jn l es clk)(h:At E g s w):At E g (s.set i (mp b l)) w:=by
 have h1:=h.own _ (zg2 hi);have hf:=h.fresh _ (zg2 hi);exact h.turn hi I ⟨I,lR _⟩ I (lR _) (fun _ _ _=>I) ⟨es,clk,by simpa [mx,pt,mp] using h1,hI⟩ (fun b' hb'=>⟨(hf b' hb').2,.inl hb'⟩)
theorem SC.openMap {c:Code}{Q:Exit→Act→World→Prop}(i:Nat)(hi:s[i]?=some (mp b l))(h:∀ es clk,jn l es clk→SC P N E c Q f g (s.set i (mx b es clk))):SC P N E c Q f g s:=fun a w ha hw=>by
 obtain ⟨es,clk,h1,h2⟩:=hw.openMap hi;exact h es clk h1 a w ha h2
theorem ST.closeMap {e:Exit}{Q:Exit→Act→World→Prop}(i:Nat)(hi:s[i]?=some (mx b es clk))(hI:jn l es clk)(h:ST N E Q e f g (s.set i (mp b l))):ST N E Q e f g s:=fun a w ha hw=>h a w ha (hw.closeMap hi hI)
theorem SO.rangeG (hT:P.underlying t=some (.map kt et))(hx:ev f x=some (.map (some m)))(hmm:∀ w,At E g s w→w.heap[m]?=some (.map es clk)) :
  SO P N E ⟨dst,.range t x,ty,pos,af,gd⟩ f g s fun u g' s'=>∃ r,u=pp r 0∧g=g'∧s'=eW r m es clk []::s :=
 SO.of_run fun a w ha hw=>⟨pp w.heap.size 0,{ w with heap:=w.heap.push (.mapIter (some m) clk #[] clk) },g,eW w.heap.size m es clk []::s,by
  have hb:=hmm w hw;simp[execOp,ha.ev hx,Instr.range,run_underlying hT,MapKept.run_getObj_map hb],hw.alloc (e:=eW w.heap.size m es clk []) rfl rfl,_,rfl,rfl,rfl⟩
theorem SO.nextG (i:Nat)(hx:ev f x=some (pp r 0))(hi:s[i]?=some (eW r m es clk vis))(hmm:∀ w,At E g s w→w.heap[m]?=some (.map es clk))(hst:Stamped es clk)(hv:Vis es vis) :
  SO P N E ⟨dst,.next x false,ty,pos,af,gd⟩ f g s fun u g' s'=>g=g' ∧
   ((u = .tuple #[.bool false]∧s=s'∧∀ e∈es.toList,e∈vis)∨∃ e,e∈es.toList∧e.born ∉ vis.map (·.born)∧u = .tuple #[.bool true,e.key,e.val]∧s'=s.set i (eW r m es clk (vis++[e]))) :=
 SO.of_run fun a w ha hw=>by
  have hit:=hw.own _ (zg2 hi);have hb:=hmm w hw;have hr:w.heap[r]?=some (.mapIter (some m) clk (vis.map (·.born)).toArray clk):=by simpa [eW] using hit
  have hget:(getObj r).run P w = .ok (.mapIter (some m) clk (vis.map (·.born)).toArray clk) w:=by simp[getObj,Sem.run,hr]
  have hold:∀ e∈es.toList,e.born<clk:=hst.1;have hall:(es.all (·.born≥clk))=true→es = #[]:=fun h=>by
   rw[Array.all_eq_true_iff_forall_mem] at h;apply Array.eq_empty_of_size_eq_zero;cases hsz:es.size with
   | zero=>rfl
   | succ q =>
    exfalso;have h0:0<es.size:=oM;have h1:=h es[0] (Array.getElem_mem h0);have h2:=hold es[0] (by simp);simp at h1;omega
  have hfl:(es.filter fun e=>!(vis.map (·.born)).toArray.contains e.born).filter (·.born<clk)=es.filter fun e=>!(vis.map (·.born)).toArray.contains e.born:=by
   apply Array.ext';simp only[Array.toList_filter];rw[List.filter_eq_self];intro e he;have:=hold e (zh4.1 he).1;simpa using this
  have hfn:(es.filter fun e=>!(vis.map (·.born)).toArray.contains e.born).filter (·.born≥clk) = #[]:=by
   apply Array.ext';simp only[Array.toList_filter];rw[List.filter_eq_nil_iff];intro e he;have:=hold e (zh4.1 he).1;simp; omega
  generalize hL:es.filter (fun e=>!(vis.map (·.born)).toArray.contains e.born)=left at hfl hfn;have hmem:∀ e,e∈left.toList↔e∈es.toList∧e.born ∉ vis.map (·.born):=fun e=>by
   rw[← hL];simp
  have hguard:(!(vis.map (·.born)).toArray.isEmpty && !es.isEmpty&&es.all (·.born≥clk))=false:=by
   cases h1:es.all (·.born≥clk) with
   | false=>simp
   | true=>rw[hall h1]; simp
  have hfresh:=hw.fresh _ (zg2 hi) r rfl;by_cases hempty:left = #[]
  ·-- none is left
   refine⟨.tuple #[.bool false],w,g,s,?_,hw,I,.inl ⟨I,I,fun e he=>?_⟩⟩
   ·simp only[execOp,ha.ev hx,Instr.next,Sem.run_bind,hget,zd1,MapKept.run_getObj_map hb,hguard,Bool.false_eq_true,if_false,Sem.run_pure,hL,hfl,hfn,hempty];simp[choose,Sem.run,Question.forced]
   ·by_cases hin:e.born∈vis.map (·.born)
    ·obtain ⟨e',he',heq⟩:=zf2.1 hin;rw[← oH hst (hv.sub e' he') he heq];exact he'
    ·have:=(hmem e).2 ⟨he,hin⟩;rw[hempty] at this;simp at this
  ·have hsz:0<left.size:=by
    rcases Nat.eq_zero_or_pos left.size with h | h
    ·exact absurd (Array.eq_empty_of_size_eq_zero h) hempty
    ·exact h
   have hcand:((if left.isEmpty then #[none] else #[])++(left ++ #[]).map some:Array (Option MapEntry))=left.map some:=by
    have:left.isEmpty=false:=by simpa using hempty
    simp[this]
   -- the entry that is drawn
   have hch:∃ (q:Nat) (w':World),(choose (.mapNext left.size)).run P w = .ok q w'∧q<left.size∧∃ n,w.drawn≤n∧w'={ w with drawn:=n }:=by
    by_cases h1:left.size≤1
    ·exact⟨0,w,by simp[choose,Sem.run,Question.forced,h1],hsz,w.drawn,lR _,I⟩
    ·exact⟨_,_,by simp[choose,Sem.run,Question.forced,h1,Question.cut]; rfl,Nat.mod_lt _ hsz,w.drawn+1,Nat.le_succ _,rfl⟩
   obtain ⟨q,w',hq1,hq2,n,hq0,hq3⟩:=hch;have hr':w'.heap[r]?=some (.mapIter (some m) clk (vis.map (·.born)).toArray clk):=by rw[hq3]; exact hr
   have hset:(setObj r (.mapIter (some m) clk ((vis.map (·.born)).toArray.push left[q].born) clk)).run P w' = .ok () { w' with heap:=w'.heap.setIfInBounds r (.mapIter (some m) clk ((vis.map (·.born)).toArray.push left[q].born) clk) }:=by
    simp[setObj,Sem.run,hr']
   have hin:left[q]∈left.toList:=by simp
   refine⟨.tuple #[.bool true,left[q].key,left[q].val],{ w' with heap:=w'.heap.setIfInBounds r (.mapIter (some m) clk ((vis.map (·.born)).toArray.push left[q].born) clk) },g,s.set i (eW r m es clk (vis++[left[q]])),?_,?_,I,.inr ⟨left[q],((hmem _).1 hin).1,((hmem _).1 hin).2,I,I⟩⟩
   ·simp only[execOp,ha.ev hx,Instr.next,Sem.run_bind,hget,zd1,MapKept.run_getObj_map hb,hguard,Bool.false_eq_true,if_false,Sem.run_pure,hL,hfl,hfn];rw[hcand];simp only[Array.size_map,hq1,zd1];have hg2:(left.map some)[q]?=some (some left[q]):=by simp[hq2]
    simp only[hg2,Sem.run_bind,hset,zd1,Sem.run_pure]
   ·have hw2:At E g s w':=by rw[hq3]; exact hw.drew n hq0
    have hlt:r<w'.heap.size:=by rw[hq3]; exact hfresh.2
    refine hw2.turn hi I ⟨I,(by exact lR _)⟩ I (by simp) (fun k _ hk=>by simp only[Array.getElem?_setIfInBounds_ne (fun e=>hk (by simp[eW,e]):r≠k)]) ?_ (fun b' hb'=>?_)
    ·simp[eW,hlt]
    ·simp only[eW,zg7] at hb';subst hb';exact⟨by simpa using hlt,.inl I⟩
theorem SQ.entryG {e:MapEntry}(i:Nat)(hx:ev f x=some (pp r 0))(hi:s[i]?=some (eW r m es clk (vis++[e])))(hmm:∀ w,At E g s w→w.heap[m]?=some (.map es clk))(hst:Stamped es clk)(he:e∈es.toList) :
  SQ P N E ⟨dst,.entry x,ty,pos,af,gd⟩ f g s (.tuple #[e.key,e.val]):=fun a w ha hw=>by
 have hit:=hw.own _ (zg2 hi);have hb:=hmm w hw;have hr:w.heap[r]?=some (.mapIter (some m) clk ((vis++[e]).map (·.born)).toArray clk):=by simpa [eW] using hit
 have hget:(getObj r).run P w = .ok (.mapIter (some m) clk ((vis++[e]).map (·.born)).toArray clk) w:=by simp[getObj,Sem.run,hr]
 have hback:((vis++[e]).map (·.born)).toArray.back?=some e.born:=by simp
 have hfind:es.find? (·.born == e.born)=some e:=by
  rw[← Array.find?_toList];have h1:(es.toList.find? (·.born == e.born)).isSome:=by
   rw[List.find?_isSome];exact⟨e,he,by simp⟩
  obtain ⟨e',he'⟩:=zh8.1 h1;have h2:=List.find?_some he';have h3:=zk7 he';rw[he',oH hst h3 he (by simpa using h2)]
 simp[execOp,ha.ev hx,Instr.entry,hget,MapKept.run_getObj_map hb,hfind]
theorem SO.nextPG (i:Nat)(hx:ev f x=some (pp r 0))(hi:s[i]?=some (eW r m es clk vis))(hmm:∀ w,At E g s w→w.heap[m]?=some (.map es clk))(hI:jn l es clk)(hv:kU l es vis vl) :
  SO P N E ⟨dst,.next x false,ty,pos,af,gd⟩ f g s fun u g' s'=>g=g' ∧
   ((u = .tuple #[.bool false]∧s=s'∧vl.Perm l)∨∃ e p,e∈es.toList∧p∈l∧e.key=vi p.1∧e.val=p.2∧kU l es (vis++[e]) (vl++[p])∧u = .tuple #[.bool true,vi p.1,p.2]∧s'=s.set i (eW r m es clk (vis++[e]))):=by
 refine SO.mono (SO.nextG i hx hi hmm hI.2 hv.ok) ?_;rintro u g' s' ⟨rfl,h⟩;refine⟨I,?_⟩
 rcases h with ⟨h1,h2,h3⟩ | ⟨e,h1,h2,h3,h4⟩
 ·exact .inl ⟨h1,h2,hv.all hI h3⟩
 ·have hp:im e∈l.map eT:=by rw[← hI.1]; exact zf2.2 ⟨e,h1,I⟩
  obtain ⟨p,hp1,hp2⟩:=zf2.1 hp;simp only[im,eT,Prod.mk.injEq] at hp2;refine .inr ⟨e,p,h1,hp1,hp2.1.symm,hp2.2.symm,⟨⟨?_,?_⟩,?_⟩,by rw[h3,hp2.1,hp2.2],h4⟩
  ·intro a ha
   rcases zf3.1 ha with h5 | h5
   ·exact hv.ok.sub a h5
   ·simp at h5; rw[h5]; exact h1
  ·rw[zg5,List.nodup_append];refine⟨hv.ok.nodup,by simp,fun a ha b hb hab=>?_⟩;simp at hb;rw[hab,hb] at ha;exact h2 ha
  ·rw[zg5,zg5,hv.eq];simp[im,eT,hp2.1,hp2.2]
theorem SQ.entryPG {e:MapEntry}{p:Int×Value}(i:Nat)(hx:ev f x=some (pp r 0))(hi:s[i]?=some (eW r m es clk (vis++[e])))(hmm:∀ w,At E g s w→w.heap[m]?=some (.map es clk))(hI:jn l es clk)(he:e∈es.toList)(hk:e.key=vi p.1)(hv:e.val=p.2) :
  SQ P N E ⟨dst,.entry x,ty,pos,af,gd⟩ f g s (.tuple #[vi p.1,p.2]):=by
 have:=SQ.entryG (P:=P) (N:=N) (E:=E) (f:=f) (s:=s) (dst:=dst) (ty:=ty) (pos:=pos) (af:=af) (gd:=gd) i hx hi hmm hI.2 he;rw[hk,hv] at this;exact this
def AD (k:Int)(v:Value)(p:Int×Value):Int×Value:=if p.1=k then (k,v) else p
def unK:Value→Option Int
 | .int .i64 n=>some n
 | _=>none
theorem Gi (a:Int):unK (vi a)=some a:=rfl
theorem Gj {x:Value}{k:Int}(h:unK x=some k):x=vi k:=by
 unfold unK at h;split at h
 ·injection h with h
  rw[h]
 ·cases h
def oL (k:Int)(v:Value)(e:MapEntry):MapEntry:=if unK e.key=some k then { e with key:=vi k,val:=v } else e
theorem t6 (k:Int)(v:Value)(e:MapEntry):(oL k v e).born=e.born:=by unfold oL; split <;> rfl
theorem pd (k:Int)(v:Value):∀ (vis:List MapEntry) (vl:List (Int×Value)),vis.map im=vl.map eT→(vis.map (oL k v)).map im=(vl.map (AD k v)).map eT
 | [],[],_=>rfl
 | e::vis,(a,u)::vl,h=>by
  simp only[zg4,List.cons.injEq,im,eT,Prod.mk.injEq] at h;obtain ⟨⟨h1,h2⟩,h3⟩:=h;have ih:=pd k v vis vl h3;simp only[zg4,List.cons.injEq];refine⟨?_,ih⟩;unfold oL AD;by_cases hk:a=k
  ·subst hk;rw[zg1 (by rw[h1]; rfl),zg1 rfl];rfl
  ·have h4:¬ unK e.key=some k:=fun h5=>by
    rw[h1,Gi] at h5;injection h5 with h6
    exact hk h6
   rw[zf9 h4,zf9 hk];simp[im,eT,h1,h2]
 | [],_::_,h=>by simp at h
 | _::_,[],h=>by simp at h
theorem SO.mapUpdateX (j:Nat)(hT:MTy P t kt et z)(hx:ev f x=some (.map (some b)))(hy:ev f y=some (vi k))(hu:ev f u=some v)(hj:s[j]?=some (mx b es clk))(hI:jn l es clk)(hk:∃ u,df l k=some u) :
  SO P N E ⟨dst,.mapUpdate t x y u,ty,pos,af,gd⟩ f g s fun _ g' s'=>g=g'∧∃ es',s'=s.set j (mx b es' clk)∧jn (dG l k v) es' clk∧∀ vis vl,kU l es vis vl→kU (dG l k v) es' (vis.map (oL k v)) (vl.map (AD k v)) :=
 SO.of_skip fun a w ha hw=>by
  have hb:w.heap[b]?=some (.map es clk):=vv j hj w hw;have hf:=gN k es.toList l 0 hI.1;have h1:=MapKept.run_findKey (w:=w) hT.key hf;have h2:=MapKept.run_checkKey (P:=P) (w:=w) hT.key (k:=vi k) rfl false 9999;have hlen:es.toList.length=l.length:=by have:=ze2 List.length hI.1; simpa using this
  rcases oC k l 0 with ⟨hn,hne⟩ | ⟨q,u0,hs,hq,hput⟩
  ·obtain ⟨u1,hu1⟩:=hk;unfold df at hu1;rw[hn] at hu1;cases hu1
  ·have hql:q<es.toList.length:=by rw[hlen]; exact (zf5.1 hq).1
   have hqs:q<es.size:=by simpa using hql
   have hkey:(es.toList[q]).key=vi k:=by
    have h3:=ze2 (·[q]?) hI.1;simp only[zh9,hq,Option.map_some,gE hql,zg7,im,eT,Prod.mk.injEq] at h3;exact h3.1
   have hje:es[q]?=some es.toList[q]:=by simp at hql; simp[hql]
   have huniq:∀ i (hi:i<es.size),es[i].key=vi k→i=q:=fun i hi he=>by
    have h5:(es.toList.map (·.key))[i]'(by simpa using hi)=(es.toList.map (·.key))[q]'(by simpa using hqs):=by
     rw[List.getElem_map,List.getElem_map,hkey];simpa using he
    exact (List.getElem_inj hI.2.2.2).1 h5
   have hmod:(es.modify q fun e=>{ e with key:=vi k,val:=v })=es.map (oL k v):=by
    apply Array.ext (by simp);intro i hi1 hi2;have hi:i<es.size:=by simpa using hi1
    rw[Array.getElem_modify,Array.getElem_map];unfold oL;by_cases e:q=i
    ·subst e;have h6:es[q].key=vi k:=by simpa using hkey
     rw[zg1 rfl,zg1 (by rw[h6]; rfl)]
    ·rw[zf9 e,zf9 (fun h=>e (huniq i hi (Gj h)).symm)]
   rw[hs,Nat.zero_add] at h1;have hfr:=hw.fresh _ (zg2 hj) b rfl;obtain ⟨e1,e2⟩:=MapKept.heap_set (o':=.map (es.map (oL k v)) clk) hb;have h4:=MapKept.run_keyThatStays (P:=P) (w:=w) (d:=.int .i64) (k:=vi k) rfl;have hkey':∀ h:q<es.size,es[q].key=vi k:=fun h=>by simpa using hkey
   have hMI:jn (dG l k v) (es.map (oL k v)) clk:=by
    refine⟨?_,?_⟩
    ·rw[Array.toList_map,pd k v _ _ hI.1,hput v];congr 1;apply List.ext_getElem (by simp);intro i h5 h6;have h7:i<l.length:=by simpa using h5
     have h8:i<es.size:=by
      have:es.toList.length=es.size:=by simp
      omega
     have h9:es[i].key=vi l[i].1:=by
      have h3:=ze2 (·[i]?) hI.1;simp only[zh9,gE h7,gE (show i<es.toList.length by omega),Option.map_some,zg7,im,eT,Prod.mk.injEq] at h3;simpa using h3.1
     rw[List.getElem_map,List.getElem_set];unfold AD;by_cases e:q=i
     ·subst e;have h10:l[q]=(k,u0):=(zf5.1 hq).2;rw[zg1 rfl,zg1 (by rw[h10])]
     ·rw[zf9 e,zf9 (fun h=>e (huniq i h8 (by rw[h9,h])).symm)]
    ·rw[← hmod];exact stamped_modify hI.2 _ _ (fun _ _=>I) (fun e' _ he'=>by
      rw[hje] at he';injection he' with he'
      rw[← he',hkey])
   refine⟨{ w with heap:=w.heap.setIfInBounds b (.map (es.map (oL k v)) clk) },g,s.set j (mx b (es.map (oL k v)) clk),?_,?_,I,es.map (oL k v),I,hMI,fun vis vl hv=>?_⟩
   ·have hr:(Instr.mapUpdate t (.map (some b)) (vi k) v).run P w = .ok () { w with heap:=w.heap.setIfInBounds b (.map (es.map (oL k v)) clk) }:=by
     rw[← hmod];simp[Instr.mapUpdate,run_underlying hT.und,MapKept.run_getObj_map hb,h2,h1,hje,hkey',h4,MapKept.run_setObj_map _ hb]
    simp[execOp,ha.ev hx,ha.ev hy,ha.ev hu,hr]
   ·refine hw.turn hj I ⟨I,lR _⟩ I (by simp) (fun q _ hne=>e2 q (fun e=>hne (by simp[mx,pt,e]))) (by simpa [mx,pt] using e1) (fun b' hb'=>?_);simp only[mx,pt,zg7] at hb';subst hb';exact⟨by simpa using hfr.2,.inl I⟩
   ·refine⟨⟨fun e he=>?_,?_⟩,pd k v _ _ hv.eq⟩
    ·obtain ⟨e0,he0,rfl⟩:=zf2.1 he;rw[Array.toList_map];exact zf2.2 ⟨e0,hv.ok.sub e0 he0,I⟩
    ·rw[zi5,show (fun e:MapEntry=>e.born) ∘ oL k v=fun e=>e.born from funext fun e=>t6 k v e];exact hv.ok.nodup
end
end Go.Sy
namespace Go.Proofs.YtbbppeihhkhkcaaGreatDoor
open _root_.Go.Proofs.Tryz _root_.Go.Proofs.YtbbppeihhkhkcaaGreatDoor.Tryz
open Go Go.Sy Go.Pl Go.Proofs
def F1 (x y:Side):Bool:=decide (¬ s9 y x<0)
def jx (l:List Side):List Side:=l.mergeSort F1
theorem eL (l:List Side):(jx l).Perm l:=List.mergeSort_perm l F1
theorem sD (l:List Side):E6 (jx l):=by
 have h:=List.pairwise_mergeSort (le:=F1) (fun a b c h1 h2=>by
  unfold F1 at *;rw[zj6,gU] at *;omega) (fun a b=>by
  unfold F1;rw[zj4,zj6,zj6,gU,gU];omega) l
 refine List.Pairwise.imp ?_ h;intro a b h1;exact zg3 h1
theorem vS {l m:List Side}(hp:m.Perm l)(ha:E6 m):m=jx l:=sb ha (sD l) (hp.trans (eL l).symm)
def iM (F:Cl→Cl)(A:List Cl)(ids:List Int):List Cl:=A.map fun y=>if y.id∈ids then F y else y
section
variable {F:Cl→Cl}(hF:∀ y,(F y).id=y.id)
include hF
theorem uz {ids:List Int}{id:Int}(hid:id ∉ ids){y:Cl}:∀ {A:List Cl},(A.map Cl.id).Nodup→am A id=some y→eE (iM F A ids) (F y)=iM F A (ids++[id])
 | [],_,hy=>by cases hy
 | c::A,hn,hy=>by
  rw[zg4,zk3] at hn;unfold am at hy;rw[zi6] at hy;have hs:∀ i,iM F (c::A) i=(if c.id∈i then F c else c)::iM F A i:=fun _=>rfl;rw[hs,hs];by_cases h:c.id=id
  ·rw[zf8 h] at hy;injection hy with hy
   subst hy;subst h;rw[zf9 hid,zg1 (by simp)];have e1:eE (c::iM F A ids) (F c)=F c::iM F A ids:=by simp[eE,hF]
   rw[e1];congr 1;unfold iM;refine zc8 fun x hx=>?_;have hne:x.id≠c.id:=fun he=>hn.1 (by rw[← he]; exact zf2.2 ⟨x,hx,I⟩);by_cases h1:x.id∈ids
   ·rw[zg1 h1,zg1 (by simp[h1])]
   ·rw[zf9 h1,zf9 (by simp[h1,hne])]
  ·rw[zf7 h] at hy;have hyid:y.id=id:=by simpa using List.find?_some hy
   have ih:=uz hid hn.2 hy;have h1:(if c.id∈ids then F c else c).id=c.id:=by split <;> simp[hF]
   have e1:∀ (d:Cl) (L:List Cl),d.id=c.id→eE (d::L) (F y)=d::eE L (F y):=fun d L hd=>by
    have:¬ (F y).id=d.id:=by rw[hd,hF,hyid]; exact fun h'=>h h'.symm
    simp[eE,this]
   rw[e1 _ _ h1,ih];congr 1;by_cases h2:c.id∈ids
   ·rw[zg1 h2,zg1 (by simp[h2])]
   ·rw[zf9 h2,zf9 (by simp[h2,h])]
end
theorem Cj (F:Cl→Cl)(A:List Cl):iM F A []=A:=by simp[iM]
theorem Co {F:Cl→Cl}{A:List Cl}{ids:List Int}(h:∀ c∈A,c.id∈ids):iM F A ids=A.map F:=zc8 fun c hc=>by rw[zg1 (h c hc)]
theorem Ck {F:Cl→Cl}{A:List Cl}{ids:List Int}{c:Cl}(hF:∀ y,(F y).id=y.id)(h:c∈iM F A ids)(hc:c.id ∉ ids):c∈A:=by
 unfold iM at h;obtain ⟨y,hy,he⟩:=zf2.1 h;split at he
 ·rename_i h1;rw[← he,hF] at hc;exact absurd h1 hc
 ·rw[← he];exact hy
theorem Cm {F:Cl→Cl}(hF:∀ y,(F y).id=y.id)(A:List Cl)(ids:List Int):(iM F A ids).map Cl.id=A.map Cl.id:=by
 unfold iM;rw[zi5];refine zc8 fun c _=>?_;simp only[Function.comp];split
 ·exact hF c
 ·rfl
def iC (ps:List Pr):List Int:=ps.flatMap fun p=>[p.1,p.2]
theorem vd (ps:List Pr)(p:Pr):iC (ps++[p])=iC ps++[p.1,p.2]:=by
 unfold iC;rw[List.flatMap_append];rfl
def vR (ps:List Pr):Bool:=decide (¬ (iC ps).Nodup)
theorem CN (ps:List Pr)(p:Pr):vR (ps++[p])=(vR ps||decide (p.1∈iC ps)||decide (p.2∈iC ps)||decide (p.1=p.2)):=by
 unfold vR;rw[vd,Bool.eq_iff_iff];simp only[zj4,zj6];have h:(iC ps++[p.1,p.2]).Nodup↔(iC ps).Nodup∧p.1 ∉ iC ps∧p.2 ∉ iC ps∧p.1≠p.2:=by
  rw[List.nodup_append];simp only[zk3,zh7,List.not_mem_nil,not_false_eq_true,List.nodup_nil,and_true,zf1,or_false];constructor
  ·rintro ⟨h1,h2,h3⟩;exact⟨h1,fun hm=>h3 _ hm _ (.inl I) I,fun hm=>h3 _ hm _ (.inr I) I,h2⟩
  ·rintro ⟨h1,h2,h3,h4⟩;refine⟨h1,h4,fun a ha b hb=>?_⟩
   rcases hb with rfl | rfl
   ·exact fun e=>h2 (e ▸ ha)
   ·exact fun e=>h3 (e ▸ ha)
 rw[h];by_cases h1:(iC ps).Nodup <;> by_cases h2:p.1∈iC ps <;> by_cases h3:p.2∈iC ps <;> by_cases h4:p.1=p.2 <;> simp[h1,h2,h3,h4]
def swP (p:Pr):Int×Value:=(p.2,vi p.1)
def byF (ps:List Pr)(k:Int):Option Int:=(ps.find? fun p=>decide (p.2=k)).map Prod.fst
theorem zF {ps:List Pr}{p:Pr}(h:p.2 ∉ iC ps):∀ q∈ps.map swP,q.1≠p.2:=fun q hq e=>by
 obtain ⟨r,hr,rfl⟩:=zf2.1 hq;refine h ?_;unfold iC;rw[List.mem_flatMap];refine⟨r,hr,?_⟩;have e2:r.2=p.2:=e;simp[e2]
theorem wi (ps:List Pr)(k:Int):df (ps.map swP) k=(byF ps k).map vi:=by
 induction ps with
 | nil=>rfl
 | cons p ps ih =>
  unfold byF;rw[zg4,zi6];have hc:swP p=(p.2,vi p.1):=rfl;rw[hc,bD];by_cases h:k=p.2
  ·rw[zg1 h,zf8 h.symm];rfl
  ·rw[zf9 h,zf7 (fun e=>h e.symm),ih];rfl
theorem tz {ps:List Pr}(h:(iC ps).Nodup):(ps.map Prod.snd).Nodup:=by
 induction ps with
 | nil=>simp
 | cons p ps ih =>
  have hc:iC (p::ps)=p.1::p.2::iC ps:=rfl;rw[hc,zk3,zk3] at h;rw[zg4,zk3];refine⟨fun hm=>h.2.1 ?_,ih h.2.2⟩;obtain ⟨q,hq,e⟩:=zf2.1 hm;unfold iC;rw[List.mem_flatMap];exact⟨q,hq,by simp[e]⟩
theorem mu {l:List (Int×Value)}{es:Array MapEntry}{clk:Nat}{vis:List MapEntry}{vl:List (Int×Value)}(h:kU l es vis vl)(hm:jn l es clk):(vl.map Prod.fst).Nodup:=by
 have h1:(vis.map (·.key)).Nodup:=by
  rw[List.Nodup,zk5];have h2:vis.Pairwise fun a b=>a.born≠b.born:=by
   have:=h.ok.nodup;rwa [List.Nodup,zk5] at this
  refine List.Pairwise.imp_of_mem ?_ h2;intro a b ha hb hab he;have hk:=hm.2.2.2;obtain ⟨i,hi,rfl⟩:=zc7 (h.ok.sub a ha);obtain ⟨j,hj,rfl⟩:=zc7 (h.ok.sub b hb);have h3:(es.toList.map (·.key))[i]'(by simpa using hi)=(es.toList.map (·.key))[j]'(by simpa using hj):=by rw[List.getElem_map,List.getElem_map]; exact he
  have h4:=(List.getElem_inj hk).1 h3;subst h4;exact hab I
 have h2:vis.map (·.key)=(vl.map Prod.fst).map vi:=by
  have h3:=ze2 (List.map Prod.fst) h.eq;rw[zi5,zi5] at h3;rw[zi5];exact h3
 rw[h2] at h1;exact List.Pairwise.of_map vi (fun a b hab hne=>hab (by rw[hne])) h1
def Db (f:Int→Option Int)(c:Cl):Cl:=⟨c.id,c.dim,jx (c.sides.map (gn f))⟩
def dimOf (A:List Cl)(id:Int):Int:=((am A id).getD cJ).dim
def wk (A:List Cl)(id:Int):List Side:=((am A id).getD cJ).sides
def je (A:List Cl)(ps:List Pr)(p:Pr):Bool:=decide (jx ((wk A p.1).map (gn (byF ps)))=jx ((wk A p.2).map (gn (byF ps))))
def dX (A:List Cl)(e:Ed):Int :=
 if e.pairs.all (fun p=>(am A p.1).isSome&&(am A p.2).isSome) then
  if vR e.pairs then 54 else if e.pairs.any (fun p=>decide (dimOf A p.1≠dimOf A p.2)) then 21 else if e.pairs.all (je A e.pairs) then 0 else 33
 else 30
def ig (A:List Cl)(ks:List Int):List Cl:=A.filter fun c=>!decide (c.id∈ks)
def eP (A:List Cl)(e:Ed):List Cl:=(ig A (e.pairs.map Prod.snd)).map (Db (byF e.pairs))
def ec (e:Ed)(k:Int):List Tm:=match byF e.pairs k with
 | some t=>[(t,1)]
 | none=>[(k,1)]
theorem mw {A:List Cl}(hn:(A.map Cl.id).Nodup)(ks:List Int)(k:Int):qT (ig A ks) k=ig A (ks++[k]):=by
 have h1:((ig A ks).map Cl.id).Nodup:=(List.filter_sublist.map Cl.id).nodup hn;rw[qy k h1];unfold ig;rw[List.filter_filter];refine List.filter_congr fun c _=>?_;by_cases h2:c.id∈ks <;> by_cases h3:c.id=k <;> simp[h2,h3]
end Go.Proofs.YtbbppeihhkhkcaaGreatDoor
