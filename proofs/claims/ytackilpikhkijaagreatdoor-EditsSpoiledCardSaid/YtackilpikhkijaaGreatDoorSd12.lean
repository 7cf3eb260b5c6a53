/- 12 -/
import Derived.Test.YtackilpikhkijaaGreatDoorSd11
set_option linter.unusedSimpArgs false
set_option linter.unusedVariables false
namespace Go.Proofs.YtackilpikhkijaaGreatDoor
open _root_.Go.Proofs.Tryz _root_.Go.Proofs.YtackilpikhkijaaGreatDoor.Tryz
open Go Go.Sy Go.Pl Go.Proofs
set_option maxRecDepth 100000
set_option maxHeartbeats 2000000
def uz (p:Side→Bool)(l:List Side):Int:=if l.any p then ((l.findIdx p:Nat):Int) else -1
theorem uV {p:Side→Bool}{l:List Side}{k:Nat}(hk:k<l.length)(h0:∀ j (hj:j<k),p (l[j]'oM)=false)(h1:p l[k]=true):uz p l=k:=by
 unfold uz;rw[zg4<|zk2.2 ⟨_,gM hk,h1⟩,List.findIdx_eq hk |>.2 ⟨h1,fun j hj=>by rw[h0 j hj]⟩]
theorem uU {p:Side→Bool}{l:List Side}(h0:∀ j (hj:j<l.length),p l[j]=false):uz p l = -1:=by
 unfold uz;rw[zg3];intro h;obtain ⟨x,hx,h1⟩:=zk2.1 h;obtain ⟨j,hj,rfl⟩:=zc8 hx;rw[h0 j hj] at h1;cases h1
theorem rv (E:World)(g:PH)(s:Own)(v fv:Value)(l:List Side)(p:Side→Bool)(hv:SlA encSide g v l)(hl:l.length<1099511627776)(hfv:fv.cells = #[fv])(hc:∀ x:Side,dA Tryz.prog E fv [.agg #[vi x.cell,vi x.sign]] g s (fun r g' s'=>r=vb (p x)∧g=g'∧s=s')) :
  Ctr Tryz.prog E 123 #[v,fv] g s (fun r g' s'=>r=vi (uz p l)∧g=g'∧s=s'):=by
 obtain ⟨q,c,rfl⟩:=za4 hv;refine zb2 (args:=[.slice q l.length c,fv]) func123 I ntmps123 (bE I)<|rZ<|aT I<|sQ<|sW I<|lU (eN aM I)<|lM I<|tZ<|bK<|oP (ι:=Nat) (fun k=>[(0,.slice q l.length c),(1,fv),(7,vi l.length),(8,vi k)]) (fun _=>g) (fun _=>s)
  (fun k=>k≤l.length∧∀ j (hj:j<k) (hl:j<l.length),p l[j]=false) (fun k=>l.length - k) 0 sB rfl rfl ⟨zf9 _,fun j hj=>absurd hj oM⟩ ?_
 rintro k ⟨hk,hno⟩;try dsimp only at hk hno ⊢
 refine rZ<|yL I<|tZ<|sQ<|iP I (fun hlt=>?_) (fun hlt=>?_)
 ·have hkl:k<l.length:=oM;have hb1:=za6 hv oM;have hgk:l[((k:Nat):Int).toNat]?=some l[k]:=gE hkl;have hhere:=fun h=>uV (p:=p) hkl (fun j hj=>hno j hj oM) h;have hsucc:p l[k]=false→∀ j (hj:j<k+1) (hl:j<l.length),p l[j]=false:=fun h j hj hl=>by
   by_cases e:j=k
   ·subst e; exact h
   ·exact hno j oM hl
  generalize l[k]=x at *;refine kP<|tN<|sQ<|bK<|sW I<|aT I<|sW I<|lM I<|lM I<|lU (iA aM aH I I hb1 oM sL)<|lK (eA eK aH I (za7 hv) hgk)<|lW (SO.callV I I<|hc x) ?_;rintro _ _ _ ⟨rfl,rfl,rfl⟩;refine tZ<|iQ I (fun hp=>?_) (fun hp=>?_)
  ·exact sW I<|aT I<|rE<|bR<|tR<|tR<|bR<|tR<|za8 (.inl I) results123 I ⟨by rw[hhere hp],I,I⟩
  ·exact kP<|bN<|tN<|rG<|yD I<|lM I<|nL<|gA (k+1) sB I I ⟨oM,hsucc hp⟩ oM
 ·exact xI<|tX<|tX<|bX<|tN<|rZ<|aT I<|rE<|za8 (.inl I) results123 I ⟨by rw[uU fun j hj=>hno j oM hj],I,I⟩
abbrev edV (e:Ed)(sv pv:Value):Array Value:=#[vi e.kind,vi e.cell,vi e.dim,vi e.new,vi e.other,sv,pv]
theorem Am (E:World)(g:PH)(s:Own)(b3:Nat)(e:Ed)(sv pv:Value)(x:Side)(q:Nat)(hq:s[q]?=some (pt b3<|.cells (edV e sv pv) 35 (0,0))) :
  dA Tryz.prog E (.func (.func 127) #[] #[pp b3 0]) [.agg #[vi x.cell,vi x.sign]] g s (fun r g' s'=>r=vb (decide (x.cell=e.cell))∧g=g'∧s=s'):=by
 refine dA.mk (args:=[_]) (cap:=[pp b3 0]) call127<|zb2 (args:=[.agg #[vi x.cell,vi x.sign],pp b3 0]) func127 I ntmps127 (bE I)<|rZ (bW (bO I) fun b2=>?_);exact aT I<|rZ<|lU (fA bZ I zT3 I)<|lK (qL (v:=vi x.cell) iT3 I<|cO 0 I I)<|lU (fA aU I zT3 I)<|lK (qL (v:=vi e.cell) iT3 I<|cO (q+1) hq I)<|yE I<|aT I<|rE<|dR (s':=s) uR<|za8 (.inl I) results127 I ⟨I,I,I⟩
def bA (A:List Cl)(e:Ed):List Side:=((aB A e.other).getD bD).sides
def lh (l:List Side)(i:Nat):Int:=(l[i]?.map Side.sign).getD 0
def eI (A:List Cl)(e:Ed):List Tm:=((bA A e).eraseIdx<|(bA A e).findIdx fun x=>decide (x.cell=e.cell)).map fun x=>(x.cell,-lh (bA A e) ((bA A e).findIdx fun x=>decide (x.cell=e.cell)) * x.sign)
def dP (A:List Cl)(e:Ed):Int:=if (aB A e.cell).isSome&&(aB A e.other).isSome then (if aj A e.cell=[e.other]∧¬ 0<(aj A e.other).length then 0 else 32) else 30
theorem ws {l:List Side}{i k:Nat}(hk:k<l.length)(h:i≠k):(l.take<|k+1).eraseIdx i=(l.take k).eraseIdx i++[l[k]]:=by
 rw[tS hk];by_cases h2:i<k
 ·rw[List.eraseIdx_append_of_lt_length (by rw[ze7]; omega)]
 ·rw[List.eraseIdx_of_length_le (l:=l.take k) (by rw[ze7]; omega),List.eraseIdx_of_length_le (by rw[ze8,ze7,zf1]; omega)]
theorem wt {l:List Side}{k:Nat}(hk:k<l.length):(l.take<|k+1).eraseIdx k=(l.take k).eraseIdx k:=by
 rw[tS hk,List.eraseIdx_of_length_le (l:=l.take k) (by rw[ze7]; omega),List.eraseIdx_append_of_length_le (by rw[ze7]; omega)];rw[ze7,show k - min k l.length=0 by omega];simp
theorem qG (E:World)(g:PH)(s:Own)(bx mb ms:Nat)(u v:Value)(e:Ed)(A:List Cl)(rs:List Rc)(hu:ao g u A)(hf:bo A)(hall:aA (ar g) A rs)(he:EdR g v e)
  (hsg:∀ x∈bA A e,x.sign=1∨x.sign = -1) (hlen:(bA A e).length≤64) (hmem:aj A e.cell=[e.other]→(bA A e).any (fun x=>decide (x.cell=e.cell))=true) :
  Ctr Tryz.prog E 82 #[pp bx 0,v] g (edP bx u mb ms false::mp mb (rs.map ak)::mp ms []::s) (fun r g' s'=>Le g g'∧r=vi (dP A e) ∧
   (if dP A e=0 then ∃ v1 p n c,v1 = .slice p n c∧s'=edP bx u mb ms false::mp mb ((mW (mW rs e.cell) e.other).map ak)::mp ms (gO [(e.cell,v1,eI A e),(e.other,.slice none 0 0,[])])::(dv [(e.cell,v1,eI A e),(e.other,.slice none 0 0,[])]++s) else ∃ h,s'=h++s)):=by
 obtain ⟨sv,pv,rfl,hsv,hpv⟩:=he;obtain ⟨p,c,rfl⟩:=hu.form;have hal:(aj A e.cell).length<1099511627776:=Nat.lt_of_le_of_lt (by unfold aj; rw[ze9]; exact zc6 _ _) (bP hf).1;have hsvf:=za4 hsv;have hpvf:=za4 hpv;obtain ⟨sp,sc,rfl⟩:=hsvf;obtain ⟨qp,qc,rfl⟩:=hpvf;refine zb2 (args:=[pp bx 0,.agg #[vi e.kind,vi e.cell,vi e.dim,vi e.new,vi e.other,.slice sp e.sides.length sc,.slice qp e.pairs.length qc]]) func82 I ntmps82 (bE I) ?_;cases hc:(aB A e.cell).isSome with
 | false =>
  have hcode:dP A e=30:=by unfold dP; rw[hc]; rfl
  rw[hcode];refine rZ (bW (bO I) fun b3=>?_);refine aT I<|sQ<|sW I<|lU (fA aU I zT3 I)<|lK (qL (v:=vi e.cell) iT3 I<|cO 0 I I)<|lW (cL call121 I<|bV E g _ bx mb ms _ false e.cell _ (fun _ _ h=>h.1) A rs hall 1 2 I I) ?_;rintro _ _ _ ⟨rfl,rfl,rfl⟩;refine lU (SU.eq (v':=vb true) (SU.not I)<|ze5 vb (by rw[hc]; rfl)) ?_;exact lM I<|yA I<|yA I<|yA I<|yA I<|yA I<|yP I<|tZ<|za2 I<|rZ<|aT I<|rE<|tR<|za8 (.inl I) results82 I ⟨zb9 _,I,by rw[zg3 dC]; exact⟨[_,_,_,_],I⟩⟩
 | true =>
  cases ho:(aB A e.other).isSome with
  | false =>
   have hcode:dP A e=30:=by unfold dP; rw[hc,ho]; rfl
   rw[hcode];refine rZ (bW (bO I) fun b3=>?_);refine aT I<|sQ<|sW I<|lU (fA aU I zT3 I)<|lK (qL (v:=vi e.cell) iT3 I<|cO 0 I I)<|lW (cL call121 I<|bV E g _ bx mb ms _ false e.cell _ (fun _ _ h=>h.1) A rs hall 1 2 I I) ?_;rintro _ _ _ ⟨rfl,rfl,rfl⟩;refine lU (SU.eq (v':=vb false) (SU.not I)<|ze5 vb (by rw[hc]; rfl)) ?_;refine lM I<|yC I<|lY I I I (fA aU I zT3 I)<|SL.gq (gT I I I dC) (qL (v:=vi e.other) iT3 I<|cO 0 I I) dC<|ze4 (gT I I I dC) (cL call121 I<|bV E g _ bx mb ms _ false e.other _ (fun _ _ h=>h.1) A rs hall 1 2 I I) dC ?_;rintro _ _ _ ⟨rfl,rfl,rfl⟩;refine lY I I I (SU.eq (v':=vb true) (SU.not I)<|ze5 vb (by rw[ho]; rfl)) ?_;exact yF I<|tZ<|za2 I<|rZ<|aT I<|rE<|tR<|za8 (.inl I) results82 I ⟨zb9 _,I,by rw[zg3 dC]; exact⟨[_,_,_,_],I⟩⟩
  | true =>
   refine rZ (bW (bO I) fun b3=>?_);refine aT I<|sQ<|sW I<|lU (fA aU I zT3 I)<|lK (qL (v:=vi e.cell) iT3 I<|cO 0 I I)<|lW (cL call121 I<|bV E g _ bx mb ms _ false e.cell _ (fun _ _ h=>h.1) A rs hall 1 2 I I) ?_;rintro _ _ _ ⟨rfl,rfl,rfl⟩;refine lU (SU.eq (v':=vb false) (SU.not I)<|ze5 vb (by rw[hc]; rfl)) ?_;refine lM I<|yC I<|lY I I I (fA aU I zT3 I)<|SL.gq (gT I I I dC) (qL (v:=vi e.other) iT3 I<|cO 0 I I) dC<|ze4 (gT I I I dC) (cL call121 I<|bV E g _ bx mb ms _ false e.other _ (fun _ _ h=>h.1) A rs hall 1 2 I I) dC ?_;rintro _ _ _ ⟨rfl,rfl,rfl⟩;refine lY I I I (SU.eq (v':=vb false) (SU.not I)<|ze5 vb (by rw[ho]; rfl)) ?_;refine yF I<|tZ<|za1 I<|kP<|tN<|sQ<|SC.cut (ι:=PH) (fun _=>[(0,pp bx 0),(3,pp b3 0),(44,vb<|!decide (aj A e.cell=[e.other])||decide (0<(aj A e.other).length))]) (fun g'=>g') (fun _=>pt b3 (.cells (edV e (.slice sp e.sides.length sc)<|.slice qp e.pairs.length qc) 35 (0,0))::edP bx (.slice p A.length c) mb ms false::mp mb (rs.map ak)::mp ms []::s) (fun g'=>Le g g') ?_ ?_
   ·by_cases hab:aj A e.cell=[e.other]
    ·refine SC.drawX [] ze6 kR ?_;refine SX.u (i:=0) I kR (mV I) dC<|SX.u (i:=1) I kR (nC I) dC<|SX.u (i:=2) I kR (fA dh I ah I) dC<|SX.q (i:=3) I kR (SQ.loadOne aw ah I<|cO (v:=.slice p A.length c) 1 I I) dC<|SX.u (i:=4) I kR (fA aU I zT3 I) dC<|SX.q (i:=5) I kR (qL (v:=vi e.cell) iT3 I<|cO 0 I I) dC<|SX.u (i:=7) I kR (fA aU I zT3 I) dC<|SX.q (i:=8) I kR (qL (v:=vi e.other) iT3 I<|cO 0 I I) dC ?_
     repeat' (first
      | (refine SB.o (i:=6) rfl (cL call122 rfl<|fB E _ _ _ A e.cell (by exact hu.mono<|by assumption) hf) dC (.inr (by rintro v28 g1 _ ⟨rfl,hle1,ha1⟩; exact⟨by exact Le.trans (by assumption) (by assumption),(by exact .refl _)⟩)) ?_; rintro v28 g1 _ ⟨rfl,hle1,ha1⟩; first | have hleB:=hle2.trans hle1 | skip)
      | (refine SB.o (i:=6) I (cL call122 I<|fB E _ _ _ A e.cell (by exact hu) hf) dC (.inr iR) ?_; rintro v28 g1 _ ⟨rfl,hle1,ha1⟩; first | have hleB:=hle2.trans hle1 | skip)
      | (refine SB.o (i:=9) I (bS sty83 I I I (ae ⟨I,trivial⟩) dC) dC (.inr iR) ?_; rintro _ _ _ ⟨b31,rfl,rfl,rfl⟩; refine SX.to (fun w hw=>At.litRow (e:=encInt) (l:=[e.other]) (n:=0) hw I I dC) ?_; refine SX.freezeRow fun g2 hle2 hs2=>?_; first | have hleB:=hle1.trans hle2 | skip)
      | (refine SB.o (i:=9) I (bS sty83 I I I (ae ⟨I,trivial⟩) dC) dC (.inr iR) ?_; rintro _ _ _ ⟨b31,rfl,rfl,rfl⟩; refine SX.to (fun w hw=>At.litRow (e:=encInt) (l:=[e.other]) (n:=0) hw I I dC) ?_; refine SX.freezeRow fun g2 hle2 hs2=>?_; first | have hleB:=hle1.trans hle2 | skip)
      | (refine SB.o (i:=10) I (cL call104 I<|jk E _ _ _ _ (aj A e.cell) [e.other] (by exact za5 ha1<|by assumption) (by exact hs2) hal) dC (.inr iR) ?_; rintro _ _ _ ⟨rfl,rfl,rfl⟩; refine SX.u (i:=11) I kD (SU.eq (v':=vb false) (SU.not I)<|ze5 vb (by rw[zg2 hab]; rfl)) dC ?_; refine SX.u (i:=12) I kD (mV I) dC ?_; refine SX.gu (i:=13) I kD (gT I I I dC) (mV I) dC ?_; refine SX.gu (i:=14) I kD (gT I I I dC) (nC I) dC ?_; refine SX.gu (i:=15) I kD (gT I I I dC) (fA dh I ah I) dC ?_; refine SX.gq (i:=16) I kD (gT I I I dC) (SQ.loadOne aw ah I<|cO (v:=.slice p A.length c) 1 I I) dC ?_; refine SX.gu (i:=17) I kD (gT I I I dC) (fA aU I zT3 I) dC ?_; refine SX.gq (i:=18) I kD (gT I I I dC) (qL (v:=vi e.other) iT3 I<|cO 0 I I) dC ?_)
      | (refine SB.o (i:=10) I (cL call104 I<|jk E _ _ _ _ (aj A e.cell) [e.other] (by exact ha1) (by exact za5 hs2<|by assumption) hal) dC (.inr iR) ?_; rintro _ _ _ ⟨rfl,rfl,rfl⟩; refine SX.u (i:=11) I kD (SU.eq (v':=vb false) (SU.not I)<|ze5 vb (by rw[zg2 hab]; rfl)) dC ?_; refine SX.u (i:=12) I kD (mV I) dC ?_; refine SX.gu (i:=13) I kD (gT I I I dC) (mV I) dC ?_; refine SX.gu (i:=14) I kD (gT I I I dC) (nC I) dC ?_; refine SX.gu (i:=15) I kD (gT I I I dC) (fA dh I ah I) dC ?_; refine SX.gq (i:=16) I kD (gT I I I dC) (SQ.loadOne aw ah I<|cO (v:=.slice p A.length c) 1 I I) dC ?_; refine SX.gu (i:=17) I kD (gT I I I dC) (fA aU I zT3 I) dC ?_; refine SX.gq (i:=18) I kD (gT I I I dC) (qL (v:=vi e.other) iT3 I<|cO 0 I I) dC ?_)
      | (refine SB.go (i:=19) rfl (gT rfl rfl rfl dC) (cL call122 rfl<|fB E _ _ _ A e.other (hu.mono hleB) hf) dC (.inr (by rintro v41 g5 _ ⟨rfl,hle5,ha5⟩; exact⟨by exact Le.trans (by assumption) (by assumption),(by exact .refl _)⟩)) ?_; rintro v41 g5 _ ⟨rfl,hle5,ha5⟩; obtain ⟨q5,d5,rfl⟩:=za4 ha5; have hleF:=hleB.trans hle5; refine SX.gu (i:=20) I kD (gT I I I dC) (eN aK I) dC ?_; refine SX.gu (i:=21) I kD (gT I I I dC) (SU.eq (v':=vb<|decide (0<(aj A e.other).length)) (gR I I)<|ze5 vb<|by simp only[gt_iff_lt,Int.natCast_pos]) dC ?_; refine SX.u (i:=22) I kD (wF I I) dC ?_)
      | refine zd9 6 9 kD ?_ ?_
      | refine zd8 9 kD ?_
      | refine zd8 10 kD ?_
      | refine zd8 19 kD ?_
      | refine zd8 6 kD ?_
      | (refine SX.nil kD ?_; exact za9 _ ⟨I,I,(by rw[zg2 hab]; rfl),trivial⟩ rfl rfl hleF))
    ·refine SC.drawX [] ze6 kR ?_;refine SX.u (i:=0) I kR (mV I) dC<|SX.u (i:=1) I kR (nC I) dC<|SX.u (i:=2) I kR (fA dh I ah I) dC<|SX.q (i:=3) I kR (SQ.loadOne aw ah I<|cO (v:=.slice p A.length c) 1 I I) dC<|SX.u (i:=4) I kR (fA aU I zT3 I) dC<|SX.q (i:=5) I kR (qL (v:=vi e.cell) iT3 I<|cO 0 I I) dC<|SX.u (i:=7) I kR (fA aU I zT3 I) dC<|SX.q (i:=8) I kR (qL (v:=vi e.other) iT3 I<|cO 0 I I) dC ?_
     repeat' (first
      | (refine SB.o (i:=6) rfl (cL call122 rfl<|fB E _ _ _ A e.cell (by exact hu.mono<|by assumption) hf) dC (.inr (by rintro v28 g1 _ ⟨rfl,hle1,ha1⟩; exact⟨by exact Le.trans (by assumption) (by assumption),(by exact .refl _)⟩)) ?_; rintro v28 g1 _ ⟨rfl,hle1,ha1⟩; first | have hleB:=hle2.trans hle1 | skip)
      | (refine SB.o (i:=6) I (cL call122 I<|fB E _ _ _ A e.cell (by exact hu) hf) dC (.inr iR) ?_; rintro v28 g1 _ ⟨rfl,hle1,ha1⟩; first | have hleB:=hle2.trans hle1 | skip)
      | (refine SB.o (i:=9) I (bS sty83 I I I (ae ⟨I,trivial⟩) dC) dC (.inr iR) ?_; rintro _ _ _ ⟨b31,rfl,rfl,rfl⟩; refine SX.to (fun w hw=>At.litRow (e:=encInt) (l:=[e.other]) (n:=0) hw I I dC) ?_; refine SX.freezeRow fun g2 hle2 hs2=>?_; first | have hleB:=hle1.trans hle2 | skip)
      | (refine SB.o (i:=9) I (bS sty83 I I I (ae ⟨I,trivial⟩) dC) dC (.inr iR) ?_; rintro _ _ _ ⟨b31,rfl,rfl,rfl⟩; refine SX.to (fun w hw=>At.litRow (e:=encInt) (l:=[e.other]) (n:=0) hw I I dC) ?_; refine SX.freezeRow fun g2 hle2 hs2=>?_; first | have hleB:=hle1.trans hle2 | skip)
      | (refine SB.o (i:=10) I (cL call104 I<|jk E _ _ _ _ (aj A e.cell) [e.other] (by exact za5 ha1<|by assumption) (by exact hs2) hal) dC (.inr iR) ?_; rintro _ _ _ ⟨rfl,rfl,rfl⟩; refine SX.u (i:=11) I kD (SU.eq (v':=vb true) (SU.not I)<|ze5 vb (by rw[zg1 hab]; rfl)) dC ?_; refine SX.u (i:=12) I kD (mV I) dC ?_; refine SX.off (i:=13) I kD (gZ I I I dC) dC ?_; refine SX.off (i:=14) I kD (gZ I I I dC) dC ?_; refine SX.off (i:=15) I kD (gZ I I I dC) dC ?_; refine SX.off (i:=16) I kD (gZ I I I dC) dC ?_; refine SX.off (i:=17) I kD (gZ I I I dC) dC ?_; refine SX.off (i:=18) I kD (gZ I I I dC) dC ?_)
      | (refine SB.o (i:=10) I (cL call104 I<|jk E _ _ _ _ (aj A e.cell) [e.other] (by exact ha1) (by exact za5 hs2<|by assumption) hal) dC (.inr iR) ?_; rintro _ _ _ ⟨rfl,rfl,rfl⟩; refine SX.u (i:=11) I kD (SU.eq (v':=vb true) (SU.not I)<|ze5 vb (by rw[zg1 hab]; rfl)) dC ?_; refine SX.u (i:=12) I kD (mV I) dC ?_; refine SX.off (i:=13) I kD (gZ I I I dC) dC ?_; refine SX.off (i:=14) I kD (gZ I I I dC) dC ?_; refine SX.off (i:=15) I kD (gZ I I I dC) dC ?_; refine SX.off (i:=16) I kD (gZ I I I dC) dC ?_; refine SX.off (i:=17) I kD (gZ I I I dC) dC ?_; refine SX.off (i:=18) I kD (gZ I I I dC) dC ?_)
      | (refine SB.offo (i:=19) I (gZ I I I dC) dC ⟨by assumption,(by exact .refl _)⟩ ?_; refine SX.off (i:=20) I kD (gZ I I I dC) dC ?_; refine SX.off (i:=21) I kD (gZ I I I dC) dC ?_; refine SX.u (i:=22) I kD (wT I I) dC ?_)
      | refine zd9 6 9 kD ?_ ?_
      | refine zd8 9 kD ?_
      | refine zd8 10 kD ?_
      | refine zd8 19 kD ?_
      | refine zd8 6 kD ?_
      | (refine SX.nil kD ?_; exact za9 _ ⟨I,I,(by rw[zg1 hab]; rfl),trivial⟩ rfl rfl hleB))
   rintro g1 hle1;try dsimp only at hle1 ⊢
   refine iQ I (fun hcond=>?_) (fun hcond=>?_)
   ·have hcode:dP A e=32:=by
     unfold dP;rw[hc,ho,Bool.and_true,zg4 rfl,zg3];rintro ⟨h1,h2⟩;rw[zg2 h1,zg1 h2] at hcond;cases hcond
    rw[hcode];exact rZ<|aT I<|rE<|tR<|za8 (.inl I) results82 I ⟨hle1,I,by rw[zg3 dC]; exact⟨[_,_,_,_],I⟩⟩
   ·rw[Bool.or_eq_false_iff,Bool.not_eq_false',zj9,decide_eq_false_iff_not] at hcond;obtain ⟨hab,hno⟩:=hcond;have hcode:dP A e=0:=by
     unfold dP;rw[hc,ho,Bool.and_true,zg4 rfl,zg4 ⟨hab,hno⟩]
    have hany:=hmem hab;have hne:¬ e.other=e.cell:=fun h=>hno (by rw[h,hab]; simp);rw[hcode];have hall1:=hall.mono fun _ _=>ar.mono hle1
    rcases fw (fun _ _ h=>h.1) hall1 e.other with ⟨h1,_⟩ | ⟨cy,ry,h1,h2,h3⟩
    ·unfold aB at ho;rw[h1] at ho;cases ho
    have hcs:bA A e=cy.sides:=by unfold bA aB; rw[h1]; rfl
    have hch:eI A e=(cy.sides.eraseIdx<|cy.sides.findIdx fun x=>decide (x.cell=e.cell)).map fun x=>(x.cell,-lh cy.sides (cy.sides.findIdx fun x=>decide (x.cell=e.cell)) * x.sign):=by unfold eI; rw[hcs]
    rw[hch];rw[hcs] at hsg hlen hany;obtain ⟨yi,yd,yp,yn,yc⟩:=ry;obtain ⟨-,-,hys⟩:=h3;dsimp only at hys;have hyn:yn=cy.sides.length:=zc2 hys;subst hyn;have hidx:uz (fun x=>decide (x.cell=e.cell)) cy.sides=((cy.sides.findIdx fun x=>decide (x.cell=e.cell):Nat):Int):=zg4 hany;have hil:(cy.sides.findIdx fun x=>decide (x.cell=e.cell))<cy.sides.length:=by
     obtain ⟨x,hx,hx2⟩:=zk2.1 hany;exact List.findIdx_lt_length_of_exists ⟨x,hx,hx2⟩
    generalize hi0:(cy.sides.findIdx fun x=>decide (x.cell=e.cell))=i0 at *;have hgi:cy.sides[((i0:Nat):Int).toNat]?=some cy.sides[i0]:=gE hil;have hcsg:lh cy.sides i0=cy.sides[i0].sign:=by unfold lh; rw[gE hil]; rfl
    have hs1:=hsg _<|gM hil;rw[hcsg];generalize cy.sides[i0]=z at *;obtain ⟨zc,zs⟩:=z;dsimp only at hs1 hcsg ⊢;have hneg:IntKind.i64.wrap (0 - zs) = -zs:=by rcases hs1 with h | h <;> subst h <;> decide
    have hby:=za6 hys oM;refine kP<|tN<|sQ<|dW [] [(0,2),(1,2),(2,2),(3,1),(4,2),(5,1),(6,1),(7,2),(8,2)] ze6 kR<|yM I<|pU I (nC I)<|pU I (fA dh I ef I)<|pK I (qL (v:=.map<|some mb) ek I<|cO 1 I I)<|pU I (fA aU I zT3 I)<|pK I (qL (v:=vi e.other) iT3 I<|cO 0 I I)<|pK I (SQ.eq (v':=.agg #[vi yi,vi yd,.slice yp cy.sides.length yc]) (SQ.lookup mty104 I I<|cH.own 2 I) (by rw[h2]; rfl)) ?_;refine pU I (SU.field aq I aX I I)<|pU I (aS I)<|pN<|tN<|sW I<|lU (SU.mkFunc I)<|lW (cL call123 I<|rv E g1 _ _ _ cy.sides (fun x=>decide (x.cell=e.cell)) hys oM I<|fun x=>Am E g1 _ b3 e _ _ x 0 I) ?_;rintro _ _ _ ⟨rfl,rfl,rfl⟩;rw[hidx];refine aT I<|rZ<|aT I<|sQ<|sW I<|lU (eN aM I)<|lM I<|tZ<|bK<|zb6 77 3<|oP (ι:=Nat×PH×Value) (fun i=>[(0,pp bx 0),(3,pp b3 0),(5,.slice yp cy.sides.length yc),(6,vi i0),(7,i.2.2),(56,.slice yp cy.sides.length yc),(57,vi cy.sides.length),(58,vi i.1)]) (fun i=>i.2.1)
     (fun i=>rowA ci 77 i.2.2 (((cy.sides.take i.1).eraseIdx i0).map fun x=>(x.cell,-zs * x.sign))::pt b3 (.cells (edV e (.slice sp e.sides.length sc)<|.slice qp e.pairs.length qc) 35 (0,0))::edP bx (.slice p A.length c) mb ms false::mp mb (rs.map ak)::mp ms []::s)
     (fun i=>i.1≤cy.sides.length∧Le g1 i.2.1) (fun i=>cy.sides.length - i.1) (0,g1,.slice none 0 0) sB rfl rfl ⟨zf9 _,zb9 _⟩ ?_
    rintro ⟨k,g2,w⟩ ⟨hk,hle2⟩;dsimp only at hk hle2 ⊢;refine rZ<|yL I<|tZ<|sQ<|iP I (fun hlt=>?_) (fun hlt=>?_)
    ·have hkl:k<cy.sides.length:=oM;have hys2:=za5 hys hle2;have hgk:cy.sides[((k:Nat):Int).toNat]?=some cy.sides[k]:=gE hkl;have hsk:=hsg _<|gM hkl;have hes:i0≠k→((cy.sides.take<|k+1).eraseIdx i0).map (fun x=>(x.cell,-zs * x.sign))=((cy.sides.take k).eraseIdx i0).map (fun x=>(x.cell,-zs * x.sign))++[(cy.sides[k].cell,-zs * cy.sides[k].sign)]:=fun h=>by rw[ws hkl h,zg8]; rfl
     have hee:i0=k→((cy.sides.take<|k+1).eraseIdx i0).map (fun x=>(x.cell,-zs * x.sign))=((cy.sides.take k).eraseIdx i0).map (fun x=>(x.cell,-zs * x.sign)):=fun h=>by subst h; rw[wt hkl]
     have hel:(((cy.sides.take k).eraseIdx i0).map<|fun x=>(x.cell,-zs * x.sign)).length≤64:=by
      rw[ze9];have:=List.length_eraseIdx_le (cy.sides.take k) i0;rw[ze7] at this;omega
     generalize cy.sides[k]=y at *;obtain ⟨yc1,ys1⟩:=y;dsimp only at hsk hes;have hpr : -9223372036854775808 ≤ -zs * ys1 ∧ -zs * ys1≤9223372036854775807:=by rcases hs1 with h | h <;> rcases hsk with h' | h' <;> subst h <;> subst h' <;> decide
     refine kP<|tN<|sQ<|bK<|sW I<|lU (iA aM aH I I hby oM sL)<|lK (eA eK aH I (za7 hys2) hgk) (bW (aL zl6) fun b9=>?_);refine lA I<|oZ (sK 0 aH I I I I I sB)<|tZ<|sW I<|lM I<|lU (nQ I I)<|tZ<|iP I (fun hki=>?_) (fun hki=>?_)
     ·have hes':=hes oM;refine dW [14] [(0,2),(1,2),(2,1),(3,2),(4,2),(5,2),(6,2),(7,1),(8,2),(9,2),(10,1),(11,2),(12,0),(13,0),(14,0),(15,2)] ze6 kR<|yM I<|pU I (fA bZ I zT3 I)<|pK I (qL (v:=vi yc1) iT3 I<|cO 0 I I)<|yM I<|yM I<|pU I (iA aM aH I I hby oM sL)<|pU I (fC bZ I zT3 I hby)<|pK I (aZ (e:=encSide) (o:=1) (u:=vi zs) iT3 I (za7 hys2) hgi I)<|pU I (SU.eq (v':=vi<|-zs) (SU.neg I)<|ze5 vi hneg)<|pU I (fA bZ I zT3 I)<|pK I (qL (v:=vi ys1) iT3 I<|cO 0 I I)<|pU I (SU.mul I I hpr)<|SP.o I (cL call87 I<|ji E g2 _ yc1 (-zs * ys1) hpr.1 oM) dC (.inr iR) ?_;rintro _ g3 _ ⟨rfl,rfl,hle3⟩;refine SP.o I (bS sty72 I I I (ae ⟨I,trivial⟩) dC) dC (.inr iR) ?_;rintro _ _ _ ⟨b79,rfl,rfl,rfl⟩;refine SP.o I (aP (e:=ci) 1 (yc1,-zs * ys1) sty72 I I I I I oM oM) dC (.inl dC) ?_;rintro w' _ _ ⟨rfl,rfl⟩;exact pU I (aS I)<|pN<|bN<|tN<|rG<|yD I<|lM I<|nL<|dR (.cons _<|.refl _)<|gA (k+1,g3,w') sB I (by dsimp only; rw[hes']; rfl) ⟨by dsimp only; omega,hle2.trans hle3⟩ (by dsimp only; omega)
     ·have hee':=hee oM;exact kP<|bN<|tN<|rG<|yD I<|lM I<|nL<|dR (.cons _<|.refl _)<|gA (k+1,g2,w) sB I (by dsimp only; rw[hee']) ⟨by dsimp only; omega,hle2⟩ (by dsimp only; omega)
    ·have hkk:cy.sides.take k=cy.sides:=tL oM;rw[hkk];have hput:eR (eR [] e.cell w) e.other (.slice none 0 0)=gO [(e.cell,w,(cy.sides.eraseIdx i0).map fun x=>(x.cell,-zs * x.sign)),(e.other,.slice none 0 0,[])]:=by
      show eR [(e.cell,w)] e.other _=_;unfold eR;rw[zg3 hne];rfl
     refine xI<|tX<|tX<|bX<|tN<|sQ<|SC.drawT 3 [] [(0,2),(1,2),(2,2),(3,1),(4,2),(5,1),(6,2),(7,2),(8,2),(9,1),(10,2),(11,1),(12,2),(13,0),(14,2),(15,0),(16,0),(17,2),(18,0)] ze6 kR<|yM rfl<|pU rfl (nC rfl)<|pU rfl (fA dh rfl sizeOf127 rfl)<|pK rfl (qL (v:=.map<|some ms) isAgg127 rfl<|cO 2 rfl rfl)<|pU rfl (fA aU rfl zT3 rfl)<|pK rfl (qL (v:=vi e.cell) iT3 rfl<|cO 1 rfl rfl)<|yM rfl<|pU rfl (nC rfl)<|pU rfl (fA dh rfl sizeOf127 rfl)<|pK rfl (qL (v:=.map<|some ms) isAgg127 rfl<|cO 2 rfl rfl)<|pU rfl (fA aU rfl zT3 rfl)<|pK rfl (qL (v:=vi e.other) iT3 rfl<|cO 1 rfl rfl)<|yM rfl<|SP.o rfl (SO.mapEntry 4 mty127 rfl rfl rfl) dC (.inr (by rintro _ _ _ ⟨st1,j1,l1,rfl,rfl,rfl,hk1,hp1⟩; exact⟨by exact zb9 _,(by exact fM _ _ _ _)⟩)) ?_;rintro _ _ _ ⟨st1,j1,l1,rfl,rfl,rfl,hk1,hp1⟩;refine pU rfl (xT rfl rfl)<|SP.on rfl (SO.entryStore 4 rfl rfl rfl rfl hk1) (.inr (by rintro _ _ _ ⟨rfl,rfl⟩; exact⟨by exact zb9 _,(by exact .cons_cons _<|.cons_cons _<|.cons_cons _<|List.nil_sublist _)⟩)) ?_;rintro _ _ _ ⟨rfl,rfl⟩;rw[← hp1];refine SP.o rfl (SO.mapEntry 4 mty127 rfl rfl rfl) dC (.inr (by rintro _ _ _ ⟨st2,j2,l2,rfl,rfl,rfl,hk2,hp2⟩; exact⟨by exact zb9 _,(by exact .cons_cons _<|.cons_cons _<|.cons_cons _<|List.nil_sublist _)⟩)) ?_;rintro _ _ _ ⟨st2,j2,l2,rfl,rfl,rfl,hk2,hp2⟩;refine pU rfl (xT rfl rfl)<|SP.on rfl (SO.entryStore 4 rfl rfl rfl rfl hk2) (.inr (by rintro _ _ _ ⟨rfl,rfl⟩; exact⟨by exact zb9 _,(by exact .cons_cons _<|.cons_cons _<|.cons_cons _<|List.nil_sublist _)⟩)) ?_;rintro _ _ _ ⟨rfl,rfl⟩;rw[← hp2,hput];refine pN<|tN<|sQ ?_;refine dW [6] [(0,2),(1,2),(2,2),(3,1),(4,2),(5,1),(6,0)] ze6 kR ?_;refine yM I<|pU I (nC I)<|pU I (fA dh I ef I)<|pK I (qL (v:=.map<|some mb) ek I<|cO 2 I I)<|pU I (fA aU I zT3 I)<|pK I (qL (v:=vi e.cell) iT3 I<|cO 1 I I)<|SP.on I (SO.delete 3 mty104 I I I) (.inl dC) ?_;rintro _ _ _ ⟨rfl,rfl⟩;refine pN<|tN<|sQ ?_;refine dW [6] [(0,2),(1,2),(2,2),(3,1),(4,2),(5,1),(6,0)] ze6 kR ?_;refine yM I<|pU I (nC I)<|pU I (fA dh I ef I)<|pK I (qL (v:=.map<|some mb) ek I<|cO 2 I I)<|pU I (fA aU I zT3 I)<|pK I (qL (v:=vi e.other) iT3 I<|cO 1 I I)<|SP.on I (SO.delete 3 mty104 I I I) (.inl dC) ?_;rintro _ _ _ ⟨rfl,rfl⟩;rw[mZ,mZ];refine pN (tN<|rZ<|aT rfl<|rE<|ST.facts fun ⟨w0,hw0⟩=>?_);obtain ⟨wp,wc,hwf⟩:=ag (e:=ci) (l:=(cy.sides.eraseIdx i0).map fun x=>(x.cell,-zs * x.sign)) (i:=0) hw0 rfl;clear hw0 w0;refine ST.nilRow 77 3 ?_;refine ST.to (g':=g2) (s':=edP bx (.slice p A.length c) mb ms false::mp mb ((mW (mW rs e.cell) e.other).map ak)::mp ms (gO [(e.cell,w,(cy.sides.eraseIdx i0).map fun x=>(x.cell,-zs * x.sign)),(e.other,.slice none 0 0,[])])::(dv [(e.cell,w,(cy.sides.eraseIdx i0).map fun x=>(x.cell,-zs * x.sign)),(e.other,.slice none 0 0,[])]++s)) (fun w1 hw1=>?_) ?_
     ·have h5:=hw1.sublist (s':=rowA ci 77 (.slice none 0 0) []::rowA ci 77 w ((cy.sides.eraseIdx i0).map fun x=>(x.cell,-zs * x.sign))::([edP bx (.slice p A.length c) mb ms false,mp mb<|(mW (mW rs e.cell) e.other).map ak,mp ms<|gO [(e.cell,w,(cy.sides.eraseIdx i0).map fun x=>(x.cell,-zs * x.sign)),(e.other,.slice none 0 0,[])]]++s))<|.cons_cons _<|.cons_cons _<|.cons _<|.refl _;refine h5.perm<|(zk4 _ _ _).trans ?_;have h6:∀ (x y:Ent) (L:Own),(x::y::(L++s)).Perm (L++(x::y::s)):=fun x y L=>(List.perm_append_comm (l₁:=[x,y]) (l₂:=L)).append_right s |>.trans (by simp);exact h6 _ _ _
     exact za8 (.inl I) results82 I ⟨hle1.trans hle2,I,by rw[zg4 I]; exact⟨w,wp,_,wc,hwf,I⟩⟩
set_option maxHeartbeats 4000000
theorem SU.min2 {P:Program}{N:Nat}{f:Fr}{dst:Option Tmp}{ty:TypeId}{pos:String}{af:Array Edge}{gd:Option (Nat×Bool)}{x y:Operand}{T U:TypeId}{m n:Int}(hx:ev f x=some (vi m))(hy:ev f y=some (vi n)) :
  SU P N ⟨dst,.call ⟨.builtin .min,#[x,y],#[T,U]⟩,ty,pos,af,gd⟩ f (vi<|min m n):=fun a w ha=>by
 have h:=run_min_int2 (P:=P) (w:=w) #[T,U] ty .i64 .i64 m n;have h2:(if n<m then n else m)=min m n:=by split <;> omega
 rw[h2] at h;simp[execOp,resolve,invoke,builtin,ha.ev hx,ha.ev hy,h]
theorem pL (id:Int):∀ {B:List Cl} {rs:List Rc},aA fZ B rs→(aB B id=none∧dS (rs.map ak) id=none)∨∃ (m:Nat) (c:Cl) (r:Rc),aB B id=some c∧c.id=id∧dS (rs.map ak) id=some (rcv r)∧fZ c r∧(dM B rs)[m]?=some (qi c r) ∧
  ∀ c' r',c'.id=id→r'.id=id→fZ c' r'→(dM B rs).set m (qi c' r')=dM (em B c') (iw rs r')∧aA fZ (em B c') (iw rs r')
 | [],[],_=>.inl ⟨rfl,rfl⟩
 | c::B,r::rs,⟨h1,h2⟩=>by
  have hm:(r::rs).map ak=(r.id,rcv r)::rs.map ak:=rfl;rw[hm,cQ];unfold aB;rw[zi9];by_cases e:c.id=id
  ·rw[zg2 e,zg4 (by rw[h1.1,e])];refine .inr ⟨0,c,r,I,e,I,h1,I,fun c' r' e1 e2 h3=>?_⟩;have e3:em (c::B) c'=c'::B:=by simp[em,e,e1]
   have e4:iw (r::rs) r'=r'::rs:=by simp[iw,h1.1,e,e2]
   rw[e3,e4];exact⟨I,h3,h2⟩
  ·rw[zg1 e,zg3 (by rw[h1.1]; exact fun h=>e h.symm)]
   rcases pL id h2 with ⟨h3,h4⟩ | ⟨m,c0,r0,h3,h4,h5,h6,h7,h8⟩
   ·exact .inl ⟨h3,h4⟩
   ·refine .inr ⟨m+1,c0,r0,h3,h4,h5,h6,h7,fun c' r' e1 e2 h9=>?_⟩;have e':¬ id=c.id:=fun h=>e h.symm;have e3:em (c::B) c'=c::em B c':=by simp[em,e',e1]
    have e4:iw (r::rs) r'=r::iw rs r':=by simp[iw,h1.1,e',e2]
    rw[e3,e4];obtain ⟨h10,h11⟩:=h8 c' r' e1 e2 h9;exact⟨by show qi c r::(dM B rs).set m _=_; rw[h10]; rfl,h1,h11⟩
 | [],_::_,h=>h.elim
 | _::_,[],h=>h.elim
def Ba (l:List Side)(cell:Int):Int:=((l.find? fun x=>decide (x.cell=cell)).map Side.sign).getD 0
def eT (e:Ed)(y:Cl):Cl:=⟨y.id,y.dim,y.sides++[⟨e.other,Ba y.sides e.cell⟩]⟩
def aY (A:List Cl)(e:Ed)(ids:List Int):List Cl:=A.map fun y=>if y.id∈ids then eT e y else y
theorem nG {e:Ed}{ids:List Int}{id:Int}(hid:id ∉ ids){y:Cl}:∀ {A:List Cl},(A.map Cl.id).Nodup→aB A id=some y→em (aY A e ids) (eT e y)=aY A e (ids++[id])
 | [],_,hy=>by cases hy
 | c::A,hn,hy=>by
  rw[zg7,zk6] at hn;unfold aB at hy;rw[zi9] at hy;have hs:∀ i,aY (c::A) e i=(if c.id∈i then eT e c else c)::aY A e i:=fun _=>rfl;rw[hs,hs];by_cases h:c.id=id
  ·rw[zg2 h] at hy;injection hy with hy
   subst hy;subst h;rw[zg3 hid,zg4 (by simp)];have e1:em (c::aY A e ids) (eT e c)=eT e c::aY A e ids:=by simp[em,eT]
   rw[e1];congr 1;unfold aY;refine zc9 fun x hx=>?_;have hne:x.id≠c.id:=fun he=>hn.1 (by rw[← he]; exact zf5.2 ⟨x,hx,I⟩);by_cases h1:x.id∈ids
   ·rw[zg4 h1,zg4 (by simp[h1])]
   ·rw[zg3 h1,zg3 (by simp[h1,hne])]
  ·rw[zg1 h] at hy;have hyid:y.id=id:=by simpa using List.find?_some hy
   have ih:=nG (e:=e) hid hn.2 hy;have h1:(if c.id∈ids then eT e c else c).id=c.id:=by split <;> rfl
   have e1:∀ (d:Cl) (L:List Cl),d.id=c.id→em (d::L) (eT e y)=d::em L (eT e y):=fun d L hd=>by
    have:¬ (eT e y).id=d.id:=by rw[hd]; show ¬ y.id=c.id; rw[hyid]; exact fun h'=>h h'.symm
    simp[em,this]
   rw[e1 _ _ h1,ih];congr 1;by_cases h2:c.id∈ids
   ·rw[zg4 h2,zg4 (by simp[h2])]
   ·rw[zg3 h2,zg3 (by simp[h2,h])]
theorem md {A:List Cl}{e:Ed}{ids:List Int}{id:Int}(hid:id ∉ ids):aB (aY A e ids) id=aB A id:=by
 unfold aB aY;rw[List.find?_map];have h1:((fun c:Cl=>decide (c.id=id)) ∘ fun y=>if y.id∈ids then eT e y else y)=fun c:Cl=>decide (c.id=id):=by
  funext c;simp only[Function.comp];split <;> rfl
 rw[h1];cases h:A.find? fun c=>decide (c.id=id) with
 | none=>rfl
 | some c =>
  have:c.id=id:=by simpa using List.find?_some h
  rw[Option.map_some,zg3 (by rw[this]; exact hid)]
def iK (l:List Side)(b:Bool):Side:=(l.find? fun x=>decide (0<x.sign) == b).getD ⟨0,0⟩
def be (A:List Cl)(e:Ed):Int:=match aB A e.cell with
 | none=>30
 | some c=>if c.dim≠1 then 21 else if min e.new e.other<1∨e.new=e.other then 1 else if (aB A e.new).isSome||(aB A e.other).isSome then 54 else 0
def eZ (A:List Cl)(e:Ed):List Cl :=
 em (em (em (aY A e<|aj A e.cell) ⟨e.new,0,[]⟩) ⟨e.other,1,[⟨e.new,-1⟩,iK ((aB A e.cell).getD bD).sides true]⟩) ⟨e.cell,1,[iK ((aB A e.cell).getD bD).sides false,⟨e.new,1⟩]⟩
theorem BS (E:World)(g:PH)(s:Own)(q:Option Addr)(c:Nat)(fv:Value)(l:List Side)(p:Side→Bool)(hv:Rd g s (.slice q l.length c) (l.flatMap encSide.enc))(hb:0<l.length→based (.slice q l.length c)=true)(hl:l.length<1099511627776)(hfv:fv.cells = #[fv])(hc:∀ x:Side,dA Tryz.prog E fv [.agg #[vi x.cell,vi x.sign]] g s (fun r g' s'=>r=vb (p x)∧g=g'∧s=s')) :
  Ctr Tryz.prog E 123 #[.slice q l.length c,fv] g s (fun r g' s'=>r=vi (uz p l)∧g=g'∧s=s'):=by
 refine zb2 (args:=[.slice q l.length c,fv]) func123 I ntmps123 (bE I)<|rZ<|aT I<|sQ<|sW I<|lU (eN aM I)<|lM I<|tZ<|bK<|oP (ι:=Nat) (fun k=>[(0,.slice q l.length c),(1,fv),(7,vi l.length),(8,vi k)]) (fun _=>g) (fun _=>s)
  (fun k=>k≤l.length∧∀ j (hj:j<k) (hl:j<l.length),p l[j]=false) (fun k=>l.length - k) 0 sB rfl rfl ⟨zf9 _,fun j hj=>absurd hj oM⟩ ?_
 rintro k ⟨hk,hno⟩;try dsimp only at hk hno ⊢
 refine rZ<|yL I<|tZ<|sQ<|iP I (fun hlt=>?_) (fun hlt=>?_)
 ·have hkl:k<l.length:=oM;have hb1:=hb oM;have hgk:l[((k:Nat):Int).toNat]?=some l[k]:=gE hkl;have hhere:=fun h=>uV (p:=p) hkl (fun j hj=>hno j hj oM) h;have hsucc:p l[k]=false→∀ j (hj:j<k+1) (hl:j<l.length),p l[j]=false:=fun h j hj hl=>by
   by_cases e:j=k
   ·subst e; exact h
   ·exact hno j oM hl
  generalize l[k]=x at *;refine kP<|tN<|sQ<|bK<|sW I<|aT I<|sW I<|lM I<|lM I<|lU (iA aM aH I I hb1 oM sL)<|lK (eA eK aH I hv hgk)<|lW (SO.callV I I<|hc x) ?_;rintro _ _ _ ⟨rfl,rfl,rfl⟩;refine tZ<|iQ I (fun hp=>?_) (fun hp=>?_)
  ·exact sW I<|aT I<|rE<|bR<|tR<|tR<|bR<|tR<|za8 (.inl I) results123 I ⟨by rw[hhere hp],I,I⟩
  ·exact kP<|bN<|tN<|rG<|yD I<|lM I<|nL<|gA (k+1) sB I I ⟨oM,hsucc hp⟩ oM
 ·exact xI<|tX<|tX<|bX<|tN<|rZ<|aT I<|rE<|za8 (.inl I) results123 I ⟨by rw[uU fun j hj=>hno j oM hj],I,I⟩
theorem Al (E:World)(g:PH)(s:Own)(b3:Nat)(e:Ed)(sv pv:Value)(x:Side)(q:Nat)(hq:s[q]?=some (pt b3<|.cells (edV e sv pv) 35 (0,0))) :
  dA Tryz.prog E (.func (.func 124) #[] #[pp b3 0]) [.agg #[vi x.cell,vi x.sign]] g s (fun r g' s'=>r=vb (decide (x.cell=e.cell))∧g=g'∧s=s'):=by
 refine dA.mk (args:=[_]) (cap:=[pp b3 0]) call124<|zb2 (args:=[.agg #[vi x.cell,vi x.sign],pp b3 0]) func124 I ntmps124 (bE I)<|rZ (bW (bO I) fun b2=>?_);exact aT I<|rZ<|lU (fA bZ I zT3 I)<|lK (qL (v:=vi x.cell) iT3 I<|cO 0 I I)<|lU (fA aU I zT3 I)<|lK (qL (v:=vi e.cell) iT3 I<|cO (q+1) hq I)<|yE I<|aT I<|rE<|dR (s':=s) uR<|za8 (.inl I) results124 I ⟨I,I,I⟩
theorem BQ (E:World)(g:PH)(s:Own)(x:Side) :
  dA Tryz.prog E (.func (.func 125) #[] #[]) [.agg #[vi x.cell,vi x.sign]] g s (fun r g' s'=>r=vb (decide (0<x.sign))∧g=g'∧s=s'):=by
 refine dA.mk (args:=[_]) (cap:=[]) call125<|zb2 (args:=[.agg #[vi x.cell,vi x.sign]]) func125 I ntmps125 (bE I)<|rZ (bW (bO I) fun b1=>?_);exact aT I<|rZ<|lU (fA bZ I zT3 I)<|lK (qL (v:=vi x.sign) iT3 I<|cO 0 I I)<|lU (gR I I)<|aT I<|rE<|dR (s':=s) uR<|za8 (.inl I) results125 I ⟨I,I,I⟩
theorem SC.freezeO {P:Program}{N:Nat}{E:World}{c:Code}{Q:Exit→Act→World→Prop}{f:Fr}{g:PH}{L s:Own}{A:List Cl}{rs:List Rc}(hO:aA fZ A rs)
  (h:∀ g1,Le g g1→aA (ar g1) A rs→SC P N E c Q f g1 (L++s)):SC P N E c Q f g (L++(dM A rs++s)):=fun a w ha hw=>by
 have h1:(L++(dM A rs++s)).Perm (dM A rs++(L++s)):=by
  rw[← zh2,← zh2];exact List.perm_append_comm.append_right s
 obtain ⟨g1,h2,h3,h4⟩:=Go.Proofs.YtackilpikhkijaaGreatDoor.freezeO hO<|hw.perm h1;exact h g1 h2 h4 a w ha h3
theorem BH {a b:Rc}(h:rcv a=rcv b):a=b:=by
 obtain ⟨ai,ad,ap,an,ac⟩:=a;obtain ⟨bi,bd,bp,bn,bc⟩:=b;simp[rcv] at h;obtain ⟨rfl,rfl,rfl,rfl,rfl⟩:=h;rfl
theorem Tryz.buildI53 (x:Int)(w:World):(Instr.build 53 #[(0,vi x)]).run Tryz.prog w = .ok (.agg #[vi x,vi 0,.slice none 0 0]) w:=by
 have h1:(vi x).cells = #[vi x]:=rfl;simp[Instr.build,Instr.fill,h1];rfl
theorem BA {l:List Side}{cell:Int}{i:Nat}(hi:i<l.length)(h:(l.findIdx fun x=>decide (x.cell=cell))=i):Ba l cell=l[i].sign:=by
 unfold Ba;have h1:l.find? (fun x=>decide (x.cell=cell))=some l[i]:=by
  obtain ⟨h2,h3⟩:=(List.findIdx_eq hi).1 h;exact List.find?_eq_some_iff_getElem.2 ⟨h2,i,hi,I,fun j hj=>by rw[h3 j hj]; rfl⟩
 rw[h1];rfl
theorem BW {l:List Side}{z0 z1:Side}(hl:l=[z0,z1])(h:(z0.sign=1∧z1.sign = -1)∨(z0.sign = -1∧z1.sign=1)):∃ (i:Nat) (zE zO:Side),i<2∧uz (fun x=>decide (0<x.sign)) l=(i:Int)∧l[i]?=some zE∧l[1 - i]?=some zO∧iK l true=zE∧iK l false=zO:=by
 subst hl
 rcases h with ⟨h0,h1⟩ | ⟨h0,h1⟩
 ·exact⟨0,z0,z1,oM,by simp[uz,h0,h1,List.findIdx_cons],I,I,by simp[iK,h0,h1],by simp[iK,h0,h1]⟩
 ·exact⟨1,z1,z0,oM,by simp[uz,h0,h1,List.findIdx_cons],I,I,by simp[iK,h0,h1],by simp[iK,h0,h1]⟩
theorem vJ (E:World)(g:PH)(s:Own)(bx mb ms:Nat)(u v:Value)(e:Ed)(A:List Cl)(rs:List Rc)(hu:ao g u A)(hf:bo A)(hn:(A.map Cl.id).Nodup)(hO:aA fZ A rs)(he:EdR g v e)
  (hab:∀ id∈aj A e.cell,∃ y,aB A id=some y∧y.sides.any (fun x=>decide (x.cell=e.cell))=true∧y.sides.length≤64) (habn:(aj A e.cell).Nodup) (hself:e.cell ∉ aj A e.cell)
  (hedge:∀ c,aB A e.cell=some c→c.dim=1→∃ z0 z1,c.sides=[z0,z1]∧((z0.sign=1∧z1.sign = -1)∨(z0.sign = -1∧z1.sign=1))) :
  Ctr Tryz.prog E 80 #[pp bx 0,v] g (edP bx u mb ms false::mp mb (rs.map ak)::mp ms []::(dM A rs++s)) (fun r g' s'=>Le g g'∧r=vi (be A e) ∧
   (if be A e=0 then ∃ rs' v1 p n c,v1 = .slice p n c∧aA (ar g') (eZ A e) rs'∧s'=edP bx u mb ms false::mp mb (rs'.map ak)::mp ms (gO [(e.cell,v1,[(e.cell,1),(e.other,1)])])::(dv [(e.cell,v1,[(e.cell,1),(e.other,1)])]++s) else ∃ h,s'=h++s)):=by
 obtain ⟨sv,pv,rfl,hsv,hpv⟩:=he;obtain ⟨p,c,rfl⟩:=hu.form;have hsvf:=za4 hsv;have hpvf:=za4 hpv;obtain ⟨sp,sc,rfl⟩:=hsvf;obtain ⟨qp,qc,rfl⟩:=hpvf;have hHl:(aj A e.cell).length<1099511627776:=Nat.lt_of_le_of_lt (by unfold aj; rw[ze9]; exact zc6 _ _) (bP hf).1;refine zb2 (args:=[pp bx 0,.agg #[vi e.kind,vi e.cell,vi e.dim,vi e.new,vi e.other,.slice sp e.sides.length sc,.slice qp e.pairs.length qc]]) func80 I ntmps80 (bE I) ?_
 rcases pL e.cell hO with ⟨h1,h2⟩ | ⟨m0,c0,r0,h1,hcid,h2,hco,hrow0,-⟩
 ·have hcode:be A e=30:=by unfold be; rw[h1]
  rw[hcode];refine rZ (bW (bO I) fun b3=>?_);refine aT I<|sQ<|dW [] [(0,2),(1,2),(2,2),(3,1),(4,2),(5,1),(6,1),(7,2),(8,2),(9,2),(10,0),(11,0),(12,2)] ze6 kR<|yM I<|pU I (nC I)<|pU I (fA dh I ef I)<|pK I (qL (v:=.map<|some mb) ek I<|cO 1 I I)<|pU I (fA aU I zT3 I)<|pK I (qL (v:=vi e.cell) iT3 I<|cO 0 I I)<|pK I (SQ.eq (v':=.tuple #[.agg #[vi 0,vi 0,.slice none 0 0],vb false]) (SQ.lookupOk mty104 I I<|cH.own 2 I) (by rw[h2]; rfl)) ?_;refine yM I<|pU I (xT I I)<|pU I (xT I I)<|SP.o I (aL zl8) dC (.inr iR) ?_;rintro _ _ _ ⟨b5,rfl,rfl,rfl⟩;refine SP.on I (sK 0 au I I I I I sB) (.inr iR) ?_;rintro _ _ _ ⟨rfl,rfl⟩;exact pU I (aS I)<|pN<|tN<|sQ<|bK<|sW I<|lU (SU.not I)<|aT I<|za2 I<|rZ<|aT I<|rE<|bR<|tR<|za8 (.inl I) results80 I ⟨zb9 _,I,by rw[zg3 dC]; exact⟨_::_::_::_::_::dM A rs,I⟩⟩
 obtain ⟨ri,rd,rp,rn,rc⟩:=r0;obtain ⟨e1,e2,e3⟩:=hco;dsimp only at e1 e2 e3;subst e1 e2 e3;refine rZ (bW (bO I) fun b3=>?_);refine aT I<|sQ<|dW [] [(0,2),(1,2),(2,2),(3,1),(4,2),(5,1),(6,1),(7,2),(8,2),(9,2),(10,0),(11,0),(12,2)] ze6 kR<|yM I<|pU I (nC I)<|pU I (fA dh I ef I)<|pK I (qL (v:=.map<|some mb) ek I<|cO 1 I I)<|pU I (fA aU I zT3 I)<|pK I (qL (v:=vi e.cell) iT3 I<|cO 0 I I)<|pK I (SQ.eq (v':=.tuple #[.agg #[vi c0.id,vi c0.dim,.slice rp c0.sides.length rc],vb true]) (SQ.lookupOk mty104 I I<|cH.own 2 I) (by rw[h2]; rfl)) ?_;refine yM I<|pU I (xT I I)<|pU I (xT I I)<|SP.o I (aL zl8) dC (.inr iR) ?_;rintro _ _ _ ⟨b5,rfl,rfl,rfl⟩;refine SP.on I (sK 0 au I I I I I sB) (.inr iR) ?_;rintro _ _ _ ⟨rfl,rfl⟩;refine pU I (aS I)<|pN<|tN<|sQ<|bK<|sW I<|lU (SU.not I)<|aT I<|za1 I<|rZ<|lU (fA aq I zT3 I)<|lK (qL iT3 I<|cO 0 I I)<|lU (nQ I I)<|aT I<|iP I (fun hd=>?_) (fun hd=>?_)
 ·have hcode:be A e=21:=by unfold be; rw[h1]; exact zg4 hd
  rw[hcode];exact rZ<|aT I<|rE<|bR<|tR<|za8 (.inl I) results80 I ⟨zb9 _,I,by rw[zg3 dC]; exact⟨_::_::_::_::_::dM A rs,I⟩⟩
 have hd1:c0.dim=1:=Decidable.not_not.1 hd;by_cases hmin:min e.new e.other<1
 ·have hcode:be A e=1:=by
   unfold be;rw[h1];show (if c0.dim≠1 then (21:Int) else if min e.new e.other<1∨e.new=e.other then 1 else _)=1;rw[zg3 hd,zg4<|.inl hmin]
  rw[hcode];exact rZ<|lU (fA aU I zT3 I)<|lK (qL (v:=vi e.new) iT3 I<|cO 1 I I)<|lU (fA aU I zT3 I)<|lK (qL (v:=vi e.other) iT3 I<|cO 1 I I)<|lU (SU.min2 I I)<|lU (SU.eq (v':=vb true) (lS I I)<|ze5 vb<|zg2 hmin)<|lM I<|yA I<|yA I<|yA I<|yA I<|yA I<|yP I<|aT I<|za2 I<|rZ<|aT I<|rE<|bR<|tR<|za8 (.inl I) results80 I ⟨zb9 _,I,by rw[zg3 dC]; exact⟨_::_::_::_::_::dM A rs,I⟩⟩
 refine rZ<|lU (fA aU I zT3 I)<|lK (qL (v:=vi e.new) iT3 I<|cO 1 I I)<|lU (fA aU I zT3 I)<|lK (qL (v:=vi e.other) iT3 I<|cO 1 I I)<|lU (SU.min2 I I)<|lU (SU.eq (v':=vb false) (lS I I)<|ze5 vb<|zg1 hmin)<|lM I<|lY I I I (fA aU I zT3 I)<|SL.gq (gT I I I dC) (qL (v:=vi e.new) iT3 I<|cO 1 I I) dC<|lY I I I (fA aU I zT3 I)<|SL.gq (gT I I I dC) (qL (v:=vi e.other) iT3 I<|cO 1 I I) dC<|lY I I I (eQ I I)<|yF I<|aT I<|iP I (fun hne=>?_) (fun hne=>?_)
 ·have hcode:be A e=1:=by
   unfold be;rw[h1];show (if c0.dim≠1 then (21:Int) else if min e.new e.other<1∨e.new=e.other then 1 else _)=1;rw[zg3 hd,zg4<|.inr hne]
  rw[hcode];exact rZ<|aT I<|rE<|bR<|tR<|za8 (.inl I) results80 I ⟨zb9 _,I,by rw[zg3 dC]; exact⟨_::_::_::_::_::dM A rs,I⟩⟩
 have hcode:be A e=if (aB A e.new).isSome||(aB A e.other).isSome then 54 else 0:=by
  unfold be;rw[h1];show (if c0.dim≠1 then (21:Int) else if min e.new e.other<1∨e.new=e.other then 1 else if (aB A e.new).isSome||(aB A e.other).isSome then 54 else 0)=_;rw[zg3 hd,zg3 (fun h=>h.elim hmin hne)]
 rw[hcode];cases hnw:(aB A e.new).isSome with
 | true =>
  have e54:(if (true||(aB A e.other).isSome)=true then (54:Int) else 0)=54:=rfl;rw[e54];refine sW I<|lU (fA aU I zT3 I)<|lK (qL (v:=vi e.new) iT3 I<|cO 1 I I)<|lW (cL call121 I<|bV E g _ bx mb ms _ false e.new _ (fun _ _ h=>h.1) A rs hO 2 3 I I) ?_;rintro _ _ _ ⟨rfl,rfl,rfl⟩;rw[hnw];exact lM I<|yA I<|yA I<|yA I<|yA I<|yP I<|aT I<|za2 I<|rZ<|aT I<|rE<|bR<|tR<|za8 (.inl I) results80 I ⟨zb9 _,I,by rw[zg3 dC]; exact⟨_::_::_::_::_::dM A rs,I⟩⟩
 | false =>
 rw[Bool.false_or];refine sW I<|lU (fA aU I zT3 I)<|lK (qL (v:=vi e.new) iT3 I<|cO 1 I I)<|lW (cL call121 I<|bV E g _ bx mb ms _ false e.new _ (fun _ _ h=>h.1) A rs hO 2 3 I I) ?_;rintro _ _ _ ⟨rfl,rfl,rfl⟩;rw[hnw];refine lM I<|yC I<|lY I I I (fA aU I zT3 I)<|SL.gq (gT I I I dC) (qL (v:=vi e.other) iT3 I<|cO 1 I I) dC<|ze4 (gT I I I dC) (cL call121 I<|bV E g _ bx mb ms _ false e.other _ (fun _ _ h=>h.1) A rs hO 2 3 I I) dC ?_;rintro _ _ _ ⟨rfl,rfl,rfl⟩;refine yF I<|aT I<|iQ I (fun hot=>?_) (fun hot=>?_)
 ·rw[zg4 hot];exact rZ<|aT I<|rE<|bR<|tR<|za8 (.inl I) results80 I ⟨zb9 _,I,by rw[zg3 dC]; exact⟨_::_::_::_::_::dM A rs,I⟩⟩
 rw[zg3 (by rw[hot]; exact Bool.false_ne_true)];refine kP<|bN<|tN<|sQ<|sQ<|dW [] [(0,2),(1,2),(2,2),(3,1),(4,2),(5,1),(8,2),(6,0),(7,2)] ze6 kR<|yM I<|pU I (nC I)<|pU I (fA dh I ah I)<|pK I (SQ.loadOne aw ah I<|cO (v:=.slice p A.length c) 2 I I)<|pU I (fA aU I zT3 I)<|pK I (qL (v:=vi e.cell) iT3 I<|cO 1 I I)<|yM I<|SP.o I (cL call122 I<|fB E g _ _ A e.cell hu hf) dC (.inr iR) ?_;rintro _ g1 _ ⟨rfl,hle1,hav⟩;obtain ⟨qa,da,rfl⟩:=za4 hav;refine pU I (eN aK I)<|pN<|tN<|bK ?_;have hat0:aY A e []=A:=by simp[aY]
 refine oP (ι:=Nat×List Rc) (fun i=>[(0,pp bx 0),(3,pp b3 0),(5,pp b5 0),(60,.slice qa (aj A e.cell).length da),(61,vi (aj A e.cell).length),(62,vi i.1)]) (fun _=>g1)
  (fun i=>pt b5 (.cells #[vi c0.id,vi c0.dim,.slice rp c0.sides.length rc] 53 (0,0))::pt b3 (.cells (edV e (.slice sp e.sides.length sc)<|.slice qp e.pairs.length qc) 35 (0,0))::edP bx (.slice p A.length c) mb ms false::mp mb (i.2.map ak)::mp ms []::(dM (aY A e<|(aj A e.cell).take i.1) i.2++s))
  (fun i=>i.1≤(aj A e.cell).length∧aA fZ (aY A e<|(aj A e.cell).take i.1) i.2∧dS (i.2.map ak) e.cell=some (rcv ⟨c0.id,c0.dim,⟨rp,c0.sides.length,rc⟩⟩)) (fun i=>(aj A e.cell).length - i.1) (0,rs)
  sB rfl (by dsimp only; rw[List.take_zero,hat0]; rfl) ⟨zf9 _,by dsimp only; rw[List.take_zero,hat0]; exact hO,h2⟩ ?_
 rintro ⟨k,rs1⟩ ⟨hk,hO1,hg1⟩;dsimp only at hk hO1 hg1 ⊢;refine rZ<|yL I<|tZ<|sQ<|iP I (fun hlt=>?_) (fun hlt=>?_)
 ·have hkl:k<(aj A e.cell).length:=oM;have hba:=za6 hav oM;have hgk:(aj A e.cell)[((k:Nat):Int).toNat]?=some (aj A e.cell)[k]:=gE hkl;have htk:(aj A e.cell).take (k+1)=(aj A e.cell).take k++[(aj A e.cell)[k]]:=tS hkl;obtain ⟨y,hy1,hy2,hy3⟩:=hab _<|gM hkl;have hnot:(aj A e.cell)[k] ∉ (aj A e.cell).take k:=fun hm=>by
   obtain ⟨j,hj,hje⟩:=zc8 hm;rw[ze7] at hj;rw[List.getElem_take] at hje;have:=(List.getElem_inj habn).1 hje;omega
  have hne1:e.cell≠(aj A e.cell)[k]:=fun h=>hself (by have h9:=gM hkl; rwa [← h] at h9);have hput:=nG (e:=e) hnot hn hy1;rw[← htk] at hput;have hfd:=md (e:=e) (A:=A) hnot;rw[hy1] at hfd;generalize hH1:(aj A e.cell).take (k+1)=H1 at *;generalize (aj A e.cell).take k=H0 at *;generalize (aj A e.cell)[k]=id at *
  rcases pL id hO1 with ⟨h3,_⟩ | ⟨m,y',r1,h3,hyid,h4,hco1,hrow1,hset1⟩
  ·rw[hfd] at h3; cases h3
  rw[hfd] at h3;injection h3 with h3
  subst h3;obtain ⟨si,sd,sp1,sn1,sc1⟩:=r1;obtain ⟨f1,f2,f3⟩:=hco1;dsimp only at f1 f2 f3;subst f1 f2 f3;subst hyid;have hm1:m<(dM (aY A e H0) rs1).length:=(zf8.1 hrow1).1;have hrow2:(dM (aY A e H0) rs1++s)[m]?=some (rowA encSide 55 (.slice sp1 y.sides.length sc1) y.sides):=by rw[zh5 hm1]; exact hrow1
  have hset2:∀ (q':Option Addr) (d':Nat) (x:Side),(eT e y).sides=y.sides++[x]→dM (aY A e H1) (iw rs1 ⟨y.id,y.dim,⟨q',(y.sides++[x]).length,d'⟩⟩)++s=(dM (aY A e H0) rs1++s).set m (rowA encSide 55 (.slice q' (y.sides++[x]).length d')<|y.sides++[x])∧aA fZ (aY A e H1) (iw rs1 ⟨y.id,y.dim,⟨q',(y.sides++[x]).length,d'⟩⟩):=fun q' d' x hx=>by
   obtain ⟨h5,h6⟩:=hset1 (eT e y) ⟨y.id,y.dim,⟨q',(y.sides++[x]).length,d'⟩⟩ rfl rfl ⟨rfl,rfl,by dsimp only; rw[hx]⟩;rw[hput] at h5 h6;refine⟨?_,h6⟩;rw[← h5,List.set_append_left _ _ hm1];unfold qi;rw[hx]
  have hidx:uz (fun x=>decide (x.cell=e.cell)) y.sides=((y.sides.findIdx fun x=>decide (x.cell=e.cell):Nat):Int):=zg4 hy2;have hil:(y.sides.findIdx fun x=>decide (x.cell=e.cell))<y.sides.length:=by
   obtain ⟨x,hx,hx2⟩:=zk2.1 hy2;exact List.findIdx_lt_length_of_exists ⟨x,hx,hx2⟩
  generalize hi0:(y.sides.findIdx fun x=>decide (x.cell=e.cell))=i0 at *;have hgi:y.sides[((i0:Nat):Int).toNat]?=some y.sides[i0]:=gE hil;have hws:(eT e y).sides=y.sides++[⟨e.other,y.sides[i0].sign⟩]:=by unfold eT; rw[BA hil hi0]
  generalize y.sides[i0]=z at *;obtain ⟨zc,zs⟩:=z;dsimp only at hws;refine zd5 fun ⟨w0,hw0⟩=>?_;obtain ⟨bb,cc,hbb⟩:=aO (i:=m+5) hw0 hrow2 oM;clear hw0 w0;have hby:based (.slice sp1 y.sides.length sc1)=true:=by rw[hbb]; rfl
  refine kP (tN (sQ (bK (rZ (lU (iA aK zT3 I I hba oM sL) (lK (eB iT3 I (za7 hav) hgk I) (aT I (sW I (lU (nC I) (lU (fA dh I ef I) (lK (qL (v:=.map (some mb)) ek I (cO 2 I I)) (lM I (lK (SQ.eq (v':=.agg #[vi y.id,vi y.dim,.slice sp1 y.sides.length sc1]) (SQ.lookup mty104 I I (cH.own 3 I)) (by rw[h4]; rfl)) ?_)))))))))))));refine bW (aL zl8) fun b9=>oZ (sK 0 au I I I I I sB)<|tZ (rZ (lU (fA aq I aJ I) (lK (qL (v:=.slice sp1 y.sides.length sc1) aX I (cO 0 I I)) (lU (SU.mkFunc I) (lW (cL call123 I (BS E g1 _ _ _ _ y.sides (fun x=>decide (x.cell=e.cell)) (zb7 (m+6) hrow2) (fun _=>hby) oM I (fun x=>Al E g1 _ b3 e _ _ x 2 I))) ?_)))));rintro _ _ _ ⟨rfl,rfl,rfl⟩;rw[hidx];refine aT I (sQ ?_);refine dW [12,14] [(0,2),(1,1),(2,2),(3,1),(4,2),(5,1),(6,2),(7,2),(8,2),(9,1),(10,2),(11,0),(12,0),(13,2),(14,0)] ze6 kR<|pU I (fA aq I aJ I) (pK I (qL (v:=.slice sp1 y.sides.length sc1) aX I (cO 0 I I)) (pU I (fA aU I zT3 I) (pK I (qL (v:=vi e.other) iT3 I (cO 2 I I)) (pU I (fA aq I aJ I) (pK I (qL (v:=.slice sp1 y.sides.length sc1) aX I (cO 0 I I)) (yM I (pU I (iA aM aH I I hby oM sL) ?_)))))));refine pU I (fC bZ I zT3 I hby) (pK I (aZ (e:=encSide) (o:=1) (u:=vi zs) iT3 I (zb7 (m+6) hrow2) hgi I) (pU I (za3 I (buildS55 _ _)) (SP.o I (bS sty32 I I I (ae ⟨I,trivial⟩) dC) dC (.inr iR) ?_)));rintro _ _ _ ⟨b87,rfl,rfl,rfl⟩;refine SP.o I (aP (e:=encSide) (m+6) ⟨e.other,zs⟩ sty32 I I I hrow2 I oM oM) dC (.inl dC) ?_;rintro v88 _ _ ⟨rfl,rfl⟩;refine zd3 fun ⟨w0,hw0⟩=>?_;obtain ⟨q',d',rfl⟩:=ag (e:=encSide) (l:=y.sides++[(⟨e.other,zs⟩:Side)]) (i:=m+6) hw0 (xw hrow2 _);clear hw0 w0;refine pU rfl (fA aq rfl aJ rfl) (SP.on rfl (SO.store1 0 aJ rfl rfl rfl rfl (bE rfl) (by rfl)) (.inl dC) ?_);rintro _ _ _ ⟨rfl,rfl⟩;refine pN (tN ?_);obtain ⟨hown,hO2⟩:=hset2 q' d' ⟨e.other,zs⟩ hws;refine SC.to (g':=g1) (s':=pt b9 (.cells #[vi y.id,vi y.dim,.slice q' (y.sides++[(⟨e.other,zs⟩:Side)]).length d'] 53 (0,0))::pt b5 (.cells #[vi c0.id,vi c0.dim,.slice rp c0.sides.length rc] 53 (0,0))::pt b3 (.cells (edV e (.slice sp e.sides.length sc) (.slice qp e.pairs.length qc)) 35 (0,0))::edP bx (.slice p A.length c) mb ms false::mp mb (rs1.map ak)::mp ms []::(dM (aY A e H1) (iw rs1 ⟨y.id,y.dim,⟨q',(y.sides++[(⟨e.other,zs⟩:Side)]).length,d'⟩⟩)++s)) (fun w hw=>by rw[hown]; exact hw) ?_;refine dW [6] [(0,2),(1,2),(2,2),(3,1),(4,2),(5,1),(6,0)] ze6 kR<|yM I (pU I (nC I) (pU I (fA dh I ef I) (pK I (qL (v:=.map (some mb)) ek I (cO 3 I I)) (yM I (pK I (qV 0 dn au I I I) (SP.on I (SO.mapUpdate 4 mty104 I I I I) (.inl dC) ?_))))));rintro _ _ _ ⟨rfl,rfl⟩;rw[show eR (rs1.map ak) y.id (.agg #[vi y.id,vi y.dim,.slice q' (y.sides++[(⟨e.other,zs⟩:Side)]).length d'])=(iw rs1 ⟨y.id,y.dim,⟨q',(y.sides++[(⟨e.other,zs⟩:Side)]).length,d'⟩⟩).map ak from iI ⟨y.id,y.dim,⟨q',(y.sides++[(⟨e.other,zs⟩:Side)]).length,d'⟩⟩ rs1];refine pN (bN (tN (rG (yD I (lM I (nL (dR (.cons _ (.refl _)) ?_)))))));exact gA (k+1,iw rs1 ⟨y.id,y.dim,⟨q',(y.sides++[(⟨e.other,zs⟩:Side)]).length,d'⟩⟩) sB I (by dsimp only; rw[hH1]; rfl) ⟨by dsimp only; omega,by dsimp only; rw[hH1]; exact hO2,by
   dsimp only;rw[← iI,rk,zg3 hne1];exact hg1⟩ (by dsimp only; omega)
 ·have hkk:(aj A e.cell).take k=aj A e.cell:=tL oM;rw[hkk] at hO1 ⊢;have hfe:=md (e:=e) (A:=A) hself;rw[h1] at hfe;obtain ⟨z0,z1,hz,hzs⟩:=hedge c0 h1 hd1;obtain ⟨iE,zE,zO,hiE,hixE,hgE,hgO,heE,heO⟩:=BW hz hzs;have hl2:c0.sides.length=2:=by rw[hz]; rfl
  have hout:eZ A e=em (em (em (aY A e<|aj A e.cell) ⟨e.new,0,[]⟩) ⟨e.other,1,[⟨e.new,-1⟩,zE]⟩) ⟨e.cell,1,[zO,⟨e.new,1⟩]⟩:=by
   unfold eZ;rw[h1];show em (em (em (aY A e<|aj A e.cell) ⟨e.new,0,[]⟩) ⟨e.other,1,[⟨e.new,-1⟩,iK c0.sides true]⟩) ⟨e.cell,1,[iK c0.sides false,⟨e.new,1⟩]⟩=_;rw[heE,heO]
  rw[hout];refine xI (tX<|tX<|bX<|tN<|sQ<|SC.freezeO (L:=[pt b5<|.cells #[vi c0.id,vi c0.dim,.slice rp c0.sides.length rc] 53 (0,0),pt b3<|.cells (edV e (.slice sp e.sides.length sc)<|.slice qp e.pairs.length qc) 35 (0,0),edP bx (.slice p A.length c) mb ms false,mp mb<|rs1.map ak,mp ms []]) hO1 fun g2 hle2 hall2=>?_);refine SC.to (g':=g2) (s':=pt b5 (.cells #[vi c0.id,vi c0.dim,.slice rp c0.sides.length rc] 53 (0,0))::pt b3 (.cells (edV e (.slice sp e.sides.length sc)<|.slice qp e.pairs.length qc) 35 (0,0))::edP bx (.slice p A.length c) mb ms false::mp mb (rs1.map ak)::mp ms []::s) (fun w hw=>hw) ?_;have hsl:SlA encSide g2 (.slice rp c0.sides.length rc) c0.sides:=by
   rcases fw (fun _ _ h=>h.1) hall2 e.cell with ⟨h5,_⟩ | ⟨c1,r1,h5,h6,h7⟩
   ·unfold aB at hfe; rw[h5] at hfe; cases hfe
   ·rw[hg1] at h6; injection h6 with h6; have h8:=BH h6; subst h8; unfold aB at hfe; rw[h5] at hfe; injection hfe with hfe; subst hfe; exact h7.2.2
  generalize aY A e (aj A e.cell)=B0 at *;have hbE:=za6 hsl oM;have hgE':c0.sides[((iE:Nat):Int).toNat]?=some zE:=hgE;have hgO':c0.sides[((1 - (iE:Int)):Int).toNat]?=some zO:=by rw[show (1 - (iE:Int)).toNat=1 - iE by omega]; exact hgO
  refine rG<|lU (fA aq I aJ I)<|lK (qL (v:=.slice rp c0.sides.length rc) aX I<|cO 0 I I)<|lW (cL call123 I<|rv E g2 _ _ _ c0.sides (fun x=>decide (0<x.sign)) hsl oM I<|fun x=>BQ E g2 _ x) ?_;rintro _ _ _ ⟨rfl,rfl,rfl⟩;rw[hixE];refine aT I<|sQ<|dW [9] [(0,2),(1,2),(2,2),(3,1),(4,2),(5,1),(6,2),(7,1),(8,2),(9,0)] ze6 kR<|yM I<|pU I (nC I)<|pU I (fA dh I ef I)<|pK I (qL (v:=.map<|some mb) ek I<|cO 2 I I)<|pU I (fA aU I zT3 I)<|pK I (qL (v:=vi e.new) iT3 I<|cO 1 I I)<|pU I (fA aU I zT3 I)<|pK I (qL (v:=vi e.new) iT3 I<|cO 1 I I)<|pU I (za3 I<|buildI53 _)<|SP.on I (SO.mapUpdate 3 mty104 I I I I) (.inl dC) ?_;rintro _ _ _ ⟨rfl,rfl⟩;rw[show eR (rs1.map ak) e.new (.agg #[vi e.new,vi 0,.slice none 0 0])=(iw rs1 ⟨e.new,0,⟨none,0,0⟩⟩).map ak from iI ⟨e.new,0,⟨none,0,0⟩⟩ rs1];refine pN<|tN<|sQ ?_;have hall3:aA (ar g2) (em B0 ⟨e.new,0,[]⟩) (iw rs1 ⟨e.new,0,⟨none,0,0⟩⟩):=jr (fun _ _ h=>h.1) ⟨rfl,rfl,zc1 _ _⟩ hall2;generalize iw rs1 ⟨e.new,0,⟨none,0,0⟩⟩=rs2 at *;generalize em B0 ⟨e.new,0,[]⟩=B1 at *;refine dW [18] [(0,2),(1,2),(2,2),(3,1),(4,2),(5,1),(6,2),(7,1),(8,2),(9,1),(10,2),(11,2),(12,1),(13,2),(14,2),(15,1),(16,0),(17,2),(18,0)] ze6 kR<|yM I<|pU I (nC I)<|pU I (fA dh I ef I)<|pK I (qL (v:=.map<|some mb) ek I<|cO 2 I I)<|pU I (fA aU I zT3 I)<|pK I (qL (v:=vi e.other) iT3 I<|cO 1 I I)<|pU I (fA aU I zT3 I)<|pK I (qL (v:=vi e.other) iT3 I<|cO 1 I I)<|pU I (fA aU I zT3 I)<|pK I (qL (v:=vi e.new) iT3 I<|cO 1 I I)<|pU I (za3 I<|buildS55 _ _)<|pU I (fA aq I aJ I)<|pK I (qL (v:=.slice rp c0.sides.length rc) aX I<|cO 0 I I)<|yM I<|pU I (iA aM aH I I hbE oM sL)<|pK I (eA eK aH I (za7 hsl) hgE')<|SP.o I (bS sty32 I I I (ae sB) dC) dC (.inr iR) ?_;rintro _ _ _ ⟨b125,rfl,rfl,rfl⟩;refine SP.freeze fun g3 hle3 hb3=>?_;have hs3:SlA encSide g3 (.slice (some ⟨b125,0,none⟩) 2 2) [⟨e.new,-1⟩,zE]:=SlA.lit hb3 rfl rfl;refine pU I (za3 I<|buildF53 _ _ _ I)<|SP.on I (SO.mapUpdate 3 mty104 I I I I) (.inl dC) ?_;rintro _ _ _ ⟨rfl,rfl⟩;rw[show eR (rs2.map ak) e.other (.agg #[vi e.other,vi 1,.slice (some ⟨b125,0,none⟩) 2 2])=(iw rs2 ⟨e.other,1,⟨some ⟨b125,0,none⟩,2,2⟩⟩).map ak from iI ⟨e.other,1,⟨some ⟨b125,0,none⟩,2,2⟩⟩ rs2];refine pN<|tN<|sQ ?_;have hall4:aA (ar g3) (em B1 ⟨e.other,1,[⟨e.new,-1⟩,zE]⟩) (iw rs2 ⟨e.other,1,⟨some ⟨b125,0,none⟩,2,2⟩⟩):=jr (fun _ _ h=>h.1) ⟨rfl,rfl,hs3⟩ (hall3.mono fun _ _=>ar.mono hle3);have hsl3:=za5 hsl hle3;generalize iw rs2 ⟨e.other,1,⟨some ⟨b125,0,none⟩,2,2⟩⟩=rs3 at *;generalize em B1 ⟨e.other,1,[⟨e.new,-1⟩,zE]⟩=B2 at *;refine dW [19] [(0,2),(1,2),(2,2),(3,1),(4,2),(5,1),(6,2),(7,1),(8,2),(9,1),(10,2),(11,2),(12,2),(13,1),(14,2),(15,1),(16,2),(17,0),(18,2),(19,0)] ze6 kR<|yM I<|pU I (nC I)<|pU I (fA dh I ef I)<|pK I (qL (v:=.map<|some mb) ek I<|cO 2 I I)<|pU I (fA aU I zT3 I)<|pK I (qL (v:=vi e.cell) iT3 I<|cO 1 I I)<|pU I (fA aU I zT3 I)<|pK I (qL (v:=vi e.cell) iT3 I<|cO 1 I I)<|pU I (fA aq I aJ I)<|pK I (qL (v:=.slice rp c0.sides.length rc) aX I<|cO 0 I I)<|yM I<|pU I (sU I I oM)<|pU I (iA aM aH I I hbE oM sL)<|pK I (eA eK aH I (za7 hsl3) hgO')<|pU I (fA aU I zT3 I)<|pK I (qL (v:=vi e.new) iT3 I<|cO 1 I I)<|pU I (za3 I<|buildS55 _ _)<|SP.o I (bS sty32 I I I (ae sB) dC) dC (.inr iR) ?_;rintro _ _ _ ⟨b144,rfl,rfl,rfl⟩;refine SP.freeze fun g4 hle4 hb4=>?_;have hs4:SlA encSide g4 (.slice (some ⟨b144,0,none⟩) 2 2) [zO,⟨e.new,1⟩]:=SlA.lit hb4 rfl rfl;refine pU I (za3 I<|buildF53 _ _ _ I)<|SP.on I (SO.mapUpdate 3 mty104 I I I I) (.inl dC) ?_;rintro _ _ _ ⟨rfl,rfl⟩;rw[show eR (rs3.map ak) e.cell (.agg #[vi e.cell,vi 1,.slice (some ⟨b144,0,none⟩) 2 2])=(iw rs3 ⟨e.cell,1,⟨some ⟨b144,0,none⟩,2,2⟩⟩).map ak from iI ⟨e.cell,1,⟨some ⟨b144,0,none⟩,2,2⟩⟩ rs3];refine pN<|tN<|sQ ?_;have hall5:aA (ar g4) (em B2 ⟨e.cell,1,[zO,⟨e.new,1⟩]⟩) (iw rs3 ⟨e.cell,1,⟨some ⟨b144,0,none⟩,2,2⟩⟩):=jr (fun _ _ h=>h.1) ⟨rfl,rfl,hs4⟩ (hall4.mono fun _ _=>ar.mono hle4);generalize iw rs3 ⟨e.cell,1,⟨some ⟨b144,0,none⟩,2,2⟩⟩=rs4 at *;refine dW [13] [(0,2),(1,2),(2,2),(3,1),(4,2),(5,1),(6,2),(7,1),(9,2),(10,1),(8,0),(11,0),(12,0),(13,0)] ze6 kR<|yM I<|pU I (nC I)<|pU I (fA dh I sizeOf127 I)<|pK I (qL (v:=.map<|some ms) isAgg127 I<|cO 2 I I)<|pU I (fA aU I zT3 I)<|pK I (qL (v:=vi e.cell) iT3 I<|cO 1 I I)<|pU I (fA aU I zT3 I)<|pK I (qL (v:=vi e.cell) iT3 I<|cO 1 I I)<|pU I (fA aU I zT3 I)<|pK I (qL (v:=vi e.other) iT3 I<|cO 1 I I)<|SP.o I (cL call87 I<|ji E g4 _ e.cell 1 dC dC) dC (.inr iR) ?_;rintro _ g5 _ ⟨rfl,rfl,hle5⟩;refine SP.o rfl (cL call87 rfl<|ji E g5 _ e.other 1 dC dC) dC (.inr (by rintro _ g6 _ ⟨rfl,rfl,hle6⟩; exact⟨by exact Le.trans (by assumption) (by assumption),(by exact .refl _)⟩)) ?_;rintro _ g6 _ ⟨rfl,rfl,hle6⟩;have hle46:=hle5.trans hle6;refine SP.o I (bS sty72 I I I (ae sB) dC) dC (.inr iR) ?_;rintro _ _ _ ⟨b158,rfl,rfl,rfl⟩;refine SP.to (fun w hw=>At.litRow (e:=ci) (l:=[(e.cell,1),(e.other,1)]) (n:=1) hw I I dC) ?_;refine SP.on I (SO.mapUpdate 5 mty127 I I I I) (.inl dC) ?_;rintro _ _ _ ⟨rfl,rfl⟩;refine pN<|tN<|rZ<|aT I<|rE ?_;refine ST.to (g':=g6) (s':=edP bx (.slice p A.length c) mb ms false::mp mb (rs4.map ak)::mp ms (gO [(e.cell,.slice (some ⟨b158,0,none⟩) 2 2,[(e.cell,1),(e.other,1)])])::(dv [(e.cell,.slice (some ⟨b158,0,none⟩) 2 2,[(e.cell,1),(e.other,1)])]++s)) (fun w1 hw1=>?_) ?_
  ·have h5:=hw1.sublist (s':=rowA ci 77 (.slice (some ⟨b158,0,none⟩) 2 2) [(e.cell,1),(e.other,1)]::([edP bx (.slice p A.length c) mb ms false,mp mb<|rs4.map ak,mp ms<|gO [(e.cell,.slice (some ⟨b158,0,none⟩) 2 2,[(e.cell,1),(e.other,1)])]]++s))<|.cons_cons _<|.cons _<|.cons _<|.refl _;exact h5.perm (zk5 (l₁:=[edP bx (.slice p A.length c) mb ms false,mp mb<|rs4.map ak,mp ms<|gO [(e.cell,.slice (some ⟨b158,0,none⟩) 2 2,[(e.cell,1),(e.other,1)])]])).symm
  exact za8 (.inl I) results80 I ⟨hle1.trans<|hle2.trans<|hle3.trans<|hle4.trans hle46,I,by rw[zg4 I]; exact⟨rs4,_,_,_,_,I,hall5.mono fun _ _=>ar.mono hle46,I⟩⟩
open Go Go.Sy Go.Pl Go.Proofs Go.Shelf Go.Sort
def Tryz.sortSd_ren:Ren :=
 {
  f:=fun x =>
   match x with
   | 6=>146
   | 15=>131
   | 14=>181
   | 28=>157
   | 29=>158
   | 20=>192
   | 21=>200
   | 22=>201
   | 23=>202
   | 24=>203
   | 25=>204
   | 26=>205
   | 27=>206
   | 46=>217
   | 47=>186
   | 48=>187
   | 49=>218
   | 50=>219
   | 57=>225
   | n=>n,
  t:=fun x =>
   match x with
   | 22=>32
   | 24=>55
   | 25=>174
   | 3=>3
   | 39=>170
   | 0=>0
   | 53=>192
   | 55=>114
   | 4=>4
   | 46=>186
   | 45=>185
   | 50=>118
   | 5=>5
   | 9=>9
   | 66=>214
   | 70=>218
   | 76=>239
   | 77=>240
   | n=>n,
  g:=fun x =>
   have n:=x;
   n }
theorem Tryz.sortSd:SlLaysF0.n6 Tryz.prog Tryz.sortSd_ren :=
  {
  mixed:=Eq.refl true,
  f6 :=
   Exists.intro "slices.SortFunc[[]cocycle/api.Side,cocycle/api.Side]"
    ⟨zg6 (id (Eq.refl true)),
     zb8 func146
      (ze5 some
       kR)⟩,
  f14 :=
   Exists.intro "slices.pdqsortCmpFunc[cocycle/api.Side]"
    ⟨zg6 (id (Eq.refl true)),
     zb8 func181
      (ze5 some
       kR)⟩,
  f15:=zb8 func131<|ze5 some kR,
  f20 :=
   Exists.intro "slices.insertionSortCmpFunc[cocycle/api.Side]"
    ⟨zg6 (id (Eq.refl true)),
     zb8 func192
      (ze5 some
       kR)⟩,
  f21 :=
   Exists.intro "slices.heapSortCmpFunc[cocycle/api.Side]"
    ⟨zg6 (id (Eq.refl true)),
     zb8 func200
      (ze5 some
       kR)⟩,
  f22 :=
   Exists.intro "slices.breakPatternsCmpFunc[cocycle/api.Side]"
    ⟨zg6 (id (Eq.refl true)),
     zb8 func201
      (ze5 some
       kR)⟩,
  f23 :=
   Exists.intro "slices.choosePivotCmpFunc[cocycle/api.Side]"
    ⟨zg6 (id (Eq.refl true)),
     zb8 func202
      (ze5 some
       kR)⟩,
  f24 :=
   Exists.intro "slices.reverseRangeCmpFunc[cocycle/api.Side]"
    ⟨zg6 (id (Eq.refl true)),
     zb8 func203
      (ze5 some
       kR)⟩,
  f25 :=
   Exists.intro "slices.partialInsertionSortCmpFunc[cocycle/api.Side]"
    ⟨zg6 (id (Eq.refl true)),
     zb8 func204
      (ze5 some
       kR)⟩,
  f26 :=
   Exists.intro "slices.partitionEqualCmpFunc[cocycle/api.Side]"
    ⟨zg6 (id (Eq.refl true)),
     zb8 func205
      (ze5 some
       kR)⟩,
  f27 :=
   Exists.intro "slices.partitionCmpFunc[cocycle/api.Side]"
    ⟨zg6 (id (Eq.refl true)),
     zb8 func206
      (ze5 some
       kR)⟩,
  f28:=zb8 func157<|ze5 some kR,
  f29:=zb8 func158<|ze5 some kR,
  f46 :=
   Exists.intro "slices.siftDownCmpFunc[cocycle/api.Side]"
    ⟨zg6 (id (Eq.refl true)),
     zb8 func217
      (ze5 some
       kR)⟩,
  f47:=zb8 func186<|ze5 some kR,
  f48:=zb8 func187<|ze5 some kR,
  f49 :=
   Exists.intro "slices.medianAdjacentCmpFunc[cocycle/api.Side]"
    ⟨zg6 (id (Eq.refl true)),
     zb8 func218
      (ze5 some
       kR)⟩,
  f50 :=
   Exists.intro "slices.medianCmpFunc[cocycle/api.Side]"
    ⟨zg6 (id (Eq.refl true)),
     zb8 func219
      (ze5 some
       kR)⟩,
  f57 :=
   Exists.intro "slices.order2CmpFunc[cocycle/api.Side]"
    ⟨zg6 (id (Eq.refl true)),
     zb8 func225
      (ze5 some
       kR)⟩,
  t0:=underlying0,a0:=isAgg0,z0:=sizeOf0,v0:=zeroValue0,t3:=uT3,
  a3:=iT3,z3:=zT3,v3:=zeroValue3,t4:=uT4,a4:=isAgg4,
  z4:=zT4,v4:=zeroValue4,t5:=uT5,a5:=isAgg5,z5:=sizeOf5,
  v5:=zeroValue5,t9:=uT9,a9:=isAgg9,z9:=sizeOf9,v9:=zeroValue9,
  t22:=aM,a22:=aX,z22:=aJ,v22:=zeroValue32,
  t25:=underlying174,a25:=isAgg174,z25:=sizeOf174,v25:=zeroValue174,
  t39:=fG,a39:=isAgg170,z39:=sizeOf170,v39:=zeroValue170,
  t45:=underlying185,a45:=isAgg185,z45:=sizeOf185,v45:=zeroValue185,
  t46:=underlying186,a46:=isAgg186,z46:=sizeOf186,v46:=zeroValue186,
  t50:=underlying118,a50:=isAgg118,z50:=sizeOf118,v50:=zeroValue118,
  t53:=underlying192,a53:=isAgg192,z53:=sizeOf192,v53:=zeroValue192,
  t55:=lT,a55:=isAgg114,z55:=sizeOf114,v55:=zeroValue114,
  t66:=underlying214,a66:=isAgg214,z66:=sizeOf214,v66:=zeroValue214,
  t70:=underlying218,a70:=isAgg218,z70:=sizeOf218,v70:=zeroValue218,
  t76:=underlying239,a76:=isAgg239,z76:=sizeOf239,v76:=zeroValue239,
  t77:=underlying240,a77:=isAgg240,z77:=sizeOf240,v77:=zeroValue240 }
instance:Inhabited Side:=⟨⟨0,0⟩⟩
def qe (x y:Side):Int:=orI [jO x.cell y.cell,jO x.sign y.sign]
theorem gH (x y:Side):qe x y<0↔x.cell<y.cell∨(x.cell=y.cell∧x.sign<y.sign):=by
 unfold qe orI orI orI jO;split <;> split <;> (try split)<;>(try split)<;>simp_all <;> omega
theorem CU:SWO (ltOf qe):=⟨fun x=>by simp[ltOf,gH],fun x y z h1 h2=>by simp[ltOf,gH] at *; omega,fun x y z h1 h2=>by simp[ltOf,gH] at *; omega⟩
def Bh (l:List Side):Prop:=l.Pairwise fun x y=>¬ qe y x<0
theorem pn {l m:List Side}(hl:Bh l)(hm:Bh m)(hp:l.Perm m):l=m:=by
 refine hp.eq_of_pairwise (le:=fun x y=>¬ qe y x<0) (fun x y _ _ h1 h2=>?_) hl hm;rw[gH] at h1 h2;obtain ⟨xc,xs⟩:=x;obtain ⟨yc,ys⟩:=y;dsimp only at h1 h2;have e1:xc=yc:=oM;have e2:xs=ys:=oM;rw[e1,e2]
theorem B4:CT Tryz.prog 147 encSide.enc qe:=by
 intro E g s x y;obtain ⟨x1,x2⟩:=x;obtain ⟨y1,y2⟩:=y;refine zb2 (args:=[.agg #[vi x1,vi x2],.agg #[vi y1,vi y2]]) func147 I ntmps147 (bE I)<|rZ (bW (bO I) fun b2=>?_);refine bW (bO I) fun b3=>aT I<|sQ<|dW [] [(0,2),(1,1),(2,2),(3,1),(5,2),(6,1),(7,2),(8,1),(4,0),(9,0),(10,0),(11,0),(12,2)] ze6 kR<|pU I (fA bZ I zT3 I)<|pK I (qL (v:=vi x1) iT3 I<|cO 1 I I)<|pU I (fA bZ I zT3 I)<|pK I (qL (v:=vi y1) iT3 I<|cO 0 I I)<|pU I (fA bZ I zT3 I)<|pK I (qL (v:=vi x2) iT3 I<|cO 1 I I)<|pU I (fA bZ I zT3 I)<|pK I (qL (v:=vi y2) iT3 I<|cO 0 I I)<|SP.o I (cL call90 I<|ec E g _ x1 y1) dC (.inr iR) ?_;rintro _ _ _ ⟨rfl,rfl,rfl⟩;refine SP.o I (cL call90 I<|ec E g _ x2 y2) dC (.inr iR) ?_;rintro _ _ _ ⟨rfl,rfl,rfl⟩;refine SP.o I (bS sty83 I I I (ae sB) dC) dC (.inr iR) ?_;rintro _ _ _ ⟨b15,rfl,rfl,rfl⟩;refine SP.o I (cL call140 I<|xh E g _ _ [jO x1 y1,jO x2 y2] (Rd.pt 0 I) ⟨_,_,I⟩ (fun _=>I) (by simp)) dC (.inr iR) ?_;rintro _ _ _ ⟨rfl,rfl,rfl⟩;exact pU I (aS I)<|pN<|tN<|rE<|dR (s':=s) uR<|za8 (.inl I) results147 I ⟨I,I,I⟩
theorem xR (E:World)(g:PH)(s:Own)(v:Value)(l:List Side)(i:Nat)(hi:s[i]?=some (rowA encSide 55 v l))(hl:l.length<1099511627776) :
  Ctr Tryz.prog E 146 #[v,.func (.func 147) #[] #[]] g s (fun _ g' s'=>g=g'∧∃ l',l'.Perm l∧Bh l'∧s'=s.set i (rowA encSide 55 v l')) :=
 uH Tryz.sortSd encSide eK aH qe CU 147 call147 B4 55 E g s v l i hi hl
def dY (f:Int→Option Int)(x:Side):Side:=⟨(f x.cell).getD x.cell,x.sign⟩
theorem i7 (E:World)(g:PH)(s:Own)(v:Value)(l:List Side)(bb:Nat)(pm:List (Int×Value))(f:Int→Option Int)(hv:SlA encSide g v l)(hl:l.length<1099511627776)(hb:Mp g bb pm)(hf:∀ k,dS pm k=(f k).map vi) :
  Ctr Tryz.prog E 126 #[v,.map<|some bb] g s (fun r g' s'=>g=g'∧∃ l',l'.Perm (l.map<|dY f)∧Bh l'∧s'=rowA encSide 55 r l'::s):=by
 obtain ⟨p,c,rfl⟩:=za4 hv;refine zb2 (args:=[.slice p l.length c,.map<|some bb]) func126 I ntmps126 (bE I)<|rZ<|aT I<|sW I<|lW (cL call83 I<|ta E g _ _ l hv hl) ?_;rintro v11 _ _ ⟨rfl,rfl⟩;refine zd4 fun ⟨w0,hw0⟩=>?_;obtain ⟨q,d,rfl⟩:=ag (e:=encSide) (l:=l) (i:=0) hw0 rfl;have hbb:0<l.length→based (.slice q l.length d)=true:=fun h=>(by obtain ⟨b,c',hv'⟩:=aO (e:=encSide) (l:=l) (i:=0) hw0 rfl h; rw[hv']; rfl);clear hw0 w0;refine aT I<|sQ<|sW I<|lU (eN aM I)<|lM I<|tZ<|bK ?_;refine oP (ι:=Nat) (fun k=>[(1,.map<|some bb),(5,.slice q l.length d),(12,.slice q l.length d),(13,vi l.length),(14,vi k)]) (fun _=>g) (fun k=>rowA encSide 55 (.slice q l.length d) ((l.take k).map (dY f)++l.drop k)::s)
  (fun k=>k≤l.length) (fun k=>l.length - k) 0 sB rfl (by simp) (zf9 _) ?_
 rintro k hk;try dsimp only at hk ⊢
 refine rZ<|yL I<|tZ<|sQ<|iP I (fun hlt=>?_) (fun hlt=>?_)
 ·have hkl:k<l.length:=oM;have hb1:=hbb oM;have hcur:((l.take k).map (dY f)++l.drop k)[((k:Nat):Int).toNat]?=some l[k]:=by
   show ((l.take k).map (dY f)++l.drop k)[k]?=_;rw[zh6 (by rw[ze9,ze7]; omega),ze9,ze7,show k - min k l.length=0 by omega,zg9 hkl];rfl
  have hnext:(l.take<|k+1).map (dY f)++l.drop (k+1)=((l.take k).map (dY f)++l.drop k).set k (dY f l[k]):=by
   rw[tS hkl,zg8,zh2,List.set_append_right _ _ (by rw[ze9,ze7]; omega),ze9,ze7,show k - min k l.length=0 by omega];congr 1;rw[zg9 hkl];rfl
  have hself:f l[k].cell=none→((l.take k).map (dY f)++l.drop k).set k (dY f l[k])=(l.take k).map (dY f)++l.drop k:=fun h=>by
   have h2:dY f l[k]=l[k]:=by unfold dY; rw[h]; rfl
   rw[h2];exact mH hcur
  have hlen2:((l.take k).map (dY f)++l.drop k).length=l.length:=by simp; omega
  generalize l[k]=x at *;obtain ⟨xc,xs⟩:=x;generalize hcu:(l.take k).map (dY f)++l.drop k=L at *;dsimp only at hself;cases hfx:f xc with
  | none =>
   refine kP (tN<|sQ<|bK<|sW I<|lU (iA aM aH I I hb1 oM sL)<|lK (eA eK aH I (zb7 0 I) hcur)<|bW (aL zl6) fun b7=>?_);refine lA I<|oZ (sK 0 aH I I I I I sB)<|tZ<|sW I<|lU (fA bZ I zT3 I)<|lK (qL (v:=vi xc) iT3 I<|cO 0 I I)<|lK (SQ.eq (v':=.tuple #[vi 0,vb false]) (SQ.lookupOk mty163 I I<|cH.known hb) (by rw[hf,hfx]; rfl)) ?_;exact lM I<|yX I<|yX I<|lA I<|aT I<|sW I<|tZ<|za1 I<|kP<|bN<|tN<|rG<|yD I<|lM I<|nL<|dR (.cons _<|.refl _)<|gA (k+1) sB I (by rw[hnext,hself hfx]) oM oM
  | some t =>
   have hrep:dY f ⟨xc,xs⟩=⟨t,xs⟩:=by unfold dY; rw[hfx]; rfl
   rw[hrep] at hnext;refine kP (tN<|sQ<|bK<|sW I<|lU (iA aM aH I I hb1 oM sL)<|lK (eA eK aH I (zb7 0 I) hcur)<|bW (aL zl6) fun b7=>?_);refine lA I<|oZ (sK 0 aH I I I I I sB)<|tZ<|sW I<|lU (fA bZ I zT3 I)<|lK (qL (v:=vi xc) iT3 I<|cO 0 I I)<|lK (SQ.eq (v':=.tuple #[vi t,vb true]) (SQ.lookupOk mty163 I I<|cH.known hb) (by rw[hf,hfx]; rfl)) ?_;exact lM I<|yX I<|yX I<|lA I<|aT I<|sW I<|tZ<|za2 I<|rG<|lM I<|lM I<|lM I<|lU (iA aM aH I I hb1 oM sL)<|lU (fC bZ I zT3 I hb1)<|oZ (SO.partA (e:=encSide) (o:=0) 1 (⟨t,xs⟩:Side) zT3 I I I hcur I I dC I)<|nL<|bN<|tN<|rG<|yD I<|lM I<|nL<|dR (.cons _<|.refl _)<|gA (k+1) sB I (by rw[hnext]; rfl) oM oM
 ·have hall:(l.take k).map (dY f)++l.drop k=l.map (dY f):=by
   rw[tL oM,List.drop_of_length_le oM,zc7]
  rw[hall];refine xI<|tX<|tX<|bX<|tN<|sW I<|lW (cL call146 I<|xR E g _ _ (l.map<|dY f) 0 I (by rw[ze9]; exact hl)) ?_;rintro _ _ _ ⟨rfl,l',hp,ha,rfl⟩;exact tZ<|sW I<|aT I<|rE<|za8 (.inl I) results126 I ⟨I,l',hp,ha,I⟩
end Go.Proofs.YtackilpikhkijaaGreatDoor
namespace Go.Sy
open Go Go.MapKept
section
variable {P:Program}{N:Nat}{E:World}{f:Fr}{g:PH}{s:Own}{dst:Option Tmp}{ty:TypeId}{pos:String}{af:Array Edge}{gd:Option (Nat×Bool)}
variable {t kt et:TypeId}{m r clk:Nat}{es:Array MapEntry}{vis:List MapEntry}{x y u:Operand}{l vl:List (Int×Value)}{z:Value}{b:Nat}{k:Int}{v:Value}
abbrev mx (b:Nat)(es:Array MapEntry)(clk:Nat):Ent:=pt b (.map es clk)
theorem zu (j:Nat)(hj:s[j]?=some (mx m es clk)):∀ w,At E g s w→w.heap[m]?=some (.map es clk):=fun w hw=>by
 have:=hw.own _<|zg5 hj;simpa [mx,pt] using this
theorem At.openMap {w:World}{i:Nat}(hi:s[i]?=some (mp b l))(h:At E g s w):∃ es clk,i4 l es clk∧At E g (s.set i<|mx b es clk) w:=by
 obtain ⟨es,clk,h1,h2⟩:=h.own _<|zg5 hi;have hf:=h.fresh _<|zg5 hi;exact⟨es,clk,h2,h.turn hi I ⟨I,lR _⟩ I (lR _) (fun _ _ _=>I) (by simpa [mx,pt,mp] using h1) (fun b' hb'=>⟨(hf b' hb').2,.inl hb'⟩)⟩
theorem At.closeMap {w:World}{i:Nat}(hi:s[i]?=some (mx b es clk))(hI:i4 l es clk)(h:At E g s w):At E g (s.set i<|mp b l) w:=by
 have h1:=h.own _<|zg5 hi;have hf:=h.fresh _<|zg5 hi;exact h.turn hi I ⟨I,lR _⟩ I (lR _) (fun _ _ _=>I) ⟨es,clk,by simpa [mx,pt,mp] using h1,hI⟩ (fun b' hb'=>⟨(hf b' hb').2,.inl hb'⟩)
theorem SC.openMap {c:Code}{Q:Exit→Act→World→Prop}(i:Nat)(hi:s[i]?=some (mp b l))(h:∀ es clk,i4 l es clk→SC P N E c Q f g (s.set i<|mx b es clk)):SC P N E c Q f g s:=fun a w ha hw=>by
 obtain ⟨es,clk,h1,h2⟩:=hw.openMap hi;exact h es clk h1 a w ha h2
theorem ST.closeMap {e:Exit}{Q:Exit→Act→World→Prop}(i:Nat)(hi:s[i]?=some (mx b es clk))(hI:i4 l es clk)(h:ST N E Q e f g (s.set i<|mp b l)):ST N E Q e f g s:=fun a w ha hw=>h a w ha (hw.closeMap hi hI)
theorem SO.rangeG (hT:P.underlying t=some (.map kt et))(hx:ev f x=some (.map<|some m))(hmm:∀ w,At E g s w→w.heap[m]?=some (.map es clk)) :
  SO P N E ⟨dst,.range t x,ty,pos,af,gd⟩ f g s fun u g' s'=>∃ r,u=pp r 0∧g=g'∧s'=eY r m es clk []::s :=
 SO.of_run fun a w ha hw=>⟨pp w.heap.size 0,{ w with heap:=w.heap.push (.mapIter (some m) clk #[] clk) },g,eY w.heap.size m es clk []::s,by
  have hb:=hmm w hw;simp[execOp,ha.ev hx,Instr.range,run_underlying hT,MapKept.run_getObj_map hb],hw.alloc (e:=eY w.heap.size m es clk []) rfl rfl,_,rfl,rfl,rfl⟩
theorem SO.nextG (i:Nat)(hx:ev f x=some (pp r 0))(hi:s[i]?=some (eY r m es clk vis))(hmm:∀ w,At E g s w→w.heap[m]?=some (.map es clk))(hst:Stamped es clk)(hv:Vis es vis) :
  SO P N E ⟨dst,.next x false,ty,pos,af,gd⟩ f g s fun u g' s'=>g=g' ∧
   ((u = .tuple #[.bool false]∧s=s'∧∀ e∈es.toList,e∈vis)∨∃ e,e∈es.toList∧e.born ∉ vis.map (·.born)∧u = .tuple #[.bool true,e.key,e.val]∧s'=s.set i (eY r m es clk<|vis++[e])) :=
 SO.of_run fun a w ha hw=>by
  have hit:=hw.own _<|zg5 hi;have hb:=hmm w hw;have hr:w.heap[r]?=some (.mapIter (some m) clk (vis.map (·.born)).toArray clk):=by simpa [eY] using hit
  have hget:(getObj r).run P w = .ok (.mapIter (some m) clk (vis.map (·.born)).toArray clk) w:=by simp[getObj,Sem.run,hr]
  have hold:∀ e∈es.toList,e.born<clk:=hst.1;have hall:(es.all (·.born≥clk))=true→es = #[]:=fun h=>by
   rw[Array.all_eq_true_iff_forall_mem] at h;apply Array.eq_empty_of_size_eq_zero;cases hsz:es.size with
   | zero=>rfl
   | succ q =>
    exfalso;have h0:0<es.size:=oM;have h1:=h es[0] (Array.getElem_mem h0);have h2:=hold es[0] (by simp);simp at h1;omega
  have hfl:(es.filter fun e=>!(vis.map (·.born)).toArray.contains e.born).filter (·.born<clk)=es.filter fun e=>!(vis.map (·.born)).toArray.contains e.born:=by
   apply Array.ext';simp only[Array.toList_filter];rw[List.filter_eq_self];intro e he;have:=hold e (zh7.1 he).1;simpa using this
  have hfn:(es.filter fun e=>!(vis.map (·.born)).toArray.contains e.born).filter (·.born≥clk) = #[]:=by
   apply Array.ext';simp only[Array.toList_filter];rw[List.filter_eq_nil_iff];intro e he;have:=hold e (zh7.1 he).1;simp; omega
  generalize hL:es.filter (fun e=>!(vis.map (·.born)).toArray.contains e.born)=left at hfl hfn;have hmem:∀ e,e∈left.toList↔e∈es.toList∧e.born ∉ vis.map (·.born):=fun e=>by
   rw[← hL];simp
  have hguard:(!(vis.map (·.born)).toArray.isEmpty && !es.isEmpty&&es.all (·.born≥clk))=false:=by
   cases h1:es.all (·.born≥clk) with
   | false=>simp
   | true=>rw[hall h1]; simp
  have hfresh:=hw.fresh _ (zg5 hi) r rfl;by_cases hempty:left = #[]
  ·-- none is left
   refine⟨.tuple #[.bool false],w,g,s,?_,hw,I,.inl ⟨I,I,fun e he=>?_⟩⟩
   ·simp only[execOp,ha.ev hx,Instr.next,Sem.run_bind,hget,zd2,MapKept.run_getObj_map hb,hguard,Bool.false_eq_true,if_false,Sem.run_pure,hL,hfl,hfn,hempty];simp[choose,Sem.run,Question.forced]
   ·by_cases hin:e.born∈vis.map (·.born)
    ·obtain ⟨e',he',heq⟩:=zf5.1 hin;rw[← mP hst (hv.sub e' he') he heq];exact he'
    ·have:=(hmem e).2 ⟨he,hin⟩;rw[hempty] at this;simp at this
  ·have hsz:0<left.size:=by
    rcases Nat.eq_zero_or_pos left.size with h | h
    ·exact absurd (Array.eq_empty_of_size_eq_zero h) hempty
    ·exact h
   have hcand:((if left.isEmpty then #[none] else #[])++(left ++ #[]).map some:Array (Option MapEntry))=left.map some:=by
    have:left.isEmpty=false:=by simpa using hempty
    simp[this]
   -- the entry that is drawn
   have hch:∃ (q:Nat) (w':World),(choose<|.mapNext left.size).run P w = .ok q w'∧q<left.size∧∃ n,w.drawn≤n∧w'={ w with drawn:=n }:=by
    by_cases h1:left.size≤1
    ·exact⟨0,w,by simp[choose,Sem.run,Question.forced,h1],hsz,w.drawn,lR _,I⟩
    ·exact⟨_,_,by simp[choose,Sem.run,Question.forced,h1,Question.cut]; rfl,Nat.mod_lt _ hsz,w.drawn+1,Nat.le_succ _,rfl⟩
   obtain ⟨q,w',hq1,hq2,n,hq0,hq3⟩:=hch;have hr':w'.heap[r]?=some (.mapIter (some m) clk (vis.map (·.born)).toArray clk):=by rw[hq3]; exact hr
   have hset:(setObj r (.mapIter (some m) clk ((vis.map (·.born)).toArray.push left[q].born) clk)).run P w' = .ok () { w' with heap:=w'.heap.setIfInBounds r (.mapIter (some m) clk ((vis.map (·.born)).toArray.push left[q].born) clk) }:=by
    simp[setObj,Sem.run,hr']
   have hin:left[q]∈left.toList:=by simp
   refine⟨.tuple #[.bool true,left[q].key,left[q].val],{ w' with heap:=w'.heap.setIfInBounds r (.mapIter (some m) clk ((vis.map (·.born)).toArray.push left[q].born) clk) },g,s.set i<|eY r m es clk<|vis++[left[q]],?_,?_,I,.inr ⟨left[q],((hmem _).1 hin).1,((hmem _).1 hin).2,I,I⟩⟩
   ·simp only[execOp,ha.ev hx,Instr.next,Sem.run_bind,hget,zd2,MapKept.run_getObj_map hb,hguard,Bool.false_eq_true,if_false,Sem.run_pure,hL,hfl,hfn];rw[hcand];simp only[Array.size_map,hq1,zd2];have hg2:(left.map some)[q]?=some (some left[q]):=by simp[hq2]
    simp only[hg2,Sem.run_bind,hset,zd2,Sem.run_pure]
   ·have hw2:At E g s w':=by rw[hq3]; exact hw.drew n hq0
    have hlt:r<w'.heap.size:=by rw[hq3]; exact hfresh.2
    refine hw2.turn hi I ⟨I,(by exact lR _)⟩ I (by simp) (fun k _ hk=>by simp only[Array.getElem?_setIfInBounds_ne (fun e=>hk (by simp[eY,e]):r≠k)]) ?_ (fun b' hb'=>?_)
    ·simp[eY,hlt]
    ·simp only[eY,zh1] at hb';subst hb';exact⟨by simpa using hlt,.inl I⟩
theorem SQ.entryG {e:MapEntry}(i:Nat)(hx:ev f x=some (pp r 0))(hi:s[i]?=some (eY r m es clk<|vis++[e]))(hmm:∀ w,At E g s w→w.heap[m]?=some (.map es clk))(hst:Stamped es clk)(he:e∈es.toList) :
  SQ P N E ⟨dst,.entry x,ty,pos,af,gd⟩ f g s (.tuple #[e.key,e.val]):=fun a w ha hw=>by
 have hit:=hw.own _<|zg5 hi;have hb:=hmm w hw;have hr:w.heap[r]?=some (.mapIter (some m) clk ((vis++[e]).map (·.born)).toArray clk):=by simpa [eY] using hit
 have hget:(getObj r).run P w = .ok (.mapIter (some m) clk ((vis++[e]).map (·.born)).toArray clk) w:=by simp[getObj,Sem.run,hr]
 have hback:((vis++[e]).map (·.born)).toArray.back?=some e.born:=by simp
 have hfind:es.find? (·.born == e.born)=some e:=by
  rw[← Array.find?_toList];have h1:(es.toList.find? (·.born == e.born)).isSome:=by
   rw[List.find?_isSome];exact⟨e,he,by simp⟩
  obtain ⟨e',he'⟩:=zi2.1 h1;have h2:=List.find?_some he';have h3:=zl1 he';rw[he',mP hst h3 he (by simpa using h2)]
 simp[execOp,ha.ev hx,Instr.entry,hget,MapKept.run_getObj_map hb,hfind]
theorem SO.nextPG (i:Nat)(hx:ev f x=some (pp r 0))(hi:s[i]?=some (eY r m es clk vis))(hmm:∀ w,At E g s w→w.heap[m]?=some (.map es clk))(hI:i4 l es clk)(hv:kw l es vis vl) :
  SO P N E ⟨dst,.next x false,ty,pos,af,gd⟩ f g s fun u g' s'=>g=g' ∧
   ((u = .tuple #[.bool false]∧s=s'∧vl.Perm l)∨∃ e p,e∈es.toList∧p∈l∧e.key=vi p.1∧e.val=p.2∧kw l es (vis++[e]) (vl++[p])∧u = .tuple #[.bool true,vi p.1,p.2]∧s'=s.set i (eY r m es clk<|vis++[e])):=by
 refine SO.mono (SO.nextG i hx hi hmm hI.2 hv.ok) ?_;rintro u g' s' ⟨rfl,h⟩;refine⟨I,?_⟩
 rcases h with ⟨h1,h2,h3⟩ | ⟨e,h1,h2,h3,h4⟩
 ·exact .inl ⟨h1,h2,hv.all hI h3⟩
 ·have hp:jb e∈l.map eO:=by rw[← hI.1]; exact zf5.2 ⟨e,h1,I⟩
  obtain ⟨p,hp1,hp2⟩:=zf5.1 hp;simp only[jb,eO,Prod.mk.injEq] at hp2;refine .inr ⟨e,p,h1,hp1,hp2.1.symm,hp2.2.symm,⟨⟨?_,?_⟩,?_⟩,by rw[h3,hp2.1,hp2.2],h4⟩
  ·intro a ha
   rcases zf6.1 ha with h5 | h5
   ·exact hv.ok.sub a h5
   ·simp at h5; rw[h5]; exact h1
  ·rw[zg8,List.nodup_append];refine⟨hv.ok.nodup,by simp,fun a ha b hb hab=>?_⟩;simp at hb;rw[hab,hb] at ha;exact h2 ha
  ·rw[zg8,zg8,hv.eq];simp[jb,eO,hp2.1,hp2.2]
theorem SQ.entryPG {e:MapEntry}{p:Int×Value}(i:Nat)(hx:ev f x=some (pp r 0))(hi:s[i]?=some (eY r m es clk<|vis++[e]))(hmm:∀ w,At E g s w→w.heap[m]?=some (.map es clk))(hI:i4 l es clk)(he:e∈es.toList)(hk:e.key=vi p.1)(hv:e.val=p.2) :
  SQ P N E ⟨dst,.entry x,ty,pos,af,gd⟩ f g s (.tuple #[vi p.1,p.2]):=by
 have:=SQ.entryG (P:=P) (N:=N) (E:=E) (f:=f) (s:=s) (dst:=dst) (ty:=ty) (pos:=pos) (af:=af) (gd:=gd) i hx hi hmm hI.2 he;rw[hk,hv] at this;exact this
def zx (k:Int)(v:Value)(p:Int×Value):Int×Value:=if p.1=k then (k,v) else p
def unK:Value→Option Int
 | .int .i64 n=>some n
 | _=>none
theorem Cq (a:Int):unK (vi a)=some a:=rfl
theorem Cr {x:Value}{k:Int}(h:unK x=some k):x=vi k:=by
 unfold unK at h;split at h
 ·injection h with h
  rw[h]
 ·cases h
def n9 (k:Int)(v:Value)(e:MapEntry):MapEntry:=if unK e.key=some k then { e with key:=vi k,val:=v } else e
theorem qR (k:Int)(v:Value)(e:MapEntry):(n9 k v e).born=e.born:=by unfold n9; split <;> rfl
theorem nd (k:Int)(v:Value):∀ (vis:List MapEntry) (vl:List (Int×Value)),vis.map jb=vl.map eO→(vis.map<|n9 k v).map jb=(vl.map<|zx k v).map eO
 | [],[],_=>rfl
 | e::vis,(a,u)::vl,h=>by
  simp only[zg7,List.cons.injEq,jb,eO,Prod.mk.injEq] at h;obtain ⟨⟨h1,h2⟩,h3⟩:=h;have ih:=nd k v vis vl h3;simp only[zg7,List.cons.injEq];refine⟨?_,ih⟩;unfold n9 zx;by_cases hk:a=k
  ·subst hk;rw[zg4 (by rw[h1]; rfl),zg4 rfl];rfl
  ·have h4:¬ unK e.key=some k:=fun h5=>by
    rw[h1,Cq] at h5;injection h5 with h6
    exact hk h6
   rw[zg3 h4,zg3 hk];simp[jb,eO,h1,h2]
 | [],_::_,h=>by simp at h
 | _::_,[],h=>by simp at h
theorem SO.mapUpdateX (j:Nat)(hT:MTy P t kt et z)(hx:ev f x=some (.map<|some b))(hy:ev f y=some (vi k))(hu:ev f u=some v)(hj:s[j]?=some (mx b es clk))(hI:i4 l es clk)(hk:∃ u,dS l k=some u) :
  SO P N E ⟨dst,.mapUpdate t x y u,ty,pos,af,gd⟩ f g s fun _ g' s'=>g=g'∧∃ es',s'=s.set j (mx b es' clk)∧i4 (eR l k v) es' clk∧∀ vis vl,kw l es vis vl→kw (eR l k v) es' (vis.map<|n9 k v) (vl.map<|zx k v) :=
 SO.of_skip fun a w ha hw=>by
  have hb:w.heap[b]?=some (.map es clk):=zu j hj w hw;have hf:=gx k es.toList l 0 hI.1;have h1:=MapKept.run_findKey (w:=w) hT.key hf;have h2:=MapKept.run_checkKey (P:=P) (w:=w) hT.key (k:=vi k) rfl false 9999;have hlen:es.toList.length=l.length:=by have:=ze5 List.length hI.1; simpa using this
  rcases mO k l 0 with ⟨hn,hne⟩ | ⟨q,u0,hs,hq,hput⟩
  ·obtain ⟨u1,hu1⟩:=hk;unfold dS at hu1;rw[hn] at hu1;cases hu1
  ·have hql:q<es.toList.length:=by rw[hlen]; exact (zf8.1 hq).1
   have hqs:q<es.size:=by simpa using hql
   have hkey:(es.toList[q]).key=vi k:=by
    have h3:=ze5 (·[q]?) hI.1;simp only[zi3,hq,Option.map_some,gE hql,zh1,jb,eO,Prod.mk.injEq] at h3;exact h3.1
   have hje:es[q]?=some es.toList[q]:=by simp at hql; simp[hql]
   have huniq:∀ i (hi:i<es.size),es[i].key=vi k→i=q:=fun i hi he=>by
    have h5:(es.toList.map (·.key))[i]'(by simpa using hi)=(es.toList.map (·.key))[q]'(by simpa using hqs):=by
     rw[List.getElem_map,List.getElem_map,hkey];simpa using he
    exact (List.getElem_inj hI.2.2.2).1 h5
   have hmod:(es.modify q fun e=>{ e with key:=vi k,val:=v })=es.map (n9 k v):=by
    apply Array.ext (by simp);intro i hi1 hi2;have hi:i<es.size:=by simpa using hi1
    rw[Array.getElem_modify,Array.getElem_map];unfold n9;by_cases e:q=i
    ·subst e;have h6:es[q].key=vi k:=by simpa using hkey
     rw[zg4 rfl,zg4 (by rw[h6]; rfl)]
    ·rw[zg3 e,zg3 (fun h=>e (huniq i hi<|Cr h).symm)]
   rw[hs,Nat.zero_add] at h1;have hfr:=hw.fresh _ (zg5 hj) b rfl;obtain ⟨e1,e2⟩:=MapKept.heap_set (o':=.map (es.map<|n9 k v) clk) hb;have h4:=MapKept.run_keyThatStays (P:=P) (w:=w) (d:=.int .i64) (k:=vi k) rfl;have hkey':∀ h:q<es.size,es[q].key=vi k:=fun h=>by simpa using hkey
   have hMI:i4 (eR l k v) (es.map<|n9 k v) clk:=by
    refine⟨?_,?_⟩
    ·rw[Array.toList_map,nd k v _ _ hI.1,hput v];congr 1;apply List.ext_getElem (by simp);intro i h5 h6;have h7:i<l.length:=by simpa using h5
     have h8:i<es.size:=by
      have:es.toList.length=es.size:=by simp
      omega
     have h9:es[i].key=vi l[i].1:=by
      have h3:=ze5 (·[i]?) hI.1;simp only[zi3,gE h7,gE (show i<es.toList.length by omega),Option.map_some,zh1,jb,eO,Prod.mk.injEq] at h3;simpa using h3.1
     rw[List.getElem_map,List.getElem_set];unfold zx;by_cases e:q=i
     ·subst e;have h10:l[q]=(k,u0):=(zf8.1 hq).2;rw[zg4 rfl,zg4 (by rw[h10])]
     ·rw[zg3 e,zg3 (fun h=>e (huniq i h8<|by rw[h9,h]).symm)]
    ·rw[← hmod];exact stamped_modify hI.2 _ _ (fun _ _=>I) (fun e' _ he'=>by
      rw[hje] at he';injection he' with he'
      rw[← he',hkey])
   refine⟨{ w with heap:=w.heap.setIfInBounds b (.map (es.map<|n9 k v) clk) },g,s.set j<|mx b (es.map<|n9 k v) clk,?_,?_,I,es.map<|n9 k v,I,hMI,fun vis vl hv=>?_⟩
   ·have hr:(Instr.mapUpdate t (.map<|some b) (vi k) v).run P w = .ok () { w with heap:=w.heap.setIfInBounds b (.map (es.map<|n9 k v) clk) }:=by
     rw[← hmod];simp[Instr.mapUpdate,run_underlying hT.und,MapKept.run_getObj_map hb,h2,h1,hje,hkey',h4,MapKept.run_setObj_map _ hb]
    simp[execOp,ha.ev hx,ha.ev hy,ha.ev hu,hr]
   ·refine hw.turn hj I ⟨I,lR _⟩ I (by simp) (fun q _ hne=>e2 q<|fun e=>hne<|by simp[mx,pt,e]) (by simpa [mx,pt] using e1) (fun b' hb'=>?_);simp only[mx,pt,zh1] at hb';subst hb';exact⟨by simpa using hfr.2,.inl I⟩
   ·refine⟨⟨fun e he=>?_,?_⟩,nd k v _ _ hv.eq⟩
    ·obtain ⟨e0,he0,rfl⟩:=zf5.1 he;rw[Array.toList_map];exact zf5.2 ⟨e0,hv.ok.sub e0 he0,I⟩
    ·rw[zi8,show (fun e:MapEntry=>e.born) ∘ n9 k v=fun e=>e.born from funext fun e=>qR k v e];exact hv.ok.nodup
end
end Go.Sy
namespace Go.Proofs.YtackilpikhkijaaGreatDoor
open _root_.Go.Proofs.Tryz _root_.Go.Proofs.YtackilpikhkijaaGreatDoor.Tryz
open Go Go.Sy Go.Pl Go.Proofs
def B8 (x y:Side):Bool:=decide (¬ qe y x<0)
def hX (l:List Side):List Side:=l.mergeSort B8
theorem fF (l:List Side):(hX l).Perm l:=List.mergeSort_perm l B8
theorem pG (l:List Side):Bh (hX l):=by
 have h:=List.pairwise_mergeSort (le:=B8) (fun a b c h1 h2=>by
  unfold B8 at *;rw[zj9,gH] at *;omega) (fun a b=>by
  unfold B8;rw[zj7,zj9,zj9,gH,gH];omega) l
 refine List.Pairwise.imp ?_ h;intro a b h1;exact zg6 h1
theorem s6 {l m:List Side}(hp:m.Perm l)(ha:Bh m):m=hX l:=pn ha (pG l) (hp.trans (fF l).symm)
def iq (F:Cl→Cl)(A:List Cl)(ids:List Int):List Cl:=A.map fun y=>if y.id∈ids then F y else y
section
variable {F:Cl→Cl}(hF:∀ y,(F y).id=y.id)
include hF
theorem rt {ids:List Int}{id:Int}(hid:id ∉ ids){y:Cl}:∀ {A:List Cl},(A.map Cl.id).Nodup→aB A id=some y→em (iq F A ids) (F y)=iq F A (ids++[id])
 | [],_,hy=>by cases hy
 | c::A,hn,hy=>by
  rw[zg7,zk6] at hn;unfold aB at hy;rw[zi9] at hy;have hs:∀ i,iq F (c::A) i=(if c.id∈i then F c else c)::iq F A i:=fun _=>rfl;rw[hs,hs];by_cases h:c.id=id
  ·rw[zg2 h] at hy;injection hy with hy
   subst hy;subst h;rw[zg3 hid,zg4 (by simp)];have e1:em (c::iq F A ids) (F c)=F c::iq F A ids:=by simp[em,hF]
   rw[e1];congr 1;unfold iq;refine zc9 fun x hx=>?_;have hne:x.id≠c.id:=fun he=>hn.1 (by rw[← he]; exact zf5.2 ⟨x,hx,I⟩);by_cases h1:x.id∈ids
   ·rw[zg4 h1,zg4 (by simp[h1])]
   ·rw[zg3 h1,zg3 (by simp[h1,hne])]
  ·rw[zg1 h] at hy;have hyid:y.id=id:=by simpa using List.find?_some hy
   have ih:=rt hid hn.2 hy;have h1:(if c.id∈ids then F c else c).id=c.id:=by split <;> simp[hF]
   have e1:∀ (d:Cl) (L:List Cl),d.id=c.id→em (d::L) (F y)=d::em L (F y):=fun d L hd=>by
    have:¬ (F y).id=d.id:=by rw[hd,hF,hyid]; exact fun h'=>h h'.symm
    simp[em,this]
   rw[e1 _ _ h1,ih];congr 1;by_cases h2:c.id∈ids
   ·rw[zg4 h2,zg4 (by simp[h2])]
   ·rw[zg3 h2,zg3 (by simp[h2,h])]
end
theorem yo (F:Cl→Cl)(A:List Cl):iq F A []=A:=by simp[iq]
theorem yt {F:Cl→Cl}{A:List Cl}{ids:List Int}(h:∀ c∈A,c.id∈ids):iq F A ids=A.map F:=zc9 fun c hc=>by rw[zg4<|h c hc]
theorem yq {F:Cl→Cl}{A:List Cl}{ids:List Int}{c:Cl}(hF:∀ y,(F y).id=y.id)(h:c∈iq F A ids)(hc:c.id ∉ ids):c∈A:=by
 unfold iq at h;obtain ⟨y,hy,he⟩:=zf5.1 h;split at he
 ·rename_i h1;rw[← he,hF] at hc;exact absurd h1 hc
 ·rw[← he];exact hy
theorem yr {F:Cl→Cl}(hF:∀ y,(F y).id=y.id)(A:List Cl)(ids:List Int):(iq F A ids).map Cl.id=A.map Cl.id:=by
 unfold iq;rw[zi8];refine zc9 fun c _=>?_;simp only[Function.comp];split
 ·exact hF c
 ·rfl
def ic (ps:List Pr):List Int:=ps.flatMap fun p=>[p.1,p.2]
theorem nr (ps:List Pr)(p:Pr):ic (ps++[p])=ic ps++[p.1,p.2]:=by
 unfold ic;rw[List.flatMap_append];rfl
def lJ (ps:List Pr):Bool:=decide (¬ (ic ps).Nodup)
theorem y9 (ps:List Pr)(p:Pr):lJ (ps++[p])=(lJ ps||decide (p.1∈ic ps)||decide (p.2∈ic ps)||decide (p.1=p.2)):=by
 unfold lJ;rw[nr,Bool.eq_iff_iff];simp only[zj7,zj9];have h:(ic ps++[p.1,p.2]).Nodup↔(ic ps).Nodup∧p.1 ∉ ic ps∧p.2 ∉ ic ps∧p.1≠p.2:=by
  rw[List.nodup_append];simp only[zk6,zi1,List.not_mem_nil,not_false_eq_true,List.nodup_nil,and_true,zf4,or_false];constructor
  ·rintro ⟨h1,h2,h3⟩;exact⟨h1,fun hm=>h3 _ hm _ (.inl I) I,fun hm=>h3 _ hm _ (.inr I) I,h2⟩
  ·rintro ⟨h1,h2,h3,h4⟩;refine⟨h1,h4,fun a ha b hb=>?_⟩
   rcases hb with rfl | rfl
   ·exact fun e=>h2<|e ▸ ha
   ·exact fun e=>h3<|e ▸ ha
 rw[h];by_cases h1:(ic ps).Nodup <;> by_cases h2:p.1∈ic ps <;> by_cases h3:p.2∈ic ps <;> by_cases h4:p.1=p.2 <;> simp[h1,h2,h3,h4]
def swP (p:Pr):Int×Value:=(p.2,vi p.1)
def byF (ps:List Pr)(k:Int):Option Int:=(ps.find? fun p=>decide (p.2=k)).map Prod.fst
theorem vN {ps:List Pr}{p:Pr}(h:p.2 ∉ ic ps):∀ q∈ps.map swP,q.1≠p.2:=fun q hq e=>by
 obtain ⟨r,hr,rfl⟩:=zf5.1 hq;refine h ?_;unfold ic;rw[List.mem_flatMap];refine⟨r,hr,?_⟩;have e2:r.2=p.2:=e;simp[e2]
theorem td (ps:List Pr)(k:Int):dS (ps.map swP) k=(byF ps k).map vi:=by
 induction ps with
 | nil=>rfl
 | cons p ps ih =>
  unfold byF;rw[zg7,zi9];have hc:swP p=(p.2,vi p.1):=rfl;rw[hc,cQ];by_cases h:k=p.2
  ·rw[zg4 h,zg2 h.symm];rfl
  ·rw[zg3 h,zg1 (fun e=>h e.symm),ih];rfl
theorem kY {ps:List Pr}(h:(ic ps).Nodup):(ps.map Prod.snd).Nodup:=by
 induction ps with
 | nil=>simp
 | cons p ps ih =>
  have hc:ic (p::ps)=p.1::p.2::ic ps:=rfl;rw[hc,zk6,zk6] at h;rw[zg7,zk6];refine⟨fun hm=>h.2.1 ?_,ih h.2.2⟩;obtain ⟨q,hq,e⟩:=zf5.1 hm;unfold ic;rw[List.mem_flatMap];exact⟨q,hq,by simp[e]⟩
theorem nf {l:List (Int×Value)}{es:Array MapEntry}{clk:Nat}{vis:List MapEntry}{vl:List (Int×Value)}(h:kw l es vis vl)(hm:i4 l es clk):(vl.map Prod.fst).Nodup:=by
 have h1:(vis.map (·.key)).Nodup:=by
  rw[List.Nodup,zk8];have h2:vis.Pairwise fun a b=>a.born≠b.born:=by
   have:=h.ok.nodup;rwa [List.Nodup,zk8] at this
  refine List.Pairwise.imp_of_mem ?_ h2;intro a b ha hb hab he;have hk:=hm.2.2.2;obtain ⟨i,hi,rfl⟩:=zc8<|h.ok.sub a ha;obtain ⟨j,hj,rfl⟩:=zc8<|h.ok.sub b hb;have h3:(es.toList.map (·.key))[i]'(by simpa using hi)=(es.toList.map (·.key))[j]'(by simpa using hj):=by rw[List.getElem_map,List.getElem_map]; exact he
  have h4:=(List.getElem_inj hk).1 h3;subst h4;exact hab I
 have h2:vis.map (·.key)=(vl.map Prod.fst).map vi:=by
  have h3:=ze5 (List.map Prod.fst) h.eq;rw[zi8,zi8] at h3;rw[zi8];exact h3
 rw[h2] at h1;exact List.Pairwise.of_map vi (fun a b hab hne=>hab<|by rw[hne]) h1
def zz (f:Int→Option Int)(c:Cl):Cl:=⟨c.id,c.dim,hX<|c.sides.map<|dY f⟩
def fp (A:List Cl)(id:Int):Int:=((aB A id).getD bD).dim
def qJ (A:List Cl)(id:Int):List Side:=((aB A id).getD bD).sides
def iG (A:List Cl)(ps:List Pr)(p:Pr):Bool:=decide (hX ((qJ A p.1).map<|dY<|byF ps)=hX ((qJ A p.2).map<|dY<|byF ps))
def dG (A:List Cl)(e:Ed):Int :=
 if e.pairs.all (fun p=>(aB A p.1).isSome&&(aB A p.2).isSome) then
  if lJ e.pairs then 54 else if e.pairs.any (fun p=>decide (fp A p.1≠fp A p.2)) then 21 else if e.pairs.all (iG A e.pairs) then 0 else 33
 else 30
def gN (A:List Cl)(ks:List Int):List Cl:=A.filter fun c=>!decide (c.id∈ks)
def eH (A:List Cl)(e:Ed):List Cl:=(gN A<|e.pairs.map Prod.snd).map (zz<|byF e.pairs)
def gV (e:Ed)(k:Int):List Tm:=match byF e.pairs k with
 | some t=>[(t,1)]
 | none=>[(k,1)]
theorem kK {A:List Cl}(hn:(A.map Cl.id).Nodup)(ks:List Int)(k:Int):ox (gN A ks) k=gN A (ks++[k]):=by
 have h1:((gN A ks).map Cl.id).Nodup:=(List.filter_sublist.map Cl.id).nodup hn;rw[nS k h1];unfold gN;rw[List.filter_filter];refine List.filter_congr fun c _=>?_;by_cases h2:c.id∈ks <;> by_cases h3:c.id=k <;> simp[h2,h3]
end Go.Proofs.YtackilpikhkijaaGreatDoor
