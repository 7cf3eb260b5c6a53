/- E14b E14c Ed20 LwE Eul Bak Pos1 Pos2 Pos3 -/
import Derived.Test.YtmmghffoakhheaaGreatDoorAt12
import Derived.Test.YtmmghffoakhheaaGreatDoorAt07
import Derived.Test.YtmmghffoakhheaaGreatDoorAt10
import Derived.Test.YtmmghffoakhheaaGreatDoorAt09
set_option linter.unusedSimpArgs false
set_option linter.unusedVariables false
namespace Go.Proofs.YtmmghffoakhheaaGreatDoor
open _root_.Go.Proofs.Tryz _root_.Go.Proofs.YtmmghffoakhheaaGreatDoor.Tryz
open Go Go.Sy Go.Pl Go.Proofs
set_option maxRecDepth 100000
set_option maxHeartbeats 8000000
theorem Tryz.sty113:STy Tryz.prog 113 37 1 24 (.slice none 0 0):=⟨underlying113,⟨t37,by kernel_rfl,by kernel_rfl,by kernel_rfl,by kernel_rfl⟩,rfl,by decide⟩
def EdgeS (l:List Cl)(id:Int)(z0 z1:Side):Prop:=∃ c,findC l id=some c∧c.id=id∧c.dim=1∧c.sides=[z0,z1]
def RoundOk (l:List Cl)(S:List Side):Prop :=
 (∃ a b z0 z1,a≠b∧EdgeS l a z0 z1∧EdgeS l b z0 z1∧S=[⟨a,1⟩,⟨b,-1⟩]) ∨
 (∃ a b d x0 x1 y0 y1 z0 z1,a≠b∧EdgeS l a x0 x1∧EdgeS l b y0 y1∧EdgeS l d z0 z1∧endE x0 x1=startS y0 y1∧startS z0 z1=startS x0 x1∧endE z0 z1=endE y0 y1∧endE x0 x1≠endE z0 z1∧S=[⟨a,1⟩,⟨b,1⟩,⟨d,-1⟩])
def AccOk (l:List Cl)(g:PH)(acc:List Sv):Prop:=∀ x∈acc,∃ S,SlA encSide g (.slice x.p x.n x.c) S∧RoundOk l S
theorem AccOk.mono {l:List Cl}{g g':PH}{acc:List Sv}(hl:Le g g')(h:AccOk l g acc):AccOk l g' acc:=fun x hx=>by
 obtain ⟨S,h1,h2⟩:=h x hx;exact⟨S,SlA.mono h1 hl,h2⟩
theorem AccOk.snoc {l:List Cl}{g:PH}{acc:List Sv}{p:Option Addr}{n c:Nat}{S:List Side}(h:AccOk l g acc)(h1:SlA encSide g (.slice p n c) S)(h2:RoundOk l S):AccOk l g (acc++[⟨p,n,c⟩]):=fun x hx=>by
 rcases List.mem_append.1 hx with hx | hx
 ·exact h x hx
 ·simp at hx;subst hx;exact⟨S,h1,h2⟩
theorem edge_rc {l:List Cl}{id:Int}{z0 z1:Side}(h:EdgeS l id z0 z1){g:PH}{x:Rc}(hc:CellR g ((findC l id).getD zeroC) x):∃ p c,x=⟨id,1,⟨p,2,c⟩⟩∧SlA encSide g (.slice p 2 c) [z0,z1]:=by
 obtain ⟨c,h1,h2,h3,h4⟩:=h;rw[h1] at hc;obtain ⟨xi,xd,xp,xn,xc⟩:=x;obtain ⟨e1,e2,e3⟩:=hc;dsimp only[Option.getD_some] at e1 e2 e3;rw[h4] at e3;have h5:xn=2:=Sl.slen e3;subst h5;subst e1 e2;rw[h2,h3];exact⟨xp,xc,I,e3⟩
theorem round14_spec (E:World)(g:PH)(s:Own)(v:Value)(l:List Cl)(n:Int)(hv:Cells g v l)(hf:Fits l)(hE:∀ id∈idsC l 1,∃ z0 z1,EdgeS l id z0 z1)(hI:(idsC l 1).length≤4000) :
  Ctr Tryz.prog E 40 #[.agg #[v],vi n] g s (fun r g' s'=>s=s'∧Le g g'∧∃ S,SlA encSide g' r S∧(S=[]∨RoundOk l S)):=by
 have hIn:∀ i j (hi:i<(idsC l 1).length) (hj:j<(idsC l 1).length),i<j→(idsC l 1)[i]≠(idsC l 1)[j]:=fun i j hi hj hij=>by
  have hn:(idsC l 1).Nodup:=(List.filter_sublist.map Cl.id).nodup (tabC_nodup l);intro he;have h1:=(List.getElem_inj hn).1 he;omega
 obtain ⟨p,c,rfl⟩:=hv.form;refine Ctr.of (args:=[.agg #[.slice p l.length c],vi n]) func40 I ntmps40 (bE I) ?_;refine rZ (bW (bO I) fun b2=>?_);refine aT I (rZ (lK (qV 0 iT29 zT29 I I I) (lW (SO.call call18 I (refIds_spec E g _ _ l 1 hv hf)) ?_)));rintro _ g1 _ ⟨rfl,hle1,hi1⟩;generalize idsC l 1=idl0 at *;obtain ⟨q,d,rfl⟩:=SlA.form hi1;refine aT I (rZ (aT I (sQ (rZ (aT I (bK ?_))))));have hv1:=hv.mono hle1;refine SC.nilRow 37 1 ?_;refine oP (ι:=Nat×PH×Value×List Sv) (fun i=>[(1,vi n),(2,pp b2 0),(5,.slice q idl0.length d),(6,i.2.2.1),(7,vi i.1)]) (fun i=>i.2.1) (fun i=>rowA encSv 37 i.2.2.1 i.2.2.2::pt b2 (.cells #[.slice p l.length c] 29 (0,0))::s)
  (fun i=>i.1≤idl0.length∧Le g1 i.2.1∧i.2.2.2.length≤16004000 * i.1∧AccOk l i.2.1 i.2.2.2) (fun i=>idl0.length - i.1) (0,g1,.slice none 0 0,[]) sB rfl rfl ⟨Nat.zero_le _,Le.refl _,Nat.zero_le _,fun q hq=>by cases hq⟩ ?_
 rintro ⟨i,g2,ov,acc⟩ ⟨hi,hle2,hal,hac⟩;dsimp only at hi hle2 hal hac ⊢;refine sQ (sW I (lM I (lU (eN uT22 I) (yL I (tZ ?_)))));refine iP I (fun hlt=>?_) (fun hlt=>?_)
 ·have hil:i<idl0.length:=oM;have hbI:=SlA.based hi1 oM;have hi2:=SlA.mono hi1 hle2;have hv2:=hv1.mono hle2;have hgi:idl0[((i:Nat):Int).toNat]?=some idl0[i]:=gE hil;obtain ⟨x0,x1,hEx⟩:=hE _ (gM hil);have hIn1:=fun j hj hij=>hIn i j hil hj hij;generalize idl0[i]=ia at *;refine kP (tN (sQ (bK ?_)));refine SC.cut (ι:=Nat×PH×Option Addr×Nat) (fun i'=>[(1,vi n),(2,pp b2 0),(5,.slice q idl0.length d),(6,ov),(7,vi i),(8,pp i'.1 0)]) (fun i'=>i'.2.1)
   (fun i'=>pt i'.1 (.cells #[vi ia,vi 1,.slice i'.2.2.1 2 i'.2.2.2] 54 (0,0))::rowA encSv 37 ov acc::pt b2 (.cells #[.slice p l.length c] 29 (0,0))::s) (fun i'=>Le g2 i'.2.1∧SlA encSide i'.2.1 (.slice i'.2.2.1 2 i'.2.2.2) [x0,x1]) ?_ ?_
  ·refine SC.drawX [10] Tryz.mixed kR ?_;refine SX.q (i:=0) I kR (qV 1 iT29 zT29 I I I) dC (SX.u (i:=1) I kR (mV I) dC (SX.u (i:=2) I kR (mV I) dC (SX.u (i:=3) I kR (iA uT22 zT3 I I hbI oM sL) dC (SX.q (i:=4) I kR (eB (u:=vi ia) iT3 I (SlA.rd hi2) hgi I) dC ?_))))
   repeat' (first
    | (refine SB.o (i:=5) rfl (SO.call call68 rfl (refFind_spec E g2 _ _ l ia hv2 hf)) dC (.inr iR) ?_; rintro _ g3 _ ⟨rfl,hle3,xr,rfl,hcr⟩; obtain ⟨xp,xc,rfl,hxs⟩:=edge_rc hEx hcr; refine SX.u (i:=6) rfl kD (mV rfl) dC ?_; refine SX.u (i:=7) rfl kD (xT rfl rfl) dC ?_; refine SX.u (i:=8) rfl kD (xT rfl rfl) dC ?_)
    | (refine SB.o (i:=5) rfl (SO.call call68 rfl (refFind_spec E g2 _ _ l ia hv2 hf)) dC (.inr iR) ?_; rintro _ g3 _ ⟨rfl,hle3,xr,rfl,hcr⟩; obtain ⟨xp,xc,rfl,hxs⟩:=edge_rc hEx hcr; refine SX.u (i:=6) rfl kD (mV rfl) dC ?_; refine SX.u (i:=7) rfl kD (xT rfl rfl) dC ?_; refine SX.u (i:=8) rfl kD (xT rfl rfl) dC ?_)
    | (refine SB.o (i:=9) rfl (aL zeroValue54) dC (.inr iR) ?_; rintro _ _ _ ⟨b8,rfl,rfl,rfl⟩)
    | (refine SB.o (i:=9) rfl (aL zeroValue54) dC (.inr iR) ?_; rintro _ _ _ ⟨b8,rfl,rfl,rfl⟩)
    | (refine SB.on (i:=10) rfl (sK 0 zT54 rfl rfl rfl rfl rfl sB) (.inl dC) ?_; rintro _ _ _ ⟨rfl,rfl⟩; refine SX.u (i:=11) rfl kD (aS rfl) dC ?_)
    | refine SX.br2 5 9 kD ?_ ?_
    | refine SX.br1 9 kD ?_
    | refine SX.br1 10 kD ?_
    | refine SX.br1 5 kD ?_
    | (refine SX.nil kD ?_; exact ST.mid (b8,g3,xp,xc) sB rfl rfl ⟨hle3,hxs⟩))
  rintro ⟨b8,g3,xp,xc⟩ ⟨hle3,hxs3⟩;dsimp only at hle3 hxs3 ⊢;have hac3:=hac.mono hle3;have hlt':i+1≤idl0.length:=oM;have hL1:acc.length≤16004000 * i+4001 * (i+1):=oM;refine sW I (yD I (aT I (bK ?_)));refine oP (ι:=Nat×PH×Value×List Sv) (fun j=>[(1,vi n),(2,pp b2 0),(5,.slice q idl0.length d),(6,j.2.2.1),(7,vi i),(8,pp b8 0),(10,vi j.1)]) (fun j=>j.2.1)
   (fun j=>pt b8 (.cells #[vi ia,vi 1,.slice xp 2 xc] 54 (0,0))::rowA encSv 37 j.2.2.1 j.2.2.2::pt b2 (.cells #[.slice p l.length c] 29 (0,0))::s)
   (fun j=>i<j.1∧j.1≤idl0.length∧Le g3 j.2.1∧j.2.2.2.length≤16004000 * i+4001 * j.1∧AccOk l j.2.1 j.2.2.2) (fun j=>idl0.length - j.1) (i+1,g3,ov,acc) ⟨rfl,rfl,rfl,rfl,rfl,rfl,vi_eq (by dsimp only; omega),trivial⟩ rfl rfl ⟨Nat.lt_succ_self i,hlt',Le.refl _,hL1,hac3⟩ ?_
  rintro ⟨j,g4,ov4,acc4⟩ ⟨hij,hj,hle4,hal4,hac4⟩;dsimp only at hij hj hle4 hal4 hac4 ⊢;refine sQ (sW I (lM I (lU (eN uT22 I) (yL I (tZ ?_)))));refine iP I (fun hlt2=>?_) (fun hlt2=>?_)
  ·have hjl:j<idl0.length:=oM;have hi4:=SlA.mono hi2 (hle3.trans hle4);have hv4:=hv2.mono (hle3.trans hle4);have hxs4:=SlA.mono hxs3 hle4;have hgj:idl0[((j:Nat):Int).toNat]?=some idl0[j]:=gE hjl;obtain ⟨y0,y1,hEy⟩:=hE _ (gM hjl);have hne:=hIn1 j hjl hij;generalize idl0[j]=ib at *;refine kP (tN (sQ (bK ?_)));refine SC.cut (ι:=Nat×PH×Option Addr×Nat) (fun i'=>[(1,vi n),(2,pp b2 0),(5,.slice q idl0.length d),(6,ov4),(7,vi i),(8,pp b8 0),(10,vi j),(11,pp i'.1 0)]) (fun i'=>i'.2.1)
    (fun i'=>pt i'.1 (.cells #[vi ib,vi 1,.slice i'.2.2.1 2 i'.2.2.2] 54 (0,0))::pt b8 (.cells #[vi ia,vi 1,.slice xp 2 xc] 54 (0,0))::rowA encSv 37 ov4 acc4::pt b2 (.cells #[.slice p l.length c] 29 (0,0))::s) (fun i'=>Le g4 i'.2.1∧SlA encSide i'.2.1 (.slice i'.2.2.1 2 i'.2.2.2) [y0,y1]) ?_ ?_
   ·refine SC.drawX [10] Tryz.mixed kR ?_;refine SX.q (i:=0) I kR (qV 2 iT29 zT29 I I I) dC (SX.u (i:=1) I kR (mV I) dC (SX.u (i:=2) I kR (mV I) dC (SX.u (i:=3) I kR (iA uT22 zT3 I I hbI oM sL) dC (SX.q (i:=4) I kR (eB (u:=vi ib) iT3 I (SlA.rd hi4) hgj I) dC ?_))))
    repeat' (first
     | (refine SB.o (i:=5) rfl (SO.call call68 rfl (refFind_spec E g4 _ _ l ib hv4 hf)) dC (.inr iR) ?_; rintro _ g5 _ ⟨rfl,hle5,yr,rfl,hcr⟩; obtain ⟨yp,yc,rfl,hys⟩:=edge_rc hEy hcr; refine SX.u (i:=6) rfl kD (mV rfl) dC ?_; refine SX.u (i:=7) rfl kD (xT rfl rfl) dC ?_; refine SX.u (i:=8) rfl kD (xT rfl rfl) dC ?_)
     | (refine SB.o (i:=5) rfl (SO.call call68 rfl (refFind_spec E g4 _ _ l ib hv4 hf)) dC (.inr iR) ?_; rintro _ g5 _ ⟨rfl,hle5,yr,rfl,hcr⟩; obtain ⟨yp,yc,rfl,hys⟩:=edge_rc hEy hcr; refine SX.u (i:=6) rfl kD (mV rfl) dC ?_; refine SX.u (i:=7) rfl kD (xT rfl rfl) dC ?_; refine SX.u (i:=8) rfl kD (xT rfl rfl) dC ?_)
     | (refine SB.o (i:=9) rfl (aL zeroValue54) dC (.inr iR) ?_; rintro _ _ _ ⟨b11,rfl,rfl,rfl⟩)
     | (refine SB.o (i:=9) rfl (aL zeroValue54) dC (.inr iR) ?_; rintro _ _ _ ⟨b11,rfl,rfl,rfl⟩)
     | (refine SB.on (i:=10) rfl (sK 0 zT54 rfl rfl rfl rfl rfl sB) (.inl dC) ?_; rintro _ _ _ ⟨rfl,rfl⟩; refine SX.u (i:=11) rfl kD (aS rfl) dC ?_)
     | refine SX.br2 5 9 kD ?_ ?_
     | refine SX.br1 9 kD ?_
     | refine SX.br1 10 kD ?_
     | refine SX.br1 5 kD ?_
     | (refine SX.nil kD ?_; exact ST.mid (b11,g5,yp,yc) sB rfl rfl ⟨hle5,hys⟩))
   rintro ⟨b11,g5,yp,yc⟩ ⟨hle5,hys5⟩;dsimp only at hle5 hys5 ⊢;have hac5:=hac4.mono hle5;have hL2:acc4.length≤16004000 * i+4001 * j+1:=oM;have hL3:(acc4++[(⟨some ⟨0,0,none⟩,2,2⟩:Sv)]).length≤16004000 * i+4001 * j+1:=by rw[List.length_append,List.length_singleton]; omega
   have hxs5:=SlA.mono hxs4 hle5;have hbx:=SlA.based hxs5 (by simp);have hby:=SlA.based hys5 (by simp);have hg0:[x0,x1][((0:Nat):Int).toNat]?=some x0:=rfl;have hg1:[x0,x1][((1:Nat):Int).toNat]?=some x1:=rfl;have hh0:[y0,y1][((0:Nat):Int).toNat]?=some y0:=rfl;have hh1:[y0,y1][((1:Nat):Int).toNat]?=some y1:=rfl;refine SC.cut (ι:=PH×Value×List Sv) (fun i'=>[(1,vi n),(2,pp b2 0),(5,.slice q idl0.length d),(6,i'.2.1),(7,vi i),(8,pp b8 0),(10,vi j),(11,pp b11 0)]) (fun i'=>i'.1)
    (fun i'=>pt b11 (.cells #[vi ib,vi 1,.slice yp 2 yc] 54 (0,0))::pt b8 (.cells #[vi ia,vi 1,.slice xp 2 xc] 54 (0,0))::rowA encSv 37 i'.2.1 i'.2.2::pt b2 (.cells #[.slice p l.length c] 29 (0,0))::s) (fun i'=>Le g5 i'.1∧i'.2.2.length≤16004000 * i+4001 * j+1∧AccOk l i'.1 i'.2.2) ?_ ?_
   ·refine SC.cutB 69 (decide (x0=y0)&&decide (x1=y1)) ?_ ?_
    ·refine dW [] [(0,2),(1,1),(2,2),(3,1),(4,2),(5,1),(6,2),(7,1),(8,2),(9,2),(10,2),(11,1),(12,2),(13,1),(14,2),(15,1),(16,2),(17,1),(18,2),(19,2)] Tryz.mixed kR ?_;refine pU I (fA uT54 I zT37 I) (pK I (qL (v:=.slice xp 2 xc) iT37 I (cO 1 I I)) (pU I (iA (i:=0) uT37 zT56 I I hbx dC (show (0:Int)<((2:Nat):Int) by decide)) ?_));refine pK I (eA iT56 zT56 I (SlA.rd hxs5) hg0) (pU I (fA uT54 I zT37 I) (pK I (qL (v:=.slice yp 2 yc) iT37 I (cO 0 I I)) (pU I (iA (i:=0) uT37 zT56 I I hby dC (show (0:Int)<((2:Nat):Int) by decide)) ?_)));refine pK I (eA iT56 zT56 I (SlA.rd hys5) hh0) (pU I (SU.eqlSide x0 y0 I I) (yM I ?_));refine SP.split ?_ ?_
     ·intro h59;refine SP.gu I (gT I I I dC) (fA uT54 I zT37 I) dC (SP.gq I (gT I I I dC) (qL (v:=.slice xp 2 xc) iT37 I (cO 1 I I)) dC (SP.gu I (gT I I I dC) (iA (i:=1) uT37 zT56 I I hbx dC (show (1:Int)<((2:Nat):Int) by decide)) dC ?_));refine SP.gq I (gT I I I dC) (eA iT56 zT56 I (SlA.rd hxs5) hg1) dC (SP.gu I (gT I I I dC) (fA uT54 I zT37 I) dC (SP.gq I (gT I I I dC) (qL (v:=.slice yp 2 yc) iT37 I (cO 0 I I)) dC (SP.gu I (gT I I I dC) (iA (i:=1) uT37 zT56 I I hby dC (show (1:Int)<((2:Nat):Int) by decide)) dC ?_)));refine SP.gq I (gT I I I dC) (eA iT56 zT56 I (SlA.rd hys5) hh1) dC (SP.gu I (gT I I I dC) (SU.eqlSide x1 y1 I I) dC (pU I (wT I I) (pN ?_)));exact ST.mid1 (by simp_all[get?]) mI
     ·intro h59;refine yG I (yI I (yG I (yI I (yG I (yI I (yG I (yI I (yG I (pU I (wF I I) (pN ?_))))))))));exact ST.mid1 (by simp_all[get?]) mI
    refine iQ I (fun hq=>?_) (fun hq=>?_)
    ·rw[Bool.and_eq_true,decide_eq_true_iff,decide_eq_true_iff] at hq;obtain ⟨hq0,hq1⟩:=hq;refine dW [9] [(0,2),(1,2),(2,1),(4,2),(5,1),(3,0),(6,0),(7,0),(8,0),(9,0),(10,2)] Tryz.mixed kR ?_;refine yM I (pU I (fA uT54 I zT3 I) (pK I (qL (v:=vi ia) iT3 I (cO 1 I I)) (pU I (fA uT54 I zT3 I) (pK I (qL (v:=vi ib) iT3 I (cO 0 I I)) (SP.o I (SO.call call39 I (side14_spec E g5 _ ia 1)) dC (.inr iR) ?_)))));rintro _ _ _ ⟨rfl,rfl,rfl⟩;refine SP.o I (SO.call call39 I (side14_spec E g5 _ ib (-1))) dC (.inr iR) ?_;rintro _ _ _ ⟨rfl,rfl,rfl⟩;refine SP.o I (bS sty37 I I I (szs_mk sB) dC) dC (.inr iR) ?_;rintro _ _ _ ⟨b77,rfl,rfl,rfl⟩;refine SP.freeze fun g6 hle6 hb6=>?_;have hs6:SlA encSide g6 (.slice (some ⟨b77,0,none⟩) 2 2) [⟨ia,1⟩,⟨ib,-1⟩]:=SlA.lit hb6 rfl rfl;refine SP.o I (bS sty113 I I I (szs_mk ⟨I,trivial⟩) dC) dC (.inr iR) ?_;rintro _ _ _ ⟨b78,rfl,rfl,rfl⟩;refine SP.o I (aP (e:=encSv) (l:=acc4) 2 ⟨some ⟨b77,0,none⟩,2,2⟩ sty113 I I I I I oM oM) dC (.inl dC) ?_;rintro ov6 _ _ ⟨rfl,rfl⟩;refine pU I (aS I) (pN (dR (.cons_cons _ (.cons_cons _ (.cons_cons _ (.refl _)))) ?_));exact ST.mid (g6,ov6,acc4++[⟨some ⟨b77,0,none⟩,2,2⟩]) sB I I ⟨hle6,by dsimp only; rw[List.length_append,List.length_singleton]; omega,(hac5.mono hle6).snoc hs6 (.inl ⟨ia,ib,x0,x1,hne,hEx,by rw[hq0,hq1]; exact hEy,I⟩)⟩
    ·refine kP ?_;exact ST.mid (g5,ov4,acc4) sB I I ⟨Le.refl _,hL2,hac5⟩
   rintro ⟨g7,ov7,acc7⟩ ⟨hle7,hal7,hac7⟩;dsimp only at hle7 hal7 hac7 ⊢;have hi7:=SlA.mono hi4 (hle5.trans hle7);have hv7:=hv4.mono (hle5.trans hle7);have hxs7:=SlA.mono hxs5 hle7;have hys7:=SlA.mono hys5 hle7;refine rZ (aT I (bK ?_));refine oP (ι:=Nat×PH×Value×List Sv) (fun k=>[(1,vi n),(2,pp b2 0),(5,.slice q idl0.length d),(6,k.2.2.1),(7,vi i),(8,pp b8 0),(10,vi j),(11,pp b11 0),(13,vi k.1)]) (fun k=>k.2.1)
    (fun k=>pt b11 (.cells #[vi ib,vi 1,.slice yp 2 yc] 54 (0,0))::pt b8 (.cells #[vi ia,vi 1,.slice xp 2 xc] 54 (0,0))::rowA encSv 37 k.2.2.1 k.2.2.2::pt b2 (.cells #[.slice p l.length c] 29 (0,0))::s)
    (fun k=>k.1≤idl0.length∧Le g7 k.2.1∧k.2.2.2.length≤16004000 * i+4001 * j+1+k.1∧AccOk l k.2.1 k.2.2.2) (fun k=>idl0.length - k.1) (0,g7,ov7,acc7) sB rfl rfl ⟨Nat.zero_le _,Le.refl _,by dsimp only; omega,hac7⟩ ?_
   rintro ⟨k,g8,ov8,acc8⟩ ⟨hk,hle8,hal8,hac8⟩;dsimp only at hk hle8 hal8 hac8 ⊢;refine sQ (sW I (lM I (lU (eN uT22 I) (yL I (tZ ?_)))));refine iP I (fun hlt3=>?_) (fun hlt3=>?_)
   ·have hkl:k<idl0.length:=oM;have hi8:=SlA.mono hi7 hle8;have hv8:=hv7.mono hle8;have hxs8:=SlA.mono hxs7 hle8;have hys8:=SlA.mono hys7 hle8;have hgk:idl0[((k:Nat):Int).toNat]?=some idl0[k]:=gE hkl;obtain ⟨z0,z1,hEz⟩:=hE _ (gM hkl);generalize idl0[k]=ic at *;refine kP (tN (sQ (bK ?_)));refine SC.cut (ι:=Nat×PH×Option Addr×Nat) (fun i'=>[(1,vi n),(2,pp b2 0),(5,.slice q idl0.length d),(6,ov8),(7,vi i),(8,pp b8 0),(10,vi j),(11,pp b11 0),(13,vi k),(14,pp i'.1 0)]) (fun i'=>i'.2.1)
     (fun i'=>pt i'.1 (.cells #[vi ic,vi 1,.slice i'.2.2.1 2 i'.2.2.2] 54 (0,0))::pt b11 (.cells #[vi ib,vi 1,.slice yp 2 yc] 54 (0,0))::pt b8 (.cells #[vi ia,vi 1,.slice xp 2 xc] 54 (0,0))::rowA encSv 37 ov8 acc8::pt b2 (.cells #[.slice p l.length c] 29 (0,0))::s) (fun i'=>Le g8 i'.2.1∧SlA encSide i'.2.1 (.slice i'.2.2.1 2 i'.2.2.2) [z0,z1]) ?_ ?_
    ·refine SC.drawX [10] Tryz.mixed kR ?_;refine SX.q (i:=0) I kR (qV 3 iT29 zT29 I I I) dC (SX.u (i:=1) I kR (mV I) dC (SX.u (i:=2) I kR (mV I) dC (SX.u (i:=3) I kR (iA uT22 zT3 I I hbI oM sL) dC (SX.q (i:=4) I kR (eB (u:=vi ic) iT3 I (SlA.rd hi8) hgk I) dC ?_))))
     repeat' (first
      | (refine SB.o (i:=5) rfl (SO.call call68 rfl (refFind_spec E g8 _ _ l ic hv8 hf)) dC (.inr iR) ?_; rintro _ g9 _ ⟨rfl,hle9,zr,rfl,hcr⟩; obtain ⟨zp,zc,rfl,hzs⟩:=edge_rc hEz hcr; refine SX.u (i:=6) rfl kD (mV rfl) dC ?_; refine SX.u (i:=7) rfl kD (xT rfl rfl) dC ?_; refine SX.u (i:=8) rfl kD (xT rfl rfl) dC ?_)
      | (refine SB.o (i:=5) rfl (SO.call call68 rfl (refFind_spec E g8 _ _ l ic hv8 hf)) dC (.inr iR) ?_; rintro _ g9 _ ⟨rfl,hle9,zr,rfl,hcr⟩; obtain ⟨zp,zc,rfl,hzs⟩:=edge_rc hEz hcr; refine SX.u (i:=6) rfl kD (mV rfl) dC ?_; refine SX.u (i:=7) rfl kD (xT rfl rfl) dC ?_; refine SX.u (i:=8) rfl kD (xT rfl rfl) dC ?_)
      | (refine SB.o (i:=9) rfl (aL zeroValue54) dC (.inr iR) ?_; rintro _ _ _ ⟨b14,rfl,rfl,rfl⟩)
      | (refine SB.o (i:=9) rfl (aL zeroValue54) dC (.inr iR) ?_; rintro _ _ _ ⟨b14,rfl,rfl,rfl⟩)
      | (refine SB.on (i:=10) rfl (sK 0 zT54 rfl rfl rfl rfl rfl sB) (.inl dC) ?_; rintro _ _ _ ⟨rfl,rfl⟩; refine SX.u (i:=11) rfl kD (aS rfl) dC ?_)
      | refine SX.br2 5 9 kD ?_ ?_
      | refine SX.br1 9 kD ?_
      | refine SX.br1 10 kD ?_
      | refine SX.br1 5 kD ?_
      | (refine SX.nil kD ?_; exact ST.mid (b14,g9,zp,zc) sB rfl rfl ⟨hle9,hzs⟩))
    rintro ⟨b14,g9,zp,zc⟩ ⟨hle9,hzs9⟩;dsimp only at hle9 hzs9 ⊢;have hac9:=hac8.mono hle9;have hxs9:=SlA.mono hxs8 hle9;have hys9:=SlA.mono hys8 hle9;refine SC.cut (ι:=Unit) (fun _=>[(1,vi n),(2,pp b2 0),(5,.slice q idl0.length d),(6,ov8),(7,vi i),(8,pp b8 0),(10,vi j),(11,pp b11 0),(13,vi k),(14,pp b14 0),(120,vb (decide (endE x0 x1=startS y0 y1)&&decide (startS z0 z1=startS x0 x1)&&decide (endE z0 z1=endE y0 y1)&&decide (endE x0 x1≠endE z0 z1)))]) (fun _=>g9)
     (fun _=>pt b14 (.cells #[vi ic,vi 1,.slice zp 2 zc] 54 (0,0))::pt b11 (.cells #[vi ib,vi 1,.slice yp 2 yc] 54 (0,0))::pt b8 (.cells #[vi ia,vi 1,.slice xp 2 xc] 54 (0,0))::rowA encSv 37 ov8 acc8::pt b2 (.cells #[.slice p l.length c] 29 (0,0))::s) (fun _=>True) ?_ ?_
    ·by_cases c1:endE x0 x1=startS y0 y1
     ·by_cases c2:startS z0 z1=startS x0 x1
      ·by_cases c3:endE z0 z1=endE y0 y1
       ·refine SC.drawX [] Tryz.mixed kR ?_;refine SX.q (i:=0) I kR (qV 2 iT54 zT54 I I I) dC (SX.q (i:=2) I kR (qV 1 iT54 zT54 I I I) dC ?_)
        repeat' (first
         | (refine SB.o (i:=1) rfl (SO.call call69 rfl (end_spec E g9 _ ia 1 xp xc x0 x1 hxs9)) dC (.inr iR) ?_; rintro _ _ _ ⟨rfl,rfl,rfl⟩)
         | (refine SB.o (i:=3) rfl (SO.call call70 rfl (start_spec E g9 _ ib 1 yp yc y0 y1 hys9)) dC (.inr iR) ?_; rintro _ _ _ ⟨rfl,rfl,rfl⟩; refine SX.u (i:=4) rfl kD (SU.eq (v':=vb true) (eQ rfl rfl) (congrArg vb (decide_eq_true c1))) dC ?_; refine SX.u (i:=5) rfl kD (mV rfl) dC ?_; refine SX.gq (i:=6) rfl kD (gT rfl rfl rfl dC) (qV 0 iT54 zT54 rfl rfl rfl) dC ?_; refine SX.gq (i:=8) rfl kD (gT rfl rfl rfl dC) (qV 2 iT54 zT54 rfl rfl rfl) dC ?_)
         | (refine SB.go (i:=7) rfl (gT rfl rfl rfl dC) (SO.call call70 rfl (start_spec E g9 _ ic 1 zp zc z0 z1 hzs9)) dC (.inr iR) ?_; rintro _ _ _ ⟨rfl,rfl,rfl⟩)
         | (refine SB.go (i:=9) rfl (gT rfl rfl rfl dC) (SO.call call70 rfl (start_spec E g9 _ ia 1 xp xc x0 x1 hxs9)) dC (.inr iR) ?_; rintro _ _ _ ⟨rfl,rfl,rfl⟩; refine SX.gu (i:=10) rfl kD (gT rfl rfl rfl dC) (SU.eq (v':=vb true) (eQ rfl rfl) (congrArg vb (decide_eq_true c2))) dC ?_; refine SX.u (i:=11) rfl kD (wT rfl rfl) dC ?_; refine SX.u (i:=12) rfl kD (mV rfl) dC ?_; refine SX.gq (i:=13) rfl kD (gT rfl rfl rfl dC) (qV 0 iT54 zT54 rfl rfl rfl) dC ?_; refine SX.gq (i:=15) rfl kD (gT rfl rfl rfl dC) (qV 1 iT54 zT54 rfl rfl rfl) dC ?_)
         | (refine SB.go (i:=14) rfl (gT rfl rfl rfl dC) (SO.call call69 rfl (end_spec E g9 _ ic 1 zp zc z0 z1 hzs9)) dC (.inr iR) ?_; rintro _ _ _ ⟨rfl,rfl,rfl⟩)
         | (refine SB.go (i:=16) rfl (gT rfl rfl rfl dC) (SO.call call69 rfl (end_spec E g9 _ ib 1 yp yc y0 y1 hys9)) dC (.inr iR) ?_; rintro _ _ _ ⟨rfl,rfl,rfl⟩; refine SX.gu (i:=17) rfl kD (gT rfl rfl rfl dC) (SU.eq (v':=vb true) (eQ rfl rfl) (congrArg vb (decide_eq_true c3))) dC ?_; refine SX.u (i:=18) rfl kD (wT rfl rfl) dC ?_; refine SX.u (i:=19) rfl kD (mV rfl) dC ?_; refine SX.gq (i:=20) rfl kD (gT rfl rfl rfl dC) (qV 2 iT54 zT54 rfl rfl rfl) dC ?_; refine SX.gq (i:=22) rfl kD (gT rfl rfl rfl dC) (qV 0 iT54 zT54 rfl rfl rfl) dC ?_)
         | (refine SB.go (i:=21) rfl (gT rfl rfl rfl dC) (SO.call call69 rfl (end_spec E g9 _ ia 1 xp xc x0 x1 hxs9)) dC (.inr iR) ?_; rintro _ _ _ ⟨rfl,rfl,rfl⟩)
         | (refine SB.go (i:=23) rfl (gT rfl rfl rfl dC) (SO.call call69 rfl (end_spec E g9 _ ic 1 zp zc z0 z1 hzs9)) dC (.inr iR) ?_; rintro _ _ _ ⟨rfl,rfl,rfl⟩; refine SX.gu (i:=24) rfl kD (gT rfl rfl rfl dC) (nQ rfl rfl) dC ?_; refine SX.u (i:=25) rfl kD (wT rfl rfl) dC ?_)
         | refine SX.br1 1 kD ?_
         | refine SX.br1 3 kD ?_
         | refine SX.br1 7 kD ?_
         | refine SX.br1 9 kD ?_
         | refine SX.br1 14 kD ?_
         | refine SX.br1 16 kD ?_
         | refine SX.br1 21 kD ?_
         | refine SX.br1 23 kD ?_
         | (refine SX.nil kD ?_; exact ST.mid () ⟨rfl,rfl,rfl,rfl,rfl,rfl,rfl,rfl,rfl,rfl,(by rw[decide_eq_true c1,decide_eq_true c2,decide_eq_true c3]; rfl),trivial⟩ rfl rfl trivial))
       ·refine SC.drawX [] Tryz.mixed kR ?_;refine SX.q (i:=0) I kR (qV 2 iT54 zT54 I I I) dC (SX.q (i:=2) I kR (qV 1 iT54 zT54 I I I) dC ?_)
        repeat' (first
         | (refine SB.o (i:=1) rfl (SO.call call69 rfl (end_spec E g9 _ ia 1 xp xc x0 x1 hxs9)) dC (.inr iR) ?_; rintro _ _ _ ⟨rfl,rfl,rfl⟩)
         | (refine SB.o (i:=3) rfl (SO.call call70 rfl (start_spec E g9 _ ib 1 yp yc y0 y1 hys9)) dC (.inr iR) ?_; rintro _ _ _ ⟨rfl,rfl,rfl⟩; refine SX.u (i:=4) rfl kD (SU.eq (v':=vb true) (eQ rfl rfl) (congrArg vb (decide_eq_true c1))) dC ?_; refine SX.u (i:=5) rfl kD (mV rfl) dC ?_; refine SX.gq (i:=6) rfl kD (gT rfl rfl rfl dC) (qV 0 iT54 zT54 rfl rfl rfl) dC ?_; refine SX.gq (i:=8) rfl kD (gT rfl rfl rfl dC) (qV 2 iT54 zT54 rfl rfl rfl) dC ?_)
         | (refine SB.go (i:=7) rfl (gT rfl rfl rfl dC) (SO.call call70 rfl (start_spec E g9 _ ic 1 zp zc z0 z1 hzs9)) dC (.inr iR) ?_; rintro _ _ _ ⟨rfl,rfl,rfl⟩)
         | (refine SB.go (i:=9) rfl (gT rfl rfl rfl dC) (SO.call call70 rfl (start_spec E g9 _ ia 1 xp xc x0 x1 hxs9)) dC (.inr iR) ?_; rintro _ _ _ ⟨rfl,rfl,rfl⟩; refine SX.gu (i:=10) rfl kD (gT rfl rfl rfl dC) (SU.eq (v':=vb true) (eQ rfl rfl) (congrArg vb (decide_eq_true c2))) dC ?_; refine SX.u (i:=11) rfl kD (wT rfl rfl) dC ?_; refine SX.u (i:=12) rfl kD (mV rfl) dC ?_; refine SX.gq (i:=13) rfl kD (gT rfl rfl rfl dC) (qV 0 iT54 zT54 rfl rfl rfl) dC ?_; refine SX.gq (i:=15) rfl kD (gT rfl rfl rfl dC) (qV 1 iT54 zT54 rfl rfl rfl) dC ?_)
         | (refine SB.go (i:=14) rfl (gT rfl rfl rfl dC) (SO.call call69 rfl (end_spec E g9 _ ic 1 zp zc z0 z1 hzs9)) dC (.inr iR) ?_; rintro _ _ _ ⟨rfl,rfl,rfl⟩)
         | (refine SB.go (i:=16) rfl (gT rfl rfl rfl dC) (SO.call call69 rfl (end_spec E g9 _ ib 1 yp yc y0 y1 hys9)) dC (.inr iR) ?_; rintro _ _ _ ⟨rfl,rfl,rfl⟩; refine SX.gu (i:=17) rfl kD (gT rfl rfl rfl dC) (SU.eq (v':=vb false) (eQ rfl rfl) (congrArg vb (decide_eq_false c3))) dC ?_; refine SX.u (i:=18) rfl kD (wT rfl rfl) dC ?_; refine SX.u (i:=19) rfl kD (mV rfl) dC ?_; refine SX.off (i:=20) rfl kD (gZ rfl rfl rfl dC) dC ?_; refine SX.off (i:=22) rfl kD (gZ rfl rfl rfl dC) dC ?_)
         | refine SB.offo (i:=21) rfl (gZ rfl rfl rfl dC) dC ⟨by exact Le.refl _,(by exact .refl _)⟩ ?_
         | (refine SB.offo (i:=23) rfl (gZ rfl rfl rfl dC) dC ⟨by exact Le.refl _,(by exact .refl _)⟩ ?_; refine SX.off (i:=24) rfl kD (gZ rfl rfl rfl dC) dC ?_; refine SX.u (i:=25) rfl kD (wF rfl rfl) dC ?_)
         | refine SX.br1 1 kD ?_
         | refine SX.br1 3 kD ?_
         | refine SX.br1 7 kD ?_
         | refine SX.br1 9 kD ?_
         | refine SX.br1 14 kD ?_
         | refine SX.br1 16 kD ?_
         | refine SX.br1 21 kD ?_
         | refine SX.br1 23 kD ?_
         | (refine SX.nil kD ?_; exact ST.mid () ⟨rfl,rfl,rfl,rfl,rfl,rfl,rfl,rfl,rfl,rfl,(by rw[decide_eq_true c1,decide_eq_true c2,decide_eq_false c3]; rfl),trivial⟩ rfl rfl trivial))
      ·refine SC.drawX [] Tryz.mixed kR ?_;refine SX.q (i:=0) I kR (qV 2 iT54 zT54 I I I) dC (SX.q (i:=2) I kR (qV 1 iT54 zT54 I I I) dC ?_)
       repeat' (first
        | (refine SB.o (i:=1) rfl (SO.call call69 rfl (end_spec E g9 _ ia 1 xp xc x0 x1 hxs9)) dC (.inr iR) ?_; rintro _ _ _ ⟨rfl,rfl,rfl⟩)
        | (refine SB.o (i:=3) rfl (SO.call call70 rfl (start_spec E g9 _ ib 1 yp yc y0 y1 hys9)) dC (.inr iR) ?_; rintro _ _ _ ⟨rfl,rfl,rfl⟩; refine SX.u (i:=4) rfl kD (SU.eq (v':=vb true) (eQ rfl rfl) (congrArg vb (decide_eq_true c1))) dC ?_; refine SX.u (i:=5) rfl kD (mV rfl) dC ?_; refine SX.gq (i:=6) rfl kD (gT rfl rfl rfl dC) (qV 0 iT54 zT54 rfl rfl rfl) dC ?_; refine SX.gq (i:=8) rfl kD (gT rfl rfl rfl dC) (qV 2 iT54 zT54 rfl rfl rfl) dC ?_)
        | (refine SB.go (i:=7) rfl (gT rfl rfl rfl dC) (SO.call call70 rfl (start_spec E g9 _ ic 1 zp zc z0 z1 hzs9)) dC (.inr iR) ?_; rintro _ _ _ ⟨rfl,rfl,rfl⟩)
        | (refine SB.go (i:=9) rfl (gT rfl rfl rfl dC) (SO.call call70 rfl (start_spec E g9 _ ia 1 xp xc x0 x1 hxs9)) dC (.inr iR) ?_; rintro _ _ _ ⟨rfl,rfl,rfl⟩; refine SX.gu (i:=10) rfl kD (gT rfl rfl rfl dC) (SU.eq (v':=vb false) (eQ rfl rfl) (congrArg vb (decide_eq_false c2))) dC ?_; refine SX.u (i:=11) rfl kD (wT rfl rfl) dC ?_; refine SX.u (i:=12) rfl kD (mV rfl) dC ?_; refine SX.off (i:=13) rfl kD (gZ rfl rfl rfl dC) dC ?_; refine SX.off (i:=15) rfl kD (gZ rfl rfl rfl dC) dC ?_)
        | refine SB.offo (i:=14) rfl (gZ rfl rfl rfl dC) dC ⟨by exact Le.refl _,(by exact .refl _)⟩ ?_
        | (refine SB.offo (i:=16) rfl (gZ rfl rfl rfl dC) dC ⟨by exact Le.refl _,(by exact .refl _)⟩ ?_; refine SX.off (i:=17) rfl kD (gZ rfl rfl rfl dC) dC ?_; refine SX.u (i:=18) rfl kD (wF rfl rfl) dC ?_; refine SX.u (i:=19) rfl kD (mV rfl) dC ?_; refine SX.off (i:=20) rfl kD (gZ rfl rfl rfl dC) dC ?_; refine SX.off (i:=22) rfl kD (gZ rfl rfl rfl dC) dC ?_)
        | refine SB.offo (i:=21) rfl (gZ rfl rfl rfl dC) dC ⟨by exact Le.refl _,(by exact .refl _)⟩ ?_
        | (refine SB.offo (i:=23) rfl (gZ rfl rfl rfl dC) dC ⟨by exact Le.refl _,(by exact .refl _)⟩ ?_; refine SX.off (i:=24) rfl kD (gZ rfl rfl rfl dC) dC ?_; refine SX.u (i:=25) rfl kD (wF rfl rfl) dC ?_)
        | refine SX.br1 1 kD ?_
        | refine SX.br1 3 kD ?_
        | refine SX.br1 7 kD ?_
        | refine SX.br1 9 kD ?_
        | refine SX.br1 14 kD ?_
        | refine SX.br1 16 kD ?_
        | refine SX.br1 21 kD ?_
        | refine SX.br1 23 kD ?_
        | (refine SX.nil kD ?_; exact ST.mid () ⟨rfl,rfl,rfl,rfl,rfl,rfl,rfl,rfl,rfl,rfl,(by rw[decide_eq_true c1,decide_eq_false c2]; rfl),trivial⟩ rfl rfl trivial))
     ·refine SC.drawX [] Tryz.mixed kR ?_;refine SX.q (i:=0) I kR (qV 2 iT54 zT54 I I I) dC (SX.q (i:=2) I kR (qV 1 iT54 zT54 I I I) dC ?_)
      repeat' (first
       | (refine SB.o (i:=1) rfl (SO.call call69 rfl (end_spec E g9 _ ia 1 xp xc x0 x1 hxs9)) dC (.inr iR) ?_; rintro _ _ _ ⟨rfl,rfl,rfl⟩)
       | (refine SB.o (i:=3) rfl (SO.call call70 rfl (start_spec E g9 _ ib 1 yp yc y0 y1 hys9)) dC (.inr iR) ?_; rintro _ _ _ ⟨rfl,rfl,rfl⟩; refine SX.u (i:=4) rfl kD (SU.eq (v':=vb false) (eQ rfl rfl) (congrArg vb (decide_eq_false c1))) dC ?_; refine SX.u (i:=5) rfl kD (mV rfl) dC ?_; refine SX.off (i:=6) rfl kD (gZ rfl rfl rfl dC) dC ?_; refine SX.off (i:=8) rfl kD (gZ rfl rfl rfl dC) dC ?_)
       | refine SB.offo (i:=7) rfl (gZ rfl rfl rfl dC) dC ⟨by exact Le.refl _,(by exact .refl _)⟩ ?_
       | (refine SB.offo (i:=9) rfl (gZ rfl rfl rfl dC) dC ⟨by exact Le.refl _,(by exact .refl _)⟩ ?_; refine SX.off (i:=10) rfl kD (gZ rfl rfl rfl dC) dC ?_; refine SX.u (i:=11) rfl kD (wF rfl rfl) dC ?_; refine SX.u (i:=12) rfl kD (mV rfl) dC ?_; refine SX.off (i:=13) rfl kD (gZ rfl rfl rfl dC) dC ?_; refine SX.off (i:=15) rfl kD (gZ rfl rfl rfl dC) dC ?_)
       | refine SB.offo (i:=14) rfl (gZ rfl rfl rfl dC) dC ⟨by exact Le.refl _,(by exact .refl _)⟩ ?_
       | (refine SB.offo (i:=16) rfl (gZ rfl rfl rfl dC) dC ⟨by exact Le.refl _,(by exact .refl _)⟩ ?_; refine SX.off (i:=17) rfl kD (gZ rfl rfl rfl dC) dC ?_; refine SX.u (i:=18) rfl kD (wF rfl rfl) dC ?_; refine SX.u (i:=19) rfl kD (mV rfl) dC ?_; refine SX.off (i:=20) rfl kD (gZ rfl rfl rfl dC) dC ?_; refine SX.off (i:=22) rfl kD (gZ rfl rfl rfl dC) dC ?_)
       | refine SB.offo (i:=21) rfl (gZ rfl rfl rfl dC) dC ⟨by exact Le.refl _,(by exact .refl _)⟩ ?_
       | (refine SB.offo (i:=23) rfl (gZ rfl rfl rfl dC) dC ⟨by exact Le.refl _,(by exact .refl _)⟩ ?_; refine SX.off (i:=24) rfl kD (gZ rfl rfl rfl dC) dC ?_; refine SX.u (i:=25) rfl kD (wF rfl rfl) dC ?_)
       | refine SX.br1 1 kD ?_
       | refine SX.br1 3 kD ?_
       | refine SX.br1 7 kD ?_
       | refine SX.br1 9 kD ?_
       | refine SX.br1 14 kD ?_
       | refine SX.br1 16 kD ?_
       | refine SX.br1 21 kD ?_
       | refine SX.br1 23 kD ?_
       | (refine SX.nil kD ?_; exact ST.mid () ⟨rfl,rfl,rfl,rfl,rfl,rfl,rfl,rfl,rfl,rfl,(by rw[decide_eq_false c1]; rfl),trivial⟩ rfl rfl trivial))
    rintro _ -;try dsimp only
    refine iQ I (fun hq=>?_) (fun hq=>?_)
    ·simp only[Bool.and_eq_true,decide_eq_true_iff] at hq;obtain ⟨⟨⟨c1,c2⟩,c3⟩,c4⟩:=hq;refine dW [12] [(0,2),(1,2),(2,1),(4,2),(5,1),(7,2),(8,1),(3,0),(6,0),(9,0),(10,0),(11,0),(12,0),(13,2)] Tryz.mixed kR ?_;refine yM I (pU I (fA uT54 I zT3 I) (pK I (qL (v:=vi ia) iT3 I (cO 2 I I)) (pU I (fA uT54 I zT3 I) (pK I (qL (v:=vi ib) iT3 I (cO 1 I I)) (pU I (fA uT54 I zT3 I) (pK I (qL (v:=vi ic) iT3 I (cO 0 I I)) (SP.o I (SO.call call39 I (side14_spec E g9 _ ia 1)) dC (.inr iR) ?_)))))));rintro _ _ _ ⟨rfl,rfl,rfl⟩;refine SP.o I (SO.call call39 I (side14_spec E g9 _ ib 1)) dC (.inr iR) ?_;rintro _ _ _ ⟨rfl,rfl,rfl⟩;refine SP.o I (SO.call call39 I (side14_spec E g9 _ ic (-1))) dC (.inr iR) ?_;rintro _ _ _ ⟨rfl,rfl,rfl⟩;refine SP.o I (bS sty37 I I I (szs_mk sB) dC) dC (.inr iR) ?_;rintro _ _ _ ⟨b131,rfl,rfl,rfl⟩;refine SP.freeze fun gA hleA hbA=>?_;have hsA:SlA encSide gA (.slice (some ⟨b131,0,none⟩) 3 3) [⟨ia,1⟩,⟨ib,1⟩,⟨ic,-1⟩]:=SlA.lit hbA rfl rfl;refine SP.o I (bS sty113 I I I (szs_mk ⟨I,trivial⟩) dC) dC (.inr iR) ?_;rintro _ _ _ ⟨b132,rfl,rfl,rfl⟩;refine SP.o I (aP (e:=encSv) (l:=acc8) 3 ⟨some ⟨b131,0,none⟩,3,3⟩ sty113 I I I I I oM oM) dC (.inl dC) ?_;rintro ovA _ _ ⟨rfl,rfl⟩;refine pU I (aS I) (pN (bN (tN (rG (lM I (yD I (lA I (nL (dR (.cons _ (.refl _)) ?_)))))))));exact ST.again (k+1,gA,ovA,acc8++[⟨some ⟨b131,0,none⟩,3,3⟩]) sB I I ⟨by dsimp only; omega,hle8.trans (hle9.trans hleA),by dsimp only; rw[List.length_append,List.length_singleton]; omega,(hac9.mono hleA).snoc hsA (.inr ⟨ia,ib,ic,x0,x1,y0,y1,z0,z1,hne,hEx,hEy,hEz,c1,c2,c3,c4,I⟩)⟩ (by dsimp only; omega)
    ·refine kP (bN (tN (rG (lM I (yD I (lA I (nL (dR (.cons _ (.refl _)) ?_))))))));exact ST.again (k+1,g9,ov8,acc8) sB I I ⟨by dsimp only; omega,hle8.trans hle9,by dsimp only; omega,hac9⟩ (by dsimp only; omega)
   ·refine xI (tX (tX (bX (bN (tN (rG (lM I (yD I (lA I (nL (dR (.cons _ (.refl _)) ?_)))))))))));exact ST.again (j+1,g8,ov8,acc8) sB I I ⟨by dsimp only; omega,by dsimp only; omega,hle4.trans (hle5.trans (hle7.trans hle8)),by dsimp only; omega,hac8⟩ (by dsimp only; omega)
  ·have hL4:acc4.length≤16004000 * (i+1):=oM;refine xI (tX (tX (bX (bN (tN (rG (lM I (yD I (lA I (nL (dR (.cons _ (.refl _)) ?_)))))))))));exact ST.again (i+1,g4,ov4,acc4) sB I I ⟨hlt',hle2.trans (hle3.trans hle4),hL4,hac4⟩ (by dsimp only; omega)
 ·have hacl:acc.length≤64016000000:=oM;refine xI (tX (tX (bX (tN (sQ (rZ ?_))))));refine SL.facts fun ⟨w0,hw0⟩=>?_;obtain ⟨q0,d0,rfl⟩:=rowA_form (e:=encSv) (l:=acc) (i:=0) hw0 rfl;have hbq:0<acc.length→based (.slice q0 acc.length d0)=true:=fun h=>(by obtain ⟨b0,c0,he⟩:=rowA_based (e:=encSv) (l:=acc) (i:=0) hw0 rfl h; rw[he]; rfl);clear hw0 w0;refine lM I (lU (eN underlying113 I) (yE I (tZ ?_)));refine iP I (fun h0=>?_) (fun h0=>?_)
  ·refine rZ (aT I (rE (tR (dR (s':=s) uR ?_))));exact ST.ret1 (.inl I) results40 I ⟨I,hle1.trans hle2,[],Sl.nil _ _,.inl I⟩
  ·obtain ⟨hm1,hm2⟩:=modW_nat8 n acc.length oM oM;have hb:=hbq oM;have hmm:=gM hm2;have hgm:acc[(modW n acc.length).toNat]?=some acc[(modW n acc.length).toNat]:=gE hm2;obtain ⟨S,hS1,hS2⟩:=hac _ hmm;generalize acc[(modW n acc.length).toNat]=y at *;refine kP (tN (sW I (lM I (lM I (lU (eN underlying113 I) (lW (SO.call call19 I (mod_spec E g2 _ n acc.length oM)) ?_))))));rintro _ _ _ ⟨rfl,rfl,rfl⟩;rw[hm1];refine lU (iA underlying113 zT37 I I hb oM sL) (lK (eB (u:=.slice y.p y.n y.c) iT37 I (Rd.rowA 0 I) hgm I) (aT I (rE (dR (s':=s) uR ?_))));exact ST.ret1 (.inl I) results40 I ⟨I,hle1.trans hle2,S,hS1,.inr hS2⟩
theorem Tryz.buildE039 (a b:Int)(w:World):(Instr.build 39 #[(0,vi a),(1,vi b)]).run Tryz.prog w = .ok (.agg #[vi a,vi b,vi 0,vi 0,vi 0,.slice none 0 0,.slice none 0 0]) w:=by
 have h1:(vi a).cells = #[vi a]:=rfl;have h2:(vi b).cells = #[vi b]:=rfl;simp[Instr.build,Instr.fill,h1,h2];rfl
theorem Tryz.buildE539 (a b d:Int)(p:Option Addr)(n c:Nat)(w:World):(Instr.build 39 #[(0,vi a),(1,vi b),(2,vi d),(5,.slice p n c)]).run Tryz.prog w = .ok (.agg #[vi a,vi b,vi d,vi 0,vi 0,.slice p n c,.slice none 0 0]) w:=by
 have h1:(vi a).cells = #[vi a]:=rfl;have h2:(vi b).cells = #[vi b]:=rfl;have h3:(vi d).cells = #[vi d]:=rfl;have h4:(Value.slice p n c).cells = #[.slice p n c]:=rfl;simp[Instr.build,Instr.fill,h1,h2,h3,h4];rfl
theorem Tryz.buildE439 (a b d e:Int)(w:World):(Instr.build 39 #[(0,vi a),(1,vi b),(3,vi d),(4,vi e)]).run Tryz.prog w = .ok (.agg #[vi a,vi b,vi 0,vi d,vi e,.slice none 0 0,.slice none 0 0]) w:=by
 have h1:(vi a).cells = #[vi a]:=rfl;have h2:(vi b).cells = #[vi b]:=rfl;have h3:(vi d).cells = #[vi d]:=rfl;have h4:(vi e).cells = #[vi e]:=rfl;simp[Instr.build,Instr.fill,h1,h2,h3,h4];rfl
theorem Tryz.buildE339 (a b d:Int)(w:World):(Instr.build 39 #[(0,vi a),(1,vi b),(4,vi d)]).run Tryz.prog w = .ok (.agg #[vi a,vi b,vi 0,vi 0,vi d,.slice none 0 0,.slice none 0 0]) w:=by
 have h1:(vi a).cells = #[vi a]:=rfl;have h2:(vi b).cells = #[vi b]:=rfl;have h3:(vi d).cells = #[vi d]:=rfl;simp[Instr.build,Instr.fill,h1,h2,h3];rfl
def nextId (l:List Cl):Int:=IntKind.i64.wrap (hiC l+1)
def EditOk (l:List Cl)(e:Ed):Prop:=e.pairs=[] ∧
 ((e.kind=1∧e.cell=nextId l∧e.dim=1∧∃ a∈idsC l 0,∃ b∈idsC l 0,a≠b∧e.sides=[⟨a,-1⟩,⟨b,1⟩]) ∨
  (e.kind=1∧e.cell=nextId l∧e.dim=2∧RoundOk l e.sides) ∨
  (e.kind=3∧e.cell∈idsC l 1∧e.new=nextId l∧e.other=IntKind.i64.wrap (nextId l+1)∧e.sides=[]) ∨
  (e.kind=2∧e.cell∈topsC l∧1<(topsC l).length∧e.sides=[]) ∨
  (e.kind=5∧FreeP l (e.cell,e.other)∧e.sides=[]) ∨
  (e.kind=1∧e.cell=nextId l∧e.dim=0∧e.sides=[]))
theorem RoundOk.len {l:List Cl}{S:List Side}(h:RoundOk l S):S.length=2∨S.length=3:=by
 rcases h with ⟨_,_,_,_,_,_,_,rfl⟩ | ⟨_,_,_,_,_,_,_,_,_,_,_,_,_,_,_,_,_,rfl⟩
 ·exact .inl I
 ·exact .inr I
theorem EditOk.few {l:List Cl}{e:Ed}(h:EditOk l e):e.sides.length≤3∧e.pairs.length=0:=by
 obtain ⟨h1,h2⟩:=h;refine⟨?_,by rw[h1]; rfl⟩
 rcases h2 with ⟨_,_,_,_,_,_,_,_,h⟩ | ⟨_,_,_,h⟩ | ⟨_,_,_,_,h⟩ | ⟨_,_,_,h⟩ | ⟨_,_,h⟩ | ⟨_,_,_,h⟩
 ·rw[h]; simp
 ·have:=h.len; omega
 all_goals rw[h]; simp
theorem edit14_spec (E:World)(g:PH)(s:Own)(v:Value)(l:List Cl)(q0 q1 q2:Int)(hv:Cells g v l)(hf:Fits l)(hE:∀ id∈idsC l 1,∃ z0 z1,EdgeS l id z0 z1)(hll:l.length≤4000) :
  Ctr Tryz.prog E 17 #[.agg #[v],.agg #[vi q0,vi q1,vi q2]] g s (fun r g' s'=>s=s'∧Le g g'∧∃ e,EdR g' r e∧EditOk l e):=by
 have hid:∀ d,(idsC l d).length≤4000:=fun d=>by
  have h1:(idsC l d).length≤(tabC l).length:=by unfold idsC; rw[List.length_map]; exact List.length_filter_le _ _
  have h2:=tabC_length l;omega
 have htl:(topsC l).length≤4000:=by
  have h1:(topsC l).length≤(tabC l).length:=by unfold topsC; rw[List.length_map]; exact List.length_filter_le _ _
  have h2:=tabC_length l;omega
 have hl0:=hid 0;have hl1:=hid 1;obtain ⟨p,c,rfl⟩:=hv.form;refine Ctr.of (args:=[.agg #[.slice p l.length c],.agg #[vi q0,vi q1,vi q2]]) func17 I ntmps17 (bE I) ?_;refine rZ (bW (bO I) fun b2=>?_);refine bW (bO I) fun b3=>?_;refine bW (aL zeroValue39) fun b4=>?_;refine tZ (rZ (lK (qV 2 iT29 zT29 I I I) (lW (SO.call call38 I (highest_spec E g _ _ l hv hf)) ?_)));rintro _ _ _ ⟨rfl,rfl,rfl⟩;refine lU (SU.addW I I) (aT I (rZ (lK (qV 2 iT29 zT29 I I I) (lW (SO.call call18 I (refIds_spec E g _ _ l 0 hv hf)) ?_))));rintro _ g1 _ ⟨rfl,hle1,hV⟩;obtain ⟨pV,cV,rfl⟩:=SlA.form hV;refine aT I (rZ (lK (qV 2 iT29 zT29 I I I) (lW (SO.call call18 I (refIds_spec E g1 _ _ l 1 (hv.mono hle1) hf)) ?_)));rintro _ g2 _ ⟨rfl,hle2,hW⟩;obtain ⟨pW,cW,rfl⟩:=SlA.form hW;refine aT I (rZ (lU (iB uT41 zT3 I I dC dC) (lK (qL (v:=vi q0) iT3 I (cO 1 I I)) (lW (SO.call call19 I (mod_spec E g2 _ q0 12 dC)) ?_))));rintro _ _ _ ⟨rfl,rfl,rfl⟩;have hle12:=hle1.trans hle2;have hv2:=hv.mono hle12;have hV2:=SlA.mono hV hle2;generalize modW q0 12=kd at *;refine aT I ?_;refine SC.cut (ι:=Unit) (fun _=>[(2,pp b2 0),(3,pp b3 0),(4,pp b4 0),(5,vi (nextId l)),(7,.slice pW (idsC l 1).length cW),(8,vi kd)]) (fun _=>g2) (fun _=>pt b4 (.cells #[vi 0,vi 0,vi 0,vi 0,vi 0,.slice none 0 0,.slice none 0 0] 39 (0,0))::pt b3 (.cells #[vi q0,vi q1,vi q2] 41 (0,0))::pt b2 (.cells #[.slice p l.length c] 29 (0,0))::s) (fun _=>True) ?_ ?_
 ·refine SC.cutB 35 (decide (((idsC l 0).length:Int)>1)&&decide (kd≥2)&&decide (kd≤5)) ?_ ?_
  ·refine rG (lM I (lU (eN uT22 I) (lU (gR I I) (lM I ?_))));refine sP ?_ ?_
   ·intro h28;refine yC I (lY I I I (gQ I I) (yP I (lM I ?_)));refine sP ?_ ?_
    ·intro h32;refine yC I (lY I I I (SU.leq I I) (yP I (nL ?_)));exact ST.mid1 (by (simp_all[get?]; done)) mI
    ·intro h32;refine yA I (yA I (yF I (nL ?_)));exact ST.mid1 (by (simp_all[get?]; omega)) mI
   ·intro h28;refine yA I (yA I (yF I (lM I (yA I (yA I (yF I (nL ?_)))))));exact ST.mid1 (by (simp_all[get?]; omega)) mI
  refine iQ I (fun hk=>?_) (fun hk=>?_)
  ·simp only[Bool.and_eq_true,decide_eq_true_iff] at hk;have hlV:1<(idsC l 0).length:=oM;have hbV:=SlA.based hV2 oM;obtain ⟨ha1,ha2⟩:=modW_nat8 q1 (idsC l 0).length oM oM;obtain ⟨hb1,hb2⟩:=modW_nat8 q2 (idsC l 0).length oM oM;have hga:(idsC l 0)[(modW q1 (idsC l 0).length).toNat]?=some (idsC l 0)[(modW q1 (idsC l 0).length).toNat]:=gE ha2;have hgb:(idsC l 0)[(modW q2 (idsC l 0).length).toNat]?=some (idsC l 0)[(modW q2 (idsC l 0).length).toNat]:=gE hb2;have hma:=gM ha2;have hmb:=gM hb2;generalize (idsC l 0)[(modW q1 (idsC l 0).length).toNat]=a at *;generalize (idsC l 0)[(modW q2 (idsC l 0).length).toNat]=b at *;refine sW I (lU (iB uT41 zT3 I I dC dC) (lK (qL (v:=vi q1) iT3 I (cO 1 I I)) (lM I (lU (eN uT22 I) (lW (SO.call call19 I (mod_spec E g2 _ q1 (idsC l 0).length oM)) ?_)))));rintro _ _ _ ⟨rfl,rfl,rfl⟩;rw[ha1];refine lU (iA uT22 zT3 I I hbV oM sL) (lK (eB (u:=vi a) iT3 I (SlA.rd hV2) hga I) (aT I (sW I (lU (iB uT41 zT3 I I dC dC) (lK (qL (v:=vi q2) iT3 I (cO 1 I I)) (lM I (lU (eN uT22 I) (lW (SO.call call19 I (mod_spec E g2 _ q2 (idsC l 0).length oM)) ?_))))))));rintro _ _ _ ⟨rfl,rfl,rfl⟩;rw[hb1];refine lU (iA uT22 zT3 I I hbV oM sL) (lK (eB (u:=vi b) iT3 I (SlA.rd hV2) hgb I) (aT I (sW I (lM I (lU (nQ I I) (tZ ?_))))));refine iP I (fun hab=>?_) (fun hab=>?_)
   ·refine sW I (lM I (lW (SO.call call39 I (side14_spec E g2 _ a (-1))) ?_));rintro _ _ _ ⟨rfl,rfl,rfl⟩;refine lM I (lW (SO.call call39 I (side14_spec E g2 _ b 1)) ?_);rintro _ _ _ ⟨rfl,rfl,rfl⟩;refine lW (bS sty37 I I I (szs_mk sB) dC) ?_;rintro _ _ _ ⟨b60,rfl,rfl,rfl⟩;refine SL.freeze fun g3 hle3 hb3=>?_;have hs3:SlA encSide g3 (.slice (some ⟨b60,0,none⟩) 2 2) [⟨a,-1⟩,⟨b,1⟩]:=SlA.lit hb3 rfl rfl;refine lU (SU.build I (buildE539 _ _ _ _ _ _)) ?_;refine oZ (sK 0 zT39 rfl rfl rfl rfl rfl (by (repeat' (first | exact trivial | refine⟨by rfl,?_⟩)))) ?_;refine tZ (rE (tR ?_));exact ST.retCD 0 s (.inl I) results17 I iT39 zT39 I I uR ⟨I,hle12.trans hle3,⟨1,nextId l,1,0,0,[⟨a,-1⟩,⟨b,1⟩],[]⟩,⟨_,_,I,hs3,Sl.nil _ _⟩,I,.inl ⟨I,I,I,a,hma,b,hmb,hab,I⟩⟩
   ·refine kP ?_;exact ST.mid () sB I I trivial
  ·refine kP ?_;exact ST.mid () sB I I trivial
 rintro _ -;try dsimp only
 refine sQ (sW I (tZ (bK (sQ (rZ (yE I (aT I ?_)))))));refine iP I (fun h6=>?_) (fun h6=>?_)
 ·refine kP (tN ?_);refine iP I (fun h6b=>?_) (fun h6b=>?_)
  ·refine rZ (lK (qV 2 iT29 zT29 I I I) (lU (iB uT41 zT3 I I dC dC) (lK (qL (v:=vi q1) iT3 I (cO 1 I I)) (lW (SO.call call40 I (round14_spec E g2 _ _ l q1 hv2 hf hE hl1)) ?_))));rintro vS g3 _ ⟨rfl,hle3,S,hS,hSo⟩;obtain ⟨pS,cS,rfl⟩:=SlA.form hS;have hle13:=hle12.trans hle3;refine aT I (sW I (lU (eN uT37 I) (lU (gR I I) (tZ ?_))));refine iP I (fun hS0=>?_) (fun hS0=>?_)
   ·have hSr:RoundOk l S:=by
     rcases hSo with rfl | h
     ·simp at hS0
     ·exact h
    refine sW I (lM I (lU (SU.build I (buildE539 _ _ _ _ _ _)) ?_));refine oZ (sK 0 zT39 rfl rfl rfl rfl rfl (by (repeat' (first | exact trivial | refine⟨by rfl,?_⟩)))) ?_;refine tZ (rE (bR (tR ?_)));exact ST.retCD 0 s (.inl I) results17 I iT39 zT39 I I uR ⟨I,hle13,⟨1,nextId l,2,0,0,S,[]⟩,⟨_,_,I,hS,Sl.nil _ _⟩,I,.inr (.inl ⟨I,I,I,hSr⟩)⟩
   ·refine kP (bN (tN (sW I (lU (SU.build I (buildE039 _ _)) ?_))));refine oZ (sK 0 zT39 rfl rfl rfl rfl rfl (by (repeat' (first | exact trivial | refine⟨by rfl,?_⟩)))) ?_;refine tZ (rE ?_);exact ST.retCD 0 s (.inl I) results17 I iT39 zT39 I I uR ⟨I,hle13,⟨1,nextId l,0,0,0,[],[]⟩,⟨_,_,I,Sl.nil _ _,Sl.nil _ _⟩,I,.inr (.inr (.inr (.inr (.inr ⟨I,I,I,I⟩))))⟩
  ·exact absurd h6 h6b
 ·refine rG (yE I (aT I ?_));refine iP I (fun h7=>?_) (fun h7=>?_)
  ·refine rZ (lK (qV 2 iT29 zT29 I I I) (lU (iB uT41 zT3 I I dC dC) (lK (qL (v:=vi q1) iT3 I (cO 1 I I)) (lW (SO.call call40 I (round14_spec E g2 _ _ l q1 hv2 hf hE hl1)) ?_))));rintro vS g3 _ ⟨rfl,hle3,S,hS,hSo⟩;obtain ⟨pS,cS,rfl⟩:=SlA.form hS;have hle13:=hle12.trans hle3;refine aT I (sW I (lU (eN uT37 I) (lU (gR I I) (tZ ?_))));refine iP I (fun hS0=>?_) (fun hS0=>?_)
   ·have hSr:RoundOk l S:=by
     rcases hSo with rfl | h
     ·simp at hS0
     ·exact h
    refine sW I (lM I (lU (SU.build I (buildE539 _ _ _ _ _ _)) ?_));refine oZ (sK 0 zT39 rfl rfl rfl rfl rfl (by (repeat' (first | exact trivial | refine⟨by rfl,?_⟩)))) ?_;refine tZ (rE (bR (tR ?_)));exact ST.retCD 0 s (.inl I) results17 I iT39 zT39 I I uR ⟨I,hle13,⟨1,nextId l,2,0,0,S,[]⟩,⟨_,_,I,hS,Sl.nil _ _⟩,I,.inr (.inl ⟨I,I,I,hSr⟩)⟩
   ·refine kP (bN (tN (sW I (lU (SU.build I (buildE039 _ _)) ?_))));refine oZ (sK 0 zT39 rfl rfl rfl rfl rfl (by (repeat' (first | exact trivial | refine⟨by rfl,?_⟩)))) ?_;refine tZ (rE ?_);exact ST.retCD 0 s (.inl I) results17 I iT39 zT39 I I uR ⟨I,hle13,⟨1,nextId l,0,0,0,[],[]⟩,⟨_,_,I,Sl.nil _ _,Sl.nil _ _⟩,I,.inr (.inr (.inr (.inr (.inr ⟨I,I,I,I⟩))))⟩
  ·refine rZ (yE I (aT I ?_));refine iP I (fun h8=>?_) (fun h8=>?_)
   ·refine sW I (lU (eN uT22 I) (lU (gR I I) (tZ ?_)));refine iP I (fun hW0=>?_) (fun hW0=>?_)
    ·have hbW:=SlA.based hW oM;obtain ⟨ha1,ha2⟩:=modW_nat8 q1 (idsC l 1).length oM oM;have hga:(idsC l 1)[(modW q1 (idsC l 1).length).toNat]?=some (idsC l 1)[(modW q1 (idsC l 1).length).toNat]:=gE ha2;have hma:=gM ha2;generalize (idsC l 1)[(modW q1 (idsC l 1).length).toNat]=a at *;refine sW I (lU (iB uT41 zT3 I I dC dC) (lK (qL (v:=vi q1) iT3 I (cO 1 I I)) (lM I (lU (eN uT22 I) (lW (SO.call call19 I (mod_spec E g2 _ q1 (idsC l 1).length oM)) ?_)))));rintro _ _ _ ⟨rfl,rfl,rfl⟩;rw[ha1];refine lU (iA uT22 zT3 I I hbW oM sL) (lK (eB (u:=vi a) iT3 I (SlA.rd hW) hga I) (lM I (lM I (lU (SU.addW I I) (lU (SU.build I (buildE439 _ _ _ _)) ?_)))));refine oZ (sK 0 zT39 rfl rfl rfl rfl rfl (by (repeat' (first | exact trivial | refine⟨by rfl,?_⟩)))) ?_;refine tZ (rE (bR (tR ?_)));exact ST.retCD 0 s (.inl I) results17 I iT39 zT39 I I uR ⟨I,hle12,⟨3,a,0,nextId l,IntKind.i64.wrap (nextId l+1),[],[]⟩,⟨_,_,I,Sl.nil _ _,Sl.nil _ _⟩,I,.inr (.inr (.inl ⟨I,hma,I,I,I⟩))⟩
    ·refine kP (bN (tN (sW I (lU (SU.build I (buildE039 _ _)) ?_))));refine oZ (sK 0 zT39 rfl rfl rfl rfl rfl (by (repeat' (first | exact trivial | refine⟨by rfl,?_⟩)))) ?_;refine tZ (rE ?_);exact ST.retCD 0 s (.inl I) results17 I iT39 zT39 I I uR ⟨I,hle12,⟨1,nextId l,0,0,0,[],[]⟩,⟨_,_,I,Sl.nil _ _,Sl.nil _ _⟩,I,.inr (.inr (.inr (.inr (.inr ⟨I,I,I,I⟩))))⟩
   ·refine rZ (yE I (aT I ?_));refine iP I (fun h9=>?_) (fun h9=>?_)
    ·refine rZ (lK (qV 2 iT29 zT29 I I I) (lW (SO.call call31 I (refTops_spec E g2 _ _ l hv2 hf)) ?_));rintro _ g3 _ ⟨rfl,hle3,hT⟩;obtain ⟨pT,cT,rfl⟩:=SlA.form hT;have hle13:=hle12.trans hle3;refine aT I (sW I (lU (eN uT22 I) (lU (gR I I) (tZ ?_))));refine iP I (fun hT0=>?_) (fun hT0=>?_)
     ·have hbT:=SlA.based hT oM;obtain ⟨ha1,ha2⟩:=modW_nat8 q1 (topsC l).length oM oM;have hga:(topsC l)[(modW q1 (topsC l).length).toNat]?=some (topsC l)[(modW q1 (topsC l).length).toNat]:=gE ha2;have hma:=gM ha2;generalize (topsC l)[(modW q1 (topsC l).length).toNat]=a at *;refine sW I (lU (iB uT41 zT3 I I dC dC) (lK (qL (v:=vi q1) iT3 I (cO 1 I I)) (lM I (lU (eN uT22 I) (lW (SO.call call19 I (mod_spec E g3 _ q1 (topsC l).length oM)) ?_)))));rintro _ _ _ ⟨rfl,rfl,rfl⟩;rw[ha1];refine lU (iA uT22 zT3 I I hbT oM sL) (lK (eB (u:=vi a) iT3 I (SlA.rd hT) hga I) (lU (SU.build I (buildE039 _ _)) ?_));refine oZ (sK 0 zT39 rfl rfl rfl rfl rfl (by (repeat' (first | exact trivial | refine⟨by rfl,?_⟩)))) ?_;refine tZ (rE (bR (tR ?_)));exact ST.retCD 0 s (.inl I) results17 I iT39 zT39 I I uR ⟨I,hle13,⟨2,a,0,0,0,[],[]⟩,⟨_,_,I,Sl.nil _ _,Sl.nil _ _⟩,I,.inr (.inr (.inr (.inl ⟨I,hma,oM,I⟩)))⟩
     ·refine kP (bN (tN (sW I (lU (SU.build I (buildE039 _ _)) ?_))));refine oZ (sK 0 zT39 rfl rfl rfl rfl rfl (by (repeat' (first | exact trivial | refine⟨by rfl,?_⟩)))) ?_;refine tZ (rE ?_);exact ST.retCD 0 s (.inl I) results17 I iT39 zT39 I I uR ⟨I,hle13,⟨1,nextId l,0,0,0,[],[]⟩,⟨_,_,I,Sl.nil _ _,Sl.nil _ _⟩,I,.inr (.inr (.inr (.inr (.inr ⟨I,I,I,I⟩))))⟩
    ·refine rZ (yE I (aT I ?_));refine iP I (fun h10=>?_) (fun h10=>?_)
     ·refine rZ (lK (qV 2 iT29 zT29 I I I) (lU (iB uT41 zT3 I I dC dC) (lK (qL (v:=vi q1) iT3 I (cO 1 I I)) (lW (SO.call call41 I (free14_spec E g2 _ _ l q1 hv2 hf)) ?_))));rintro _ g3 _ ⟨rfl,hle3,⟨f1,f2⟩,ok,rfl,hfr⟩;have hle13:=hle12.trans hle3;refine lM I (yX I (yX I (bW (aL zeroValue44) fun b13=>?_)));refine oZ (sK 0 zT44 I I I I I sB) ?_;refine aT I (sW I (tZ ?_));refine iQ I (fun hok=>?_) (fun hok=>?_)
      ·refine rZ (lU (iB uT44 zT3 I I dC dC) (lK (qL (v:=vi f1) iT3 I (cO 0 I I)) (lU (iB uT44 zT3 I I dC dC) (lK (qL (v:=vi f2) iT3 I (cO 0 I I)) (lU (SU.build I (buildE339 _ _ _)) ?_)))));refine oZ (sK 1 zT39 rfl rfl rfl rfl rfl (by (repeat' (first | exact trivial | refine⟨by rfl,?_⟩)))) ?_;refine tZ (rE (bR (tR ?_)));exact ST.retCD 1 s (.inl I) results17 I iT39 zT39 I I uR ⟨I,hle13,⟨5,f1,0,0,f2,[],[]⟩,⟨_,_,I,Sl.nil _ _,Sl.nil _ _⟩,I,.inr (.inr (.inr (.inr (.inl ⟨I,hfr hok,I⟩))))⟩
      ·refine kP (bN (tN (sW I (lU (SU.build I (buildE039 _ _)) ?_))));refine oZ (sK 1 zT39 rfl rfl rfl rfl rfl (by (repeat' (first | exact trivial | refine⟨by rfl,?_⟩)))) ?_;refine tZ (rE ?_);exact ST.retCD 1 s (.inl I) results17 I iT39 zT39 I I uR ⟨I,hle13,⟨1,nextId l,0,0,0,[],[]⟩,⟨_,_,I,Sl.nil _ _,Sl.nil _ _⟩,I,.inr (.inr (.inr (.inr (.inr ⟨I,I,I,I⟩))))⟩
     ·refine kP (bN (tN (sW I (lU (SU.build I (buildE039 _ _)) ?_))));refine oZ (sK 0 zT39 rfl rfl rfl rfl rfl (by (repeat' (first | exact trivial | refine⟨by rfl,?_⟩)))) ?_;refine tZ (rE ?_);exact ST.retCD 0 s (.inl I) results17 I iT39 zT39 I I uR ⟨I,hle12,⟨1,nextId l,0,0,0,[],[]⟩,⟨_,_,I,Sl.nil _ _,Sl.nil _ _⟩,I,.inr (.inr (.inr (.inr (.inr ⟨I,I,I,I⟩))))⟩
set_option maxHeartbeats 1000000
theorem applyOut_rt {code:Int}{B:List Cl}(h:(applyOut code B).1=0):Rt (applyOut code B).2∧code=0∧(applyOut code B).2=canonC B:=by
 unfold applyOut at h ⊢;split at h
 ·rename_i h1; exact absurd h h1
 ·rename_i h1;rw[if_neg h1];split at h
  ·rename_i h2; exact absurd h h2
  ·rename_i h2;rw[if_neg h2];have h3:=rt_of (Decidable.not_not.1 h2);rw[canonC_idem] at h3;exact⟨h3,Decidable.not_not.1 h1,I⟩
theorem appC_rt {l:List Cl}{e:Ed}(h:(appC l e).1=0):Rt (appC l e).2∧(checkC l).2=0∧codeK (canonC l) e=0∧(appC l e).2=canonC (cellsK (canonC l) e):=by
 unfold appC at h ⊢;split at h
 ·rename_i h1;rw[if_pos h1];obtain ⟨h2,h3,h4⟩:=applyOut_rt h;exact⟨h2,h1,h3,h4⟩
 ·cases h
theorem appC_bad {l:List Cl}{e:Ed}(h:(appC l e).1≠0):(appC l e).2=[]:=by
 unfold appC at h ⊢;split at h
 ·rename_i h1;rw[if_pos h1];unfold applyOut at h ⊢;split at h
  ·rename_i h2; rw[if_pos h2]
  ·rename_i h2;rw[if_neg h2];split at h
   ·rename_i h3; rw[if_pos h3]
   ·exact absurd I h
 ·rename_i h1; rw[if_neg h1]
theorem appC_fits (l:List Cl)(e:Ed):Fits (appC l e).2:=by
 by_cases h:(appC l e).1=0
 ·exact (appC_rt h).1.fits
 ·rw[appC_bad h]; exact⟨by simp,by simp⟩
theorem appC_few (l:List Cl)(e:Ed):(appC l e).2.length≤4000:=by
 by_cases h:(appC l e).1=0
 ·exact (appC_rt h).1.few
 ·rw[appC_bad h]; simp
theorem RefAppR.app {code:Int}{D:List Cl}{ims:List (Int×List Tm)}{bk:Bool}{r:Value}{g:PH}(h:RefAppR code D ims bk r g):ApplyR code D r g:=by
 obtain ⟨u,p,n,c,b,h1,h2,-⟩:=h;exact⟨u,p,n,c,b,h1,h2⟩
set_option maxHeartbeats 4000000
theorem edges_of {l:List Cl}(h:(checkC l).2=0):∀ id∈idsC l 1,∃ z0 z1,EdgeS l id z0 z1:=fun id hid=>by
 have hA:=rt_of h;have ht:tabC l=canonC l:=by
  have h1:=hA.asc;exact tabC_strict h1
 unfold idsC at hid;obtain ⟨c,hc,rfl⟩:=List.mem_map.1 hid;obtain ⟨h1,h2⟩:=List.mem_filter.1 hc;rw[ht] at h1;obtain ⟨z0,z1,h3,-⟩:=hA.edge h1 (of_decide_eq_true h2);refine⟨z0,z1,c,?_,I,of_decide_eq_true h2,h3⟩;unfold findC;rw[ht];exact hA.find h1
theorem prog_to {l:List Cl}(hf:Fits l)(e:Ed)(hes:e.sides.length<1099511627776)(hpl:e.pairs.length<1099511627776):ApplyTo l e (appC l e).1 (appC l e).2:=fun E g s v ev hv he =>
 (prog_apply E g s v ev l e hv hf he hes hpl).mono fun _ _ _ ⟨h1,h2,h3⟩=>⟨h1,h2,h3.app⟩
theorem appC_of {D B A:List Cl}{e:Ed}(hD:Rt D)(hk:codeK D e=0)(hB:cellsK D e=B)(hc:canonC B=A)(hA:Rt A):appC D e=(0,A):=by
 unfold appC;rw[hD.check,hD.canon,if_pos rfl,hk,hB];unfold applyOut;rw[hc,hA.check];rfl
theorem norm_rt {A:List Cl}(h:Rt A){c:Cl}(hc:c∈A):normC c=c:=by
 unfold normC;rw[(eq_sortBy (key:=Side.cell) ((h.form c hc).asc.imp fun h=>by omega) (Stab.refl c.sides)).symm]
theorem norm_rts {A:List Cl}(h:Rt A):A.map normC=A:=by
 rw[List.map_congr_left fun c hc=>norm_rt h hc];simp
theorem findT_none' {A:List Cl}{k:Int}(h:∀ c∈A,c.id≠k):findT A k=none:=by
 unfold findT;rw[List.find?_eq_none];intro c hc;simpa using h c hc
theorem findT_left {A B:List Cl}{id:Int}{d:Cl}(h:findT A id=some d):findT (A++B) id=some d:=by
 unfold findT at h ⊢;rw[List.find?_append,h];rfl
theorem around_left {A B:List Cl}{c:Cl}(hf:∀ x∈c.sides,∃ d,findT A x.cell=some d):aroundC (A++B) c=aroundC A c:=by
 rw[aroundC_L,aroundC_L];have:lookL (A++B) c=lookL A c:=by
  unfold lookL;refine List.map_congr_left fun x hx=>?_;obtain ⟨d,hd⟩:=hf x hx;unfold sidesOf;rw[findT_left hd,hd]
 rw[this]
theorem Fm.left {A B:List Cl}{c:Cl}(h:Fm A c):Fm (A++B) c:=⟨h.dim,h.cnt,fun x hx=>by
 obtain ⟨d,hd,h2⟩:=h.found x hx;exact⟨d,findT_left hd,h2⟩,h.asc,h.sg,h.one⟩
theorem Rt.more {A B:List Cl}(h:Rt A)(hl:(A++B).length≤4000)(ha:(A++B).Pairwise fun a b=>a.id<b.id)(hp:∀ n∈B,0<n.id)(hf:∀ n∈B,Fm (A++B) n)(hr:∀ n∈B,n.dim>1→aroundC (A++B) n=0):Rt (A++B):=by
 refine⟨hl,ha,fun x hx=>?_,fun x hx=>?_,fun x hx hd=>?_⟩
 ·rcases List.mem_append.1 hx with hx | hx
  ·exact h.pos x hx
  ·exact hp x hx
 ·rcases List.mem_append.1 hx with hx | hx
  ·exact (h.form x hx).left
  ·exact hf x hx
 ·rcases List.mem_append.1 hx with hx | hx
  ·rw[around_left fun y hy=>by obtain ⟨d,hd,_⟩:=(h.form x hx).found y hy; exact⟨d,hd⟩];exact h.around x hx hd
  ·exact hr x hx hd
theorem canon_more {A B:List Cl}(h:Rt A)(hs:(A++B).Pairwise fun a b=>a.id<b.id):canonC (A++B)=A++B.map normC:=by
 unfold canonC;rw[(eq_sortBy (key:=Cl.id) (hs.imp fun h=>by omega) (Stab.refl (A++B))).symm,List.map_append,norm_rts h]
theorem fm_norm {tl:List Cl}{c:Cl}(hd:0≤c.dim∧c.dim≤8)(hc:cntBad c=false)(hf:∀ x∈c.sides,∃ d,findT tl x.cell=some d∧d.dim=c.dim - 1)(hn:(c.sides.map Side.cell).Nodup)(hs:∀ x∈c.sides,x.sign=1∨x.sign = -1)(ho:c.dim=1→sumS c.sides=0):Fm tl (normC c):=by
 have hp:=sortBy_perm (key:=Side.cell) c.sides;have hl:(sortBy Side.cell c.sides).length=c.sides.length:=hp.length_eq;refine⟨hd,?_,fun x hx=>hf x (hp.mem_iff.1 hx),?_,fun x hx=>hs x (hp.mem_iff.1 hx),fun h1=>?_⟩
 ·unfold cntBad at hc ⊢;unfold normC;dsimp only;rw[hl];exact hc
 ·have h1:(sortBy Side.cell c.sides).Pairwise fun a b=>a.cell≤b.cell:=sortBy_srt c.sides;have h2:((sortBy Side.cell c.sides).map Side.cell).Nodup:=(hp.map Side.cell).symm.nodup hn;have h3:=List.pairwise_map.1 h2;exact (h1.and h3).imp fun ⟨h4,h5⟩=>by omega
 ·have:sumS (sortBy Side.cell c.sides)=sumS c.sides:=perm_sumI (hp.map Side.sign);show sumS (sortBy Side.cell c.sides)=0;rw[this];exact ho h1
theorem flat_perm {α β:Type}(f:α→List β){l m:List α}(h:l.Perm m):(l.flatMap f).Perm (m.flatMap f):=by
 induction h with
 | nil=>exact .refl _
 | cons x _ ih=>simpa using ih.append_left _
 | swap x y l=>simp only[List.flatMap_cons,← List.append_assoc]; exact (List.perm_append_comm (l₁:=f y) (l₂:=f x)).append_right _
 | trans _ _ ih1 ih2=>exact ih1.trans ih2
theorem around_perm {tl:List Cl}{c:Cl}{S:List Side}(hp:c.sides.Perm S)(h0:0<S.length)(hn:(S.map Side.cell).Nodup)(h1:∀ r,sumR tl S r=0)(h2:∀ r,cntR tl S r=0∨cntR tl S r=2)(h3:∀ x∈S,∀ y∈S,Cn (share tl S) x.cell y.cell):aroundC tl c=0:=by
 refine (around_iff (by rw[hp.length_eq]; exact h0) ((hp.map Side.cell).symm.nodup hn)).2 ⟨fun r=>?_,fun r=>?_,fun x hx y hy=>?_⟩
 ·rw[← h1 r];exact perm_sumI (flat_perm _ hp)
 ·have:cntR tl c.sides r=cntR tl S r:=perm_sumN (hp.map _);rw[this];exact h2 r
 ·exact (h3 x (hp.mem_iff.1 hx) y (hp.mem_iff.1 hy)).mono fun a b ⟨x,hx,y,hy,h4⟩=>.one ⟨x,hp.mem_iff.2 hx,y,hp.mem_iff.2 hy,h4⟩
section
variable {z0 z1:Side}(hz:(z0.sign=1∧z1.sign = -1)∨(z0.sign = -1∧z1.sign=1))
include hz
theorem edge_sum (x r:Int):([z0,z1].map fun q=>if q.cell=r then x * q.sign else 0).sum=x * ((if endE z0 z1=r then 1 else 0) - (if startS z0 z1=r then 1 else 0)):=by
 rcases hz with ⟨h0,h1⟩ | ⟨h0,h1⟩ <;> unfold endE startS <;> simp only[List.map_cons,List.map_nil,List.sum_cons,List.sum_nil,h0,h1] <;> by_cases ha:z0.cell=r <;> by_cases hb:z1.cell=r <;> simp[ha,hb] <;> omega
theorem edge_hits (r:Int):([z0,z1].filter fun q=>decide (q.cell=r)).length=(if endE z0 z1=r then 1 else 0)+(if startS z0 z1=r then 1 else 0):=by
 rcases hz with ⟨h0,h1⟩ | ⟨h0,h1⟩ <;> unfold endE startS <;> simp only[h0,h1] <;> by_cases ha:z0.cell=r <;> by_cases hb:z1.cell=r <;> simp[ha,hb]
theorem edge_ne (hne:z0.cell≠z1.cell):startS z0 z1≠endE z0 z1:=by
 rcases hz with ⟨h0,h1⟩ | ⟨h0,h1⟩ <;> unfold endE startS <;> simp[h0,h1] <;> omega
end
def EndsOf (tl:List Cl)(a s t:Int):Prop:=s≠t∧(∀ x r:Int,((((findT tl a).getD zeroC).sides).map fun q=>if q.cell=r then x * q.sign else 0).sum=x * ((if t=r then 1 else 0) - (if s=r then 1 else 0))) ∧
 ∀ r,((((findT tl a).getD zeroC).sides).filter fun q=>decide (q.cell=r)).length=(if t=r then 1 else 0)+(if s=r then 1 else 0)
theorem EndsOf.sum {tl:List Cl}{a s t:Int}(h:EndsOf tl a s t)(x r:Int):((sidesOf tl ⟨a,x⟩).map fun q=>if q.cell=r then x * q.sign else 0).sum=x * ((if t=r then 1 else 0) - (if s=r then 1 else 0)):=h.2.1 x r
theorem EndsOf.hits {tl:List Cl}{a s t:Int}(h:EndsOf tl a s t)(x r:Int):hits tl ⟨a,x⟩ r=(if t=r then 1 else 0)+(if s=r then 1 else 0):=h.2.2 r
theorem EndsOf.left {A B:List Cl}{a s t:Int}(h:EndsOf A a s t)(hf:(findT A a).isSome=true):EndsOf (A++B) a s t:=by
 obtain ⟨c,hc⟩:=Option.isSome_iff_exists.1 hf;unfold EndsOf at h ⊢;rw[findT_left hc];rw[hc] at h;exact h
theorem endsAt_of {A:List Cl}(h:Rt A){a:Int}{c:Cl}{z0 z1:Side}(hf:findT A a=some c)(hd:c.dim=1)(hs:c.sides=[z0,z1]):EndsOf A a (startS z0 z1) (endE z0 z1):=by
 obtain ⟨hc,_⟩:=findT_mem hf;obtain ⟨y0,y1,h1,h2⟩:=h.edge hc hd;rw[hs] at h1;cases h1;have h3:=h.difS hc;rw[hs] at h3;refine⟨edge_ne h2 (by simpa using h3),fun x r=>?_,fun r=>?_⟩
 ·rw[hf,Option.getD_some,hs];exact edge_sum h2 x r
 ·rw[hf,Option.getD_some,hs];exact edge_hits h2 r
theorem around2 {tl:List Cl}{a b s t:Int}{c:Cl}(hab:a≠b)(ha:EndsOf tl a s t)(hb:EndsOf tl b s t)(hp:c.sides.Perm [⟨a,1⟩,⟨b,-1⟩]):aroundC tl c=0:=by
 have hne:=ha.1;refine around_perm hp (by simp) (by simp[hab]) (fun r=>?_) (fun r=>?_) ?_
 ·unfold sumR;simp only[List.flatMap_cons,List.flatMap_nil,List.append_nil,List.sum_append];rw[ha.sum,hb.sum];omega
 ·unfold cntR;simp only[List.map_cons,List.map_nil,List.sum_cons,List.sum_nil,ha.hits,hb.hits];by_cases h1:t=r <;> by_cases h2:s=r <;> simp[h1,h2]
  exact hne (h2.trans h1.symm)
 ·have h1:Cn (share tl [⟨a,1⟩,⟨b,-1⟩]) a b:=.one ⟨⟨a,1⟩,by simp,⟨b,-1⟩,by simp,rfl,rfl,t,by rw[ha.hits]; simp <;> omega,by rw[hb.hits]; simp <;> omega⟩;intro x hx y hy;simp at hx hy
  rcases hx with rfl | rfl <;> rcases hy with rfl | rfl
  ·exact .refl _
  ·exact h1
  ·exact h1.symm
  ·exact .refl _
theorem around3 {tl:List Cl}{a b d s t u:Int}{c:Cl}(hab:a≠b)(had:a≠d)(hbd:b≠d)(ha:EndsOf tl a s t)(hb:EndsOf tl b t u)(hd:EndsOf tl d s u)(hp:c.sides.Perm [⟨a,1⟩,⟨b,1⟩,⟨d,-1⟩]):aroundC tl c=0:=by
 have h1:=ha.1;have h2:=hb.1;have h3:=hd.1;refine around_perm hp (by simp) (by simp[hab,had,hbd]) (fun r=>?_) (fun r=>?_) ?_
 ·unfold sumR;simp only[List.flatMap_cons,List.flatMap_nil,List.append_nil,List.sum_append];rw[ha.sum,hb.sum,hd.sum];omega
 ·unfold cntR;simp only[List.map_cons,List.map_nil,List.sum_cons,List.sum_nil,ha.hits,hb.hits,hd.hits];by_cases e1:s=r
  ·have e2:¬ t=r:=fun e=>h1 (e1.trans e.symm);have e3:¬ u=r:=fun e=>h3 (e1.trans e.symm);simp[e1,e2,e3]
  ·by_cases e2:t=r
   ·have e3:¬ u=r:=fun e=>h2 (e2.trans e.symm);simp[e1,e2,e3]
   ·by_cases e3:u=r <;> simp[e1,e2,e3]
 ·have k1:Cn (share tl [⟨a,1⟩,⟨b,1⟩,⟨d,-1⟩]) a b:=.one ⟨⟨a,1⟩,by simp,⟨b,1⟩,by simp,rfl,rfl,t,by rw[ha.hits]; simp <;> omega,by rw[hb.hits]; simp <;> omega⟩;have k2:Cn (share tl [⟨a,1⟩,⟨b,1⟩,⟨d,-1⟩]) a d:=.one ⟨⟨a,1⟩,by simp,⟨d,-1⟩,by simp,rfl,rfl,s,by rw[ha.hits]; simp <;> omega,by rw[hd.hits]; simp <;> omega⟩;intro x hx y hy;simp at hx hy
  rcases hx with rfl | rfl | rfl <;> rcases hy with rfl | rfl | rfl
  ·exact .refl _
  ·exact k1
  ·exact k2
  ·exact k1.symm
  ·exact .refl _
  ·exact k1.symm.trans k2
  ·exact k2.symm
  ·exact k2.symm.trans k1
  ·exact .refl _
theorem appC_canon {C:List Cl}(hC:(checkC C).2=0)(e:Ed):appC C e=appC (canonC C) e:=by
 have h:=rt_of hC;unfold appC;rw[if_pos hC,if_pos (by rw[h.check]),h.canon]
section
variable {A:List Cl}(h:Rt A){e:Ed}
include h
theorem attach_ok (hk:e.kind=1)(hl:A.length<4000)(hn:∀ c∈A,c.id<e.cell)(hp:0<e.cell)(hf:Fm (A++[normC ⟨e.cell,e.dim,e.sides⟩]) (normC ⟨e.cell,e.dim,e.sides⟩))
  (hr:e.dim>1→aroundC (A++[normC ⟨e.cell,e.dim,e.sides⟩]) (normC ⟨e.cell,e.dim,e.sides⟩)=0):appC A e=(0,A++[normC ⟨e.cell,e.dim,e.sides⟩]):=by
 have ha:∀ n:Cl,n.id=e.cell→(A++[n]).Pairwise fun a b=>a.id<b.id:=fun n hn'=>List.pairwise_append.2 ⟨h.asc,by simp,fun a ha b hb=>by simp at hb; subst hb; rw[hn']; exact hn a ha⟩;refine appC_of (B:=A++[⟨e.cell,e.dim,e.sides⟩]) h ?_ (by unfold cellsK; rw[if_pos hk]) (canon_more h (ha _ I)) ?_
 ·unfold codeK attachCode;rw[if_pos hk,findT_none' fun c hc=>by have:=hn c hc; omega];rfl
 ·refine h.more (by simp; omega) (ha _ I) (fun n hn=>?_) (fun n hn=>?_) (fun n hn=>?_)
  ·simp at hn; subst hn; exact hp
  ·simp at hn; subst hn; exact hf
  ·simp at hn; subst hn; exact hr
theorem vertex_ok (hk:e.kind=1)(hl:A.length<4000)(hn:∀ c∈A,c.id<e.cell)(hp:0<e.cell)(hd:e.dim=0)(hs:e.sides=[]):appC A e=(0,A++[normC ⟨e.cell,e.dim,e.sides⟩]):=by
 refine attach_ok h hk hl hn hp ?_ fun hd2=>by omega
 rw[hd,hs];exact fm_norm (by simp) (by rfl) (by simp) (by simp) (by simp) (by simp)
theorem edge_ok (hk:e.kind=1)(hl:A.length<4000)(hn:∀ c∈A,c.id<e.cell)(hp:0<e.cell)(hd:e.dim=1){a b:Int}{ca cb:Cl}(hab:a≠b)(ha:findT A a=some ca)(ha0:ca.dim=0)(hb:findT A b=some cb)(hb0:cb.dim=0)(hs:e.sides=[⟨a,-1⟩,⟨b,1⟩]):appC A e=(0,A++[normC ⟨e.cell,e.dim,e.sides⟩]):=by
 refine attach_ok h hk hl hn hp ?_ fun hd2=>by omega
 rw[hd,hs];refine fm_norm (by simp) (by rfl) (fun x hx=>?_) (by simp[hab]) (by simp) (fun _=>rfl);simp at hx
 rcases hx with rfl | rfl
 ·exact⟨ca,findT_left ha,ha0⟩
 ·exact⟨cb,findT_left hb,hb0⟩
theorem round_ok (hk:e.kind=1)(hl:A.length<4000)(hn:∀ c∈A,c.id<e.cell)(hp:0<e.cell)(hd:e.dim=2)(hE:∀ id z0 z1,EdgeS A id z0 z1→∃ c,findT A id=some c∧c.dim=1∧c.sides=[z0,z1])(hs:RoundOk A e.sides):appC A e=(0,A++[normC ⟨e.cell,e.dim,e.sides⟩]):=by
 have hpm:∀ S:List Side,(normC ⟨e.cell,2,S⟩).sides.Perm S:=fun S=>sortBy_perm (key:=Side.cell) S
 rcases hs with ⟨a,b,z0,z1,hab,ha,hb,hS⟩ | ⟨a,b,d,x0,x1,y0,y1,z0,z1,hab,ha,hb,hd',h1,h2,h3,h4,hS⟩
 ·obtain ⟨ca,fa,da,sa⟩:=hE _ _ _ ha;obtain ⟨cb,fb,db,sb⟩:=hE _ _ _ hb;refine attach_ok h hk hl hn hp ?_ fun _=>?_
  ·rw[hd,hS];refine fm_norm (by simp) (by rfl) (fun x hx=>?_) (by simp[hab]) (by simp) (by simp);simp at hx
   rcases hx with rfl | rfl
   ·exact⟨ca,findT_left fa,da⟩
   ·exact⟨cb,findT_left fb,db⟩
  ·rw[hd,hS];exact around2 hab ((endsAt_of h fa da sa).left (by rw[fa]; rfl)) ((endsAt_of h fb db sb).left (by rw[fb]; rfl)) (hpm _)
 ·obtain ⟨ca,fa,da,sa⟩:=hE _ _ _ ha;obtain ⟨cb,fb,db,sb⟩:=hE _ _ _ hb;obtain ⟨cd,fd,dd,sd⟩:=hE _ _ _ hd';have ea:=endsAt_of h fa da sa;have eb:=endsAt_of h fb db sb;have ed:=endsAt_of h fd dd sd;have had:a≠d:=fun he=>by
   subst he;rw[fa] at fd;cases fd;rw[sa] at sd;cases sd;exact h4 I
  have hbd:b≠d:=fun he=>by
   subst he;rw[fb] at fd;cases fd;rw[sb] at sd;cases sd;exact ea.1 (h2.symm.trans h1.symm)
  rw[h1] at ea;rw[h2,h3] at ed;refine attach_ok h hk hl hn hp ?_ fun _=>?_
  ·rw[hd,hS];refine fm_norm (by simp) (by rfl) (fun x hx=>?_) (by simp[hab,had,hbd]) (by simp) (by simp);simp at hx
   rcases hx with rfl | rfl | rfl
   ·exact⟨ca,findT_left fa,da⟩
   ·exact⟨cb,findT_left fb,db⟩
   ·exact⟨cd,findT_left fd,dd⟩
  ·rw[hd,hS];exact around3 hab had hbd (ea.left (by rw[fa]; rfl)) (eb.left (by rw[fb]; rfl)) (ed.left (by rw[fd]; rfl)) (hpm _)
theorem rest_ok {ks:List Int}(hc:∀ c∈A,c.id ∉ ks→∀ x∈c.sides,x.cell ∉ ks):Rt (restR A ks)∧canonC (restR A ks)=restR A ks:=by
 have hp:ClosedP A fun k=>!decide (k∈ks):=fun c hcA hk x hx=>by
  have:=hc c hcA (by simpa using hk) x hx;simpa using this
 exact⟨part_right h hp,(restR_asc h ks).1⟩
theorem remove_ok (hk:e.kind=2)(hc:∃ c∈A,c.id=e.cell)(ht:aboveC A e.cell=[]):appC A e=(0,restR A [e.cell]):=by
 obtain ⟨c,hcA,hi⟩:=hc;have hr:=rest_ok h (ks:=[e.cell]) fun c hc _ x hx he=>by
  simp at he;have:c.id∈aboveC A e.cell:=h.mem_above.2 ⟨c,hc,rfl,List.any_eq_true.2 ⟨x,hx,by simpa using he⟩⟩;rw[ht] at this;cases this
 refine appC_of h ?_ (by unfold cellsK; rw[if_neg oM,if_pos hk]) hr.2 hr.1;unfold codeK removeCode;rw[if_neg oM,if_pos hk,ht,← hi,h.find hcA];rfl
theorem collapse_ok (hk:e.kind=5)(ha:aboveC A e.cell=[e.other])(hb:aboveC A e.other=[]):appC A e=(0,restR A [e.cell,e.other]):=by
 obtain ⟨c,hc,hi,hf,hh⟩:=h.above_one ha;obtain ⟨x,hx,hxe⟩:=List.any_eq_true.1 hh;obtain ⟨d,hd,_⟩:=(h.form c hc).found x hx;rw[of_decide_eq_true hxe] at hd;have hr:=rest_ok h (ks:=[e.cell,e.other]) fun y hy hn x hx he=>by
  simp at he hn
  rcases he with he | he
  ·have:y.id∈aboveC A e.cell:=h.mem_above.2 ⟨y,hy,rfl,List.any_eq_true.2 ⟨x,hx,by simpa using he⟩⟩;rw[ha] at this;simp at this;exact hn.2 this
  ·have:y.id∈aboveC A e.other:=h.mem_above.2 ⟨y,hy,rfl,List.any_eq_true.2 ⟨x,hx,by simpa using he⟩⟩;rw[hb] at this;cases this
 refine appC_of h ?_ (by unfold cellsK; rw[if_neg oM,if_neg oM,if_neg oM,if_neg oM]) hr.2 hr.1;unfold codeK colCode;rw[if_neg oM,if_neg oM,if_neg oM,if_neg oM,if_pos hk,hd,hf,ha,hb];simp
end
def contS (l:List Side)(k r:Int):Int:=(l.map fun q=>if q.cell=r then k * q.sign else 0).sum
def hitS (l:List Side)(r:Int):Nat:=(l.filter fun q=>decide (q.cell=r)).length
theorem sumR_map (tl:List Cl)(l:List Side)(r:Int):sumR tl l r=(l.map fun x=>contS (sidesOf tl x) x.sign r).sum:=by
 unfold sumR;induction l with
 | nil=>rfl
 | cons x l ih=>simp only[List.flatMap_cons,List.sum_append,ih,List.map_cons,List.sum_cons]; rfl
theorem contS_app (l m:List Side)(k r:Int):contS (l++m) k r=contS l k r+contS m k r:=by simp[contS]
theorem hitS_app (l m:List Side)(r:Int):hitS (l++m) r=hitS l r+hitS m r:=by simp[hitS]
theorem contS_no {l:List Side}{r:Int}(h:∀ q∈l,q.cell≠r)(k:Int):contS l k r=0:=by
 unfold contS;rw[List.map_congr_left (g:=fun _=>0) fun q hq=>if_neg (h q hq)];induction l with
 | nil=>rfl
 | cons x l ih=>simp at ih ⊢; exact ih fun q hq=>h q (by simp[hq])
theorem hitS_no {l:List Side}{r:Int}(h:∀ q∈l,q.cell≠r):hitS l r=0:=by
 unfold hitS;rw[List.filter_eq_nil_iff.2 fun q hq=>by simpa using h q hq];rfl
theorem more_mem {e:Ed}{l:List Side}{x:Side}(h:x∈moreS e l):x.cell=e.other∧∃ q∈l,q.cell=e.cell∧q.sign=x.sign:=by
 unfold moreS at h;obtain ⟨q,hq,rfl⟩:=List.mem_map.1 h;obtain ⟨h1,h2⟩:=List.mem_filter.1 hq;exact⟨I,q,h1,by simpa using h2,I⟩
theorem more_none {e:Ed}{l:List Side}(h:∀ q∈l,q.cell≠e.cell):moreS e l=[]:=by
 unfold moreS;rw[List.filter_eq_nil_iff.2 fun q hq=>by simpa using h q hq];rfl
theorem more_cont {e:Ed}(k:Int):∀ l:List Side,contS (moreS e l) k e.other=contS l k e.cell
 | []=>rfl
 | x::l=>by
  have ih:=more_cont (e:=e) k l;unfold moreS contS at ih ⊢;by_cases hx:x.cell=e.cell <;> simp[hx] at ih ⊢ <;> omega
theorem more_hit {e:Ed}:∀ l:List Side,hitS (moreS e l) e.other=hitS l e.cell
 | []=>rfl
 | x::l=>by
  have ih:=more_hit (e:=e) l;unfold moreS hitS at ih ⊢;by_cases hx:x.cell=e.cell <;> simp[hx] at ih ⊢ <;> omega
theorem with_cont {e:Ed}{l:List Side}(h:∀ q∈l,q.cell≠e.other)(k r:Int):contS (l++moreS e l) k r=contS l k (if r=e.other then e.cell else r):=by
 rw[contS_app];by_cases hr:r=e.other
 ·subst hr;rw[if_pos rfl,more_cont,contS_no h,Int.zero_add]
 ·rw[if_neg hr,contS_no (l:=moreS e l) fun q hq=>by rw[(more_mem hq).1]; exact fun e=>hr e.symm,Int.add_zero]
theorem with_hit {e:Ed}{l:List Side}(h:∀ q∈l,q.cell≠e.other)(r:Int):hitS (l++moreS e l) r=hitS l (if r=e.other then e.cell else r):=by
 rw[hitS_app];by_cases hr:r=e.other
 ·subst hr;rw[if_pos rfl,more_hit,hitS_no h,Nat.zero_add]
 ·rw[if_neg hr,hitS_no (l:=moreS e l) fun q hq=>by rw[(more_mem hq).1]; exact fun e=>hr e.symm,Nat.add_zero]
theorem norm_asc {c:Cl}(h:c.sides.Pairwise fun a b=>a.cell<b.cell):normC c=c:=by
 unfold normC;rw[(eq_sortBy (key:=Side.cell) (h.imp fun h=>by omega) (Stab.refl c.sides)).symm]
theorem endS_eq {z0 z1:Side}(hz:(z0.sign=1∧z1.sign = -1)∨(z0.sign = -1∧z1.sign=1)):(endS [z0,z1] false).cell=startS z0 z1∧(endS [z0,z1] true).cell=endE z0 z1∧endS [z0,z1] false∈[z0,z1]∧endS [z0,z1] true∈[z0,z1]:=by
 obtain ⟨c0,s0⟩:=z0;obtain ⟨c1,s1⟩:=z1
 rcases hz with ⟨h0,h1⟩ | ⟨h0,h1⟩ <;> dsimp only at h0 h1 <;> subst h0 <;> subst h1 <;> simp[endS,startS,endE]
theorem srt_two {x y:Side}(h:y.cell<x.cell):sortBy Side.cell [x,y]=[y,x]:=by
 have h1:¬ x.cell≤y.cell:=oM;simp[sortBy,ins,h1]
section
variable {A:List Cl}(h:Rt A){e:Ed}{M a b:Int}{c:Cl}(hf:findT A e.cell=some c)(hd:c.dim=1)(hn:e.new=M)(ho:e.other=M+1)(hM:∀ x∈A,x.id<M)(hM0:0<M)(hl:A.length+2≤4000)(h63:∀ x∈A,x.sides.length≤63)
 (he:EndsOf A e.cell a b) (haS:∃ x∈c.sides,x.cell=a) (hbS:∃ x∈c.sides,x.cell=b)
theorem cell_id (y:Cl):(refSplitCell e a y).id=y.id:=by unfold refSplitCell; split <;> rfl
theorem cell_dim (y:Cl):(refSplitCell e a y).dim=y.dim:=by unfold refSplitCell; split <;> rfl
def splitD (A:List Cl)(e:Ed)(a b M:Int):List Cl:=A.map (refSplitCell e a)++[⟨M,0,[]⟩,⟨M+1,1,[⟨b,1⟩,⟨M,-1⟩]⟩]
include h hM in
theorem splitD_asc:(splitD A e a b M).Pairwise fun a b=>a.id<b.id:=by
 unfold splitD;refine List.pairwise_append.2 ⟨List.pairwise_map.2 (h.asc.imp fun {x y} hxy=>by rw[cell_id,cell_id]; exact hxy),by simp; omega,fun x hx y hy=>?_⟩;obtain ⟨z,hz,rfl⟩:=List.mem_map.1 hx;have:=hM z hz;rw[cell_id];simp at hy
 rcases hy with rfl | rfl <;> dsimp only <;> omega
include h hM in
theorem splitD_find {x:Cl}(hx:x∈splitD A e a b M):findT (splitD A e a b M) x.id=some x:=by
 refine find_mem ?_ hx;rw[List.Nodup,List.pairwise_map];exact (splitD_asc h hM).imp fun h=>by omega
include h hM in
theorem splitD_old {id:Int}{d:Cl}(hd:findT A id=some d):findT (splitD A e a b M) id=some (refSplitCell e a d):=by
 obtain ⟨h1,rfl⟩:=findT_mem hd;have:=splitD_find (e:=e) (a:=a) (b:=b) h hM (x:=refSplitCell e a d) (List.mem_append_left _ (List.mem_map.2 ⟨d,h1,rfl⟩));rwa [cell_id] at this
include h hM in
theorem splitD_v:findT (splitD A e a b M) M=some ⟨M,0,[]⟩:=splitD_find (e:=e) (a:=a) (b:=b) h hM (x:=⟨M,0,[]⟩) (List.mem_append_right _ (by simp))
include h hM in
theorem splitD_o:findT (splitD A e a b M) (M+1)=some ⟨M+1,1,[⟨b,1⟩,⟨M,-1⟩]⟩:=splitD_find (e:=e) (a:=a) (b:=b) h hM (x:=⟨M+1,1,[⟨b,1⟩,⟨M,-1⟩]⟩) (List.mem_append_right _ (by simp))
include h hM in
theorem old_lt {y:Cl}(hy:y∈A){x:Side}(hx:x∈y.sides):x.cell<M:=by
 obtain ⟨d,hd,_⟩:=(h.form y hy).found x hx;obtain ⟨h1,h2⟩:=findT_mem hd;have:=hM d h1;omega
include h hf hd hn ho hM h63 haS hbS in
theorem splitD_form {y:Cl}(hy:y∈A):Fm (splitD A e a b M) (refSplitCell e a y):=by
 have hF:=h.form y hy;obtain ⟨hcA,hci⟩:=findT_mem hf;by_cases hyc:y.id=e.cell
 ·have hye:y=c:=h.same hy hcA (hyc.trans hci.symm);subst hye;obtain ⟨xa,hxa,rfl⟩:=haS;obtain ⟨da,hda,hda0⟩:=hF.found xa hxa;unfold refSplitCell;rw[if_pos hyc];have hlt:=old_lt h hM hy hxa;refine⟨hF.dim,by simp[cntBad,hd],fun x hx=>?_,by simp[hn,hlt],by simp,fun _=>I⟩;simp at hx
  rcases hx with rfl | rfl
  ·exact⟨_,splitD_old h hM hda,by rw[cell_dim]; exact hda0⟩
  ·dsimp only;rw[hn];exact⟨_,splitD_v h hM,by dsimp only; omega⟩
 ·unfold refSplitCell;rw[if_neg hyc];have hin:∀ q∈y.sides,q.cell=e.cell→y.dim=2:=fun q hq hqe=>by
   obtain ⟨d,h1,h2⟩:=hF.found q hq;rw[hqe,hf] at h1;cases h1;omega
  have hno:y.dim≠2→moreS e y.sides=[]:=fun h2=>more_none fun q hq hqe=>h2 (hin q hq hqe);have hml:(moreS e y.sides).length≤1:=by
   rw[moreS_one (h.difS hy)];split <;> simp
  refine⟨hF.dim,?_,fun x hx=>?_,?_,fun x hx=>?_,fun h1=>?_⟩
  ·by_cases h2:y.dim=2
   ·have h3:=hF.cnt;have h4:=h63 y hy;unfold cntBad at h3 ⊢;simp[h2] at h3 ⊢;omega
   ·rw[hno h2,List.append_nil];exact hF.cnt
  ·rcases List.mem_append.1 hx with hx | hx
   ·obtain ⟨d,h1,h2⟩:=hF.found x hx;exact⟨_,splitD_old h hM h1,by rw[cell_dim]; exact h2⟩
   ·obtain ⟨h1,q,h2,h3,_⟩:=more_mem hx;have:=hin q h2 h3;rw[h1,ho];exact⟨_,splitD_o h hM,by dsimp only; omega⟩
  ·refine List.pairwise_append.2 ⟨hF.asc,?_,fun x hx z hz=>?_⟩
   ·match hm:moreS e y.sides with
    | []=>simp
    | [x]=>simp
    | _::_::_=>rw[hm] at hml; simp at hml
   ·rw[(more_mem hz).1,ho];have:=old_lt h hM hy hx;omega
  ·rcases List.mem_append.1 hx with hx | hx
   ·exact hF.sg x hx
   ·obtain ⟨_,q,h2,_,h4⟩:=more_mem hx;rw[← h4];exact hF.sg q h2
  ·dsimp only at h1;rw[hno oM,List.append_nil];exact hF.one h1
include h hM in
theorem old_sides {y:Cl}(hy:y∈A){x:Side}(hx:x∈y.sides)(hne:x.cell≠e.cell):sidesOf (splitD A e a b M) x=sidesOf A x++moreS e (sidesOf A x):=by
 obtain ⟨d,h1,_⟩:=(h.form y hy).found x hx;unfold sidesOf;rw[splitD_old h hM h1,h1];obtain ⟨_,h2⟩:=findT_mem h1;show (refSplitCell e a d).sides=d.sides++moreS e d.sides;unfold refSplitCell;rw[if_neg (by rw[h2]; exact hne)]
include h hM ho in
theorem old_no {y:Cl}(hy:y∈A){x:Side}(hx:x∈y.sides):∀ q∈sidesOf A x,q.cell<M∧q.cell≠e.other:=fun q hq=>by
 obtain ⟨d,h1,_⟩:=(h.form y hy).found x hx;unfold sidesOf at hq;rw[h1] at hq;have:=old_lt h hM (findT_mem h1).1 hq;omega
include h hf hd hn ho hM he in
theorem splitD_around {y:Cl}(hy:y∈A)(hy2:y.dim>1):aroundC (splitD A e a b M) (refSplitCell e a y)=0:=by
 have hF:=h.form y hy;obtain ⟨hcA,hci⟩:=findT_mem hf;have hyc:y.id≠e.cell:=fun hyc=>by
  have hye:y=c:=h.same hy hcA (hyc.trans hci.symm);subst hye;omega
 have hpos:0<y.sides.length:=by
  have h1:=hF.cnt;unfold cntBad at h1;simp[hy2] at h1;omega
 obtain ⟨k1,k2,k3⟩:=(around_iff hpos (h.difS hy)).1 (h.around y hy hy2);have hfs:(refSplitCell e a y).sides=y.sides++moreS e y.sides:=by unfold refSplitCell; rw[if_neg hyc]
 by_cases hin:∃ q∈y.sides,q.cell=e.cell
 ·-- the edge is a side
  obtain ⟨x0,hx0,hxe⟩:=hin;have hy2':y.dim=2:=by
   obtain ⟨d,h1,h2⟩:=hF.found x0 hx0;rw[hxe,hf] at h1;cases h1;omega
  obtain ⟨S1,S2,hS⟩:=List.append_of_mem hx0;have hdif:=h.difS hy;rw[hS] at hdif;simp only[List.map_append,List.map_cons,List.nodup_append,List.nodup_cons] at hdif;have hn1:∀ q∈S1,q.cell≠e.cell:=fun q hq hqe=>hdif.2.2 q.cell (List.mem_map.2 ⟨q,hq,rfl⟩) x0.cell (by simp) (hqe.trans hxe.symm);have hn2:∀ q∈S2,q.cell≠e.cell:=fun q hq hqe=>hdif.2.1.1 (List.mem_map.2 ⟨q,hq,hqe.trans hxe.symm⟩);have hm1:∀ q∈S1,q∈y.sides:=fun q hq=>by rw[hS]; simp[hq]
  have hm2:∀ q∈S2,q∈y.sides:=fun q hq=>by rw[hS]; simp[hq]
  have hmore:moreS e y.sides=[⟨M+1,x0.sign⟩]:=by
   rw[hS];unfold moreS;rw[List.filter_append,List.filter_cons_of_pos (by simpa using hxe),List.filter_eq_nil_iff.2 fun q hq=>by simpa using hn1 q hq,List.filter_eq_nil_iff.2 fun q hq=>by simpa using hn2 q hq,ho];rfl
  have hsame:∀ q∈y.sides,q.cell≠e.cell→sidesOf (splitD A e a b M) q=sidesOf A q:=fun q hq hne=>by
   rw[old_sides h hM hy hq hne,more_none,List.append_nil];intro z hz hze;obtain ⟨d,h1,h2⟩:=hF.found q hq;unfold sidesOf at hz;rw[h1] at hz;obtain ⟨d2,h3,h4⟩:=(h.form d (findT_mem h1).1).found z hz;rw[hze,hf] at h3;cases h3;omega
  have hT0:sidesOf (splitD A e a b M) x0=[⟨a,-1⟩,⟨M,1⟩]:=by
   unfold sidesOf;rw[hxe,splitD_old h hM hf];show (refSplitCell e a c).sides=_;unfold refSplitCell;rw[if_pos hci,hn]
  have hTo:∀ k:Int,sidesOf (splitD A e a b M) ⟨M+1,k⟩=[⟨b,1⟩,⟨M,-1⟩]:=fun k=>by
   unfold sidesOf;rw[splitD_o h hM];rfl
  have hx0':sidesOf A x0=sidesOf A ⟨e.cell,x0.sign⟩:=by unfold sidesOf; rw[hxe]
  have c0:∀ r,contS (sidesOf A x0) x0.sign r=x0.sign * ((if b=r then 1 else 0) - (if a=r then 1 else 0)):=fun r=>by rw[hx0']; exact he.sum x0.sign r
  have g0:∀ r,hitS (sidesOf A x0) r=(if b=r then 1 else 0)+(if a=r then 1 else 0):=fun r=>by rw[hx0']; exact he.hits x0.sign r
  have hall:(y.sides++[⟨M+1,x0.sign⟩])=S1++x0::(S2++[⟨M+1,x0.sign⟩]):=by rw[hS]; simp
  have hit_eq:∀ x r,hits (splitD A e a b M) x r=hitS (sidesOf (splitD A e a b M) x) r:=fun _ _=>rfl;have hitA:∀ x r,hits A x r=hitS (sidesOf A x) r:=fun _ _=>rfl;have hnoM:∀ q∈y.sides,hitS (sidesOf A q) M=0:=fun q hq=>hitS_no fun z hz=>by have:=(old_no h ho hM hy hq z hz).1; omega
  have haM:a≠M∧b≠M:=by
   have h1:=hnoM x0 hx0;rw[g0] at h1;constructor
   ·intro e1; rw[if_pos e1] at h1; omega
   ·intro e1; rw[if_pos e1] at h1; omega
  refine around_perm (S:=y.sides++[⟨M+1,x0.sign⟩]) (by rw[hfs,hmore]) (by simp) ?_ (fun r=>?_) (fun r=>?_) ?_
  ·rw[List.map_append,List.nodup_append];refine⟨h.difS hy,by simp,fun u hu v hv e1=>?_⟩;obtain ⟨q,hq,rfl⟩:=List.mem_map.1 hu;have:=old_lt h hM hy hq;simp at hv;omega
  ·have h1:=k1 r;rw[sumR_map,hS,List.map_append,List.map_cons,List.sum_append,List.sum_cons,c0] at h1;rw[sumR_map,hall];simp only[List.map_append,List.map_cons,List.map_nil,List.sum_append,List.sum_cons,List.sum_nil];rw[List.map_congr_left (g:=fun x=>contS (sidesOf A x) x.sign r) fun q hq=>by rw[hsame q (hm1 q hq) (hn1 q hq)],List.map_congr_left (l:=S2) (g:=fun x=>contS (sidesOf A x) x.sign r) fun q hq=>by rw[hsame q (hm2 q hq) (hn2 q hq)],hT0,hTo];have e1:contS [⟨a,-1⟩,⟨M,1⟩] x0.sign r=x0.sign * ((if M=r then 1 else 0) - (if a=r then 1 else 0)):=by
    unfold contS;by_cases u1:a=r <;> by_cases u2:M=r <;> simp[u1,u2] <;> omega
   have e2:contS [⟨b,1⟩,⟨M,-1⟩] x0.sign r=x0.sign * ((if b=r then 1 else 0) - (if M=r then 1 else 0)):=by
    unfold contS;by_cases u1:b=r <;> by_cases u2:M=r <;> simp[u1,u2] <;> omega
   rw[e1,e2];rw[Int.mul_sub] at h1 ⊢;rw[Int.mul_sub];omega
  ·have h1:=k2 r;have h3:cntR (splitD A e a b M) (y.sides++[⟨M+1,x0.sign⟩]) r=cntR A y.sides r+2 * (if M=r then 1 else 0):=by
    unfold cntR;rw[hall,hS];simp only[List.map_append,List.map_cons,List.map_nil,List.sum_append,List.sum_cons,List.sum_nil,hit_eq,hitA];rw[List.map_congr_left (g:=fun x=>hitS (sidesOf A x) r) fun q hq=>by rw[hsame q (hm1 q hq) (hn1 q hq)],List.map_congr_left (l:=S2) (g:=fun x=>hitS (sidesOf A x) r) fun q hq=>by rw[hsame q (hm2 q hq) (hn2 q hq)],hT0,hTo,g0];have e1:hitS [⟨a,-1⟩,⟨M,1⟩] r=(if M=r then 1 else 0)+(if a=r then 1 else 0):=by
     unfold hitS;by_cases u1:a=r <;> by_cases u2:M=r <;> simp[u1,u2]
    have e2:hitS [⟨b,1⟩,⟨M,-1⟩] r=(if b=r then 1 else 0)+(if M=r then 1 else 0):=by
     unfold hitS;by_cases u1:b=r <;> by_cases u2:M=r <;> simp[u1,u2]
    rw[e1,e2];omega
   rw[h3];by_cases hr:M=r
   ·subst hr;have:cntR A y.sides M=0:=by
     unfold cntR;rw[List.map_congr_left (f:=fun x=>hits A x M) (g:=fun _=>0) hnoM];generalize y.sides=l;induction l with
     | nil=>rfl
     | cons x l ih=>simpa using ih
    rw[this];simp
   ·simpa [hr] using h1
  ·have hso:(⟨M+1,x0.sign⟩:Side)∈y.sides++[⟨M+1,x0.sign⟩]:=by simp
   have hs0:x0∈y.sides++[⟨M+1,x0.sign⟩]:=List.mem_append_left _ hx0;have hlink:Cn (share (splitD A e a b M) (y.sides++[⟨M+1,x0.sign⟩])) x0.cell (M+1):=.one ⟨x0,hs0,_,hso,rfl,rfl,M,by rw[hit_eq,hT0]; simp[hitS],by rw[hit_eq,hTo]; simp[hitS]⟩;have hgo:∀ x∈y.sides,∀ r,0<hits A x r→∃ x'∈y.sides++[⟨M+1,x0.sign⟩],Cn (share (splitD A e a b M) (y.sides++[⟨M+1,x0.sign⟩])) x.cell x'.cell∧0<hits (splitD A e a b M) x' r:=fun x hx r hr=>by
    by_cases hxc:x.cell=e.cell
    ·have hr':hits A x r=hitS (sidesOf A x0) r:=by rw[hitA]; unfold sidesOf; rw[hxc,hxe]
     rw[hr',g0] at hr;by_cases u:a=r
     ·exact⟨x0,hs0,by rw[hxc,hxe]; exact .refl _,by rw[hit_eq,hT0]; simp[hitS,u]⟩
     ·have u2:b=r:=by
       refine Decidable.of_not_not fun u2=>?_;rw[if_neg u,if_neg u2] at hr;omega
      exact⟨_,hso,by rw[hxc,← hxe]; exact hlink,by rw[hit_eq,hTo]; simp[hitS,u2]⟩
    ·exact⟨x,List.mem_append_left _ hx,.refl _,by rw[hit_eq,hsame x hx hxc]; exact hr⟩
   have hconn:∀ u v,share A y.sides u v→Cn (share (splitD A e a b M) (y.sides++[⟨M+1,x0.sign⟩])) u v:=by
    rintro u v ⟨x,hx,z,hz,rfl,rfl,r,h1,h2⟩;obtain ⟨x',g1,g2,g3⟩:=hgo x hx r h1;obtain ⟨z',f1,f2,f3⟩:=hgo z hz r h2;exact g2.trans ((Cn.one ⟨x',g1,z',f1,I,I,r,g3,f3⟩).trans f2.symm)
   have hin0:∀ x∈y.sides++[⟨M+1,x0.sign⟩],Cn (share (splitD A e a b M) (y.sides++[⟨M+1,x0.sign⟩])) x.cell x0.cell:=fun x hx=>by
    rcases List.mem_append.1 hx with hx | hx
    ·exact (k3 x hx x0 hx0).map (f:=fun a=>a) hconn
    ·simp at hx;subst hx;exact hlink.symm
   exact fun x hx z hz=>(hin0 x hx).trans (hin0 z hz).symm
 ·have hno:∀ q∈y.sides,q.cell≠e.cell:=fun q hq hqe=>hin ⟨q,hq,hqe⟩;have hT:∀ q∈y.sides,sidesOf (splitD A e a b M) q=sidesOf A q++moreS e (sidesOf A q):=fun q hq=>old_sides h hM hy hq (hno q hq);have hN:∀ q∈y.sides,∀ z∈sidesOf A q,z.cell≠e.other:=fun q hq z hz=>(old_no h ho hM hy hq z hz).2;have hh:∀ q∈y.sides,∀ r,hits (splitD A e a b M) q r=hits A q (if r=e.other then e.cell else r):=fun q hq r=>by
   show hitS (sidesOf (splitD A e a b M) q) r=hitS (sidesOf A q) _;rw[hT q hq,with_hit (hN q hq)]
  refine around_perm (S:=y.sides) (by rw[hfs,more_none hno,List.append_nil]) hpos (h.difS hy) (fun r=>?_) (fun r=>?_) fun x hx z hz=>?_
  ·rw[← k1 (if r=e.other then e.cell else r),sumR_map,sumR_map];refine congrArg List.sum (List.map_congr_left fun q hq=>?_);rw[hT q hq,with_cont (hN q hq)]
  ·have:cntR (splitD A e a b M) y.sides r=cntR A y.sides (if r=e.other then e.cell else r):=by
    unfold cntR;exact congrArg List.sum (List.map_congr_left fun q hq=>hh q hq r)
   rw[this];exact k2 _
  ·refine (k3 x hx z hz).map (f:=fun a=>a) ?_;rintro u v ⟨x,hx,z,hz,rfl,rfl,r,h1,h2⟩;have hr:r≠e.other:=fun hr=>by
    have:hits A x r=0:=hitS_no fun q hq=>by rw[hr]; exact hN x hx q hq
    omega
   exact .one ⟨x,hx,z,hz,I,I,r,by rw[hh x hx,if_neg hr]; exact h1,by rw[hh z hz,if_neg hr]; exact h2⟩
include h hf hd hn ho hM hM0 hl h63 he haS hbS in
theorem splitD_right:Rt (splitD A e a b M):=by
 refine⟨by unfold splitD; simp; omega,splitD_asc h hM,fun x hx=>?_,fun x hx=>?_,fun x hx hx2=>?_⟩
 ·rcases List.mem_append.1 hx with hx | hx
  ·obtain ⟨y,hy,rfl⟩:=List.mem_map.1 hx;rw[cell_id];exact h.pos y hy
  ·simp at hx
   rcases hx with rfl | rfl <;> dsimp only <;> omega
 ·rcases List.mem_append.1 hx with hx | hx
  ·obtain ⟨y,hy,rfl⟩:=List.mem_map.1 hx;exact splitD_form h hf hd hn ho hM h63 haS hbS hy
  ·simp at hx
   rcases hx with rfl | rfl
   ·exact⟨by simp,by rfl,by simp,by simp,by simp,by simp⟩
   ·obtain ⟨hcA,_⟩:=findT_mem hf;obtain ⟨xb,hxb,rfl⟩:=hbS;obtain ⟨d,h1,h2⟩:=(h.form c hcA).found xb hxb;refine⟨by simp,by rfl,fun x hx=>?_,by simp[old_lt h hM hcA hxb],by simp,fun _=>rfl⟩;simp at hx
    rcases hx with rfl | rfl
    ·exact⟨_,splitD_old h hM h1,by rw[cell_dim]; dsimp only; omega⟩
    ·exact⟨_,splitD_v h hM,by rfl⟩
 ·rcases List.mem_append.1 hx with hx | hx
  ·obtain ⟨y,hy,rfl⟩:=List.mem_map.1 hx;rw[cell_dim] at hx2;exact splitD_around h hf hd hn ho hM he hy hx2
  ·simp at hx
   rcases hx with rfl | rfl <;> dsimp only at hx2 <;> omega
end
theorem split_ok {A:List Cl}(h:Rt A){e:Ed}{M:Int}(hk:e.kind=3){c:Cl}(hf:findT A e.cell=some c)(hd:c.dim=1)(hn:e.new=M)(ho:e.other=M+1)(hM:∀ x∈A,x.id<M)(hM0:0<M)(hl:A.length+2≤4000)(h63:∀ x∈A,x.sides.length≤63):(appC A e).1=0:=by
 obtain ⟨hcA,hci⟩:=findT_mem hf;obtain ⟨z0,z1,hs,hz⟩:=h.edge hcA hd;obtain ⟨e1,e2,e3,e4⟩:=endS_eq hz;have he:=endsAt_of h hf hd hs;rw[← e1,← e2,← hs] at he;rw[← hs] at e3 e4;have hD:=splitD_right h hf hd hn ho hM hM0 hl h63 he ⟨_,e3,rfl⟩ ⟨_,e4,rfl⟩;have hb:=old_lt h hM hcA e4;have hno:findT A M=none:=findT_none' fun c hc=>by have:=hM c hc; omega
 have hno2:findT A (M+1)=none:=findT_none' fun c hc=>by have:=hM c hc; omega
 have hasc:=splitD_asc (e:=e) (a:=(endS c.sides false).cell) (b:=(endS c.sides true).cell) h hM;have hids:((A.map (refSplitCell e (endS c.sides false).cell))++[(⟨e.new,0,[]⟩:Cl),⟨e.other,1,[⟨e.new,-1⟩,⟨(endS c.sides true).cell,1⟩]⟩]).Pairwise fun a b=>a.id<b.id:=by
  rw[hn,ho];unfold splitD at hasc;have:=List.pairwise_map (f:=Cl.id) (R:=fun a b:Int=>a<b) |>.2 hasc;rw[List.map_append] at this;refine List.pairwise_map (f:=Cl.id) (R:=fun a b:Int=>a<b) |>.1 ?_;rw[List.map_append];exact this
 have hc:canonC (refSplitOut A e)=splitD A e (endS c.sides false).cell (endS c.sides true).cell M:=by
  unfold refSplitOut;rw[h.findC,hf,Option.getD_some];rw[canonC_permE (List.perm_append_comm (l₂:=A.map (refSplitCell e (endS c.sides false).cell))) ?_]
  ·unfold canonC;rw[(eq_sortBy (key:=Cl.id) (hids.imp fun h=>by omega) (Stab.refl _)).symm,List.map_append];unfold splitD;have hmap:(A.map (refSplitCell e (endS c.sides false).cell)).map normC=A.map (refSplitCell e (endS c.sides false).cell):=by
    rw[List.map_map];refine List.map_congr_left fun y hy=>?_;exact norm_asc (hD.form _ (List.mem_append_left _ (List.mem_map.2 ⟨y,hy,I⟩))).asc
   rw[hmap];congr 1;show [normC _,normC _]=_;unfold normC;dsimp only;rw[hn,ho,srt_two (by exact hb)];rfl
  ·have:(((A.map (refSplitCell e (endS c.sides false).cell))++[(⟨e.new,0,[]⟩:Cl),⟨e.other,1,[⟨e.new,-1⟩,⟨(endS c.sides true).cell,1⟩]⟩]).map Cl.id).Nodup:=by
    rw[List.Nodup,List.pairwise_map];exact hids.imp fun h=>by omega
   exact (List.perm_append_comm.map Cl.id).nodup this
 have:=appC_of (e:=e) (B:=refSplitOut A e) h ?_ (by unfold cellsK; rw[if_neg oM,if_neg oM,if_pos hk]) hc hD
 ·rw[this]
 ·unfold codeK splitCode;rw[if_neg oM,if_neg oM,if_pos hk,hf,hn,ho];dsimp only;rw[if_neg oM,if_neg oM,hno,hno2];rfl
theorem simpAll_four:∀ (ls acc:List (List Int)) {all:List (List Int)},simpAll acc ls=some all→(∀ x∈ls,x.length≤4)→all.length≤acc.length+15 * ls.length
 | [],acc,all,h,_=>by cases h; simp
 | s::r,acc,all,h,hl=>by
  have hs:=hl s (by simp);have h3:(setC s).length≤s.length:=by
   unfold setC;exact Nat.le_trans (uniq_length _ _) (by rw[sortI_length]; exact lR _)
  simp only[List.length_cons];unfold simpAll at h;split at h
  ·have:=simpAll_four r acc h fun x hx=>hl x (by simp[hx]);omega
  ·split at h
   ·cases h
   ·have h1:=simpAll_four r _ h fun x hx=>hl x (by simp[hx]);have h2:(addSets acc (setC s)).length≤acc.length+15:=by
     unfold addSets;refine Nat.le_trans (uniq_length _ _) ?_;rw[(sortL_perm _).length_eq,List.length_append];have:2 ^ (setC s).length≤2 ^ 4:=Nat.pow_le_pow_right dC oM;simp[subsetsC];omega
    omega
def Sm (l:List Cl):Prop:=l.length≤100∧∀ c∈l,c.id≤100∧c.sides.length≤9
theorem first_sm (sp:Nat)(L:List Int):Sm (firstC sp L):=by
 unfold firstC;split
 ·unfold simL;have hb:∀ x∈(L.take 5).map bitsL,x.length≤4:=fun x hx=>by
   obtain ⟨n,_,rfl⟩:=List.mem_map.1 hx;unfold bitsL;rw[List.length_map,List.length_take];omega
  have hb5:((L.take 5).map bitsL).length≤5:=by rw[List.length_map,List.length_take]; omega
  obtain ⟨_,h2⟩:=rt_simp ((L.take 5).map bitsL);generalize (L.take 5).map bitsL=ls at *;have hn:(simpC ls).length≤75∧∀ c∈simpC ls,c.sides.length≤9:=by
   unfold simpC;cases hs:simpAll [] ls with
   | none=>exact⟨by simp,by simp⟩
   | some all =>
    have h3:=simpAll_four ls [] hs hb;obtain ⟨hg,_⟩:=simpAll_good ls [] hs Good.nil (by simp);dsimp only;refine⟨by rw[canonC_length,simpCells_length]; simp at h3; omega,fun c hc=>?_⟩;unfold canonC at hc;obtain ⟨d,hd,rfl⟩:=List.mem_map.1 hc;have hd:=(sortBy_perm (key:=Cl.id) (simpCells all)).mem_iff.1 hd;unfold simpCells at hd;obtain ⟨p,hp,rfl⟩:=List.mem_map.1 hd;obtain ⟨s,k⟩:=p;have hsm:s∈all:=List.fst_mem_of_mem_zipIdx hp;have:=simpSides_length all s s.length;have h9:=(hg.form s hsm).2.2;unfold normC simpCell;dsimp only;rw[(sortBy_perm (key:=Side.cell) _).length_eq];omega
  exact⟨oM,fun c hc=>⟨by have:=h2 c hc; omega,hn.2 c hc⟩⟩
 ·have:=space_check (sp % 10) (Nat.mod_lt _ dC);exact⟨oM,fun c hc=>by have:=this.2.2 c hc; omega⟩
theorem goneTo_sm {c:List Cl}(h:Sm c)(G:List Nat):∀ k,Sm (goneTo G c k)
 | 0=>h
 | k+1=>by
  have ih:=goneTo_sm h G k;rw[goneTo];split
  ·unfold goneStep;exact⟨Nat.le_trans (List.length_filter_le _ _) ih.1,fun x hx=>ih.2 x (List.mem_filter.1 hx).1⟩
  ·exact ih
theorem complex_sm (sp:Nat)(L:List Int)(G:List Nat)(bs:Nat):(complexC sp L G bs).length≤131∧∀ c∈complexC sp L G bs,c.id≤131∧c.sides.length≤9:=by
 have h:=goneTo_sm (first_sm sp L) G (min 6 G.length);unfold complexC;generalize goneTo G (firstC sp L) (min 6 G.length)=c at *;split
 ·have hs:=space_check (bs / 4 % 5) oM;have hM:=maxId_le (K:=100) (fun x hx=>(h.2 x hx).1) 0 dC;refine⟨?_,fun x hx=>?_⟩
  ·unfold besideC;rw[List.length_append,List.length_map];have:=h.1;omega
  ·unfold besideC at hx
   rcases List.mem_append.1 hx with hx | hx
   ·have:=h.2 x hx; omega
   ·obtain ⟨d,hd,rfl⟩:=List.mem_map.1 hx;have:=hs.2.2 d hd;unfold maxId shC;dsimp only;rw[List.length_map];omega
 ·exact⟨by have:=h.1; omega,fun x hx=>by have:=h.2 x hx; omega⟩
theorem sid_T {C:List Cl}(hC:(checkC C).2=0)(k:Int):sidC C k=((findT (canonC C) k).getD zeroC).sides.map Side.cell:=by
 unfold sidC findC;rw[tabC_strict (rt_of hC).asc];rfl
theorem sid_rt {D:List Cl}(h:Rt D)(k:Int):sidC D k=((findT D k).getD zeroC).sides.map Side.cell:=by
 unfold sidC;rw[h.findC]
theorem sid_some {tl:List Cl}{a k:Int}(h:a∈((findT tl k).getD zeroC).sides.map Side.cell):∃ c,findT tl k=some c∧∃ x∈c.sides,x.cell=a:=by
 cases hf:findT tl k with
 | none=>rw[hf] at h; simp[zeroC] at h
 | some c =>
  rw[hf] at h;obtain ⟨x,hx,he⟩:=List.mem_map.1 h;exact⟨c,I,x,hx,he⟩
theorem vd_congr {C D:List Cl}{T:List Pr}(h:Vd C T)(hs:∀ q∈T,sidC C q.2=sidC D q.2):Vd D T :=
 ⟨h.once,fun q hq=>by rw[← hs q hq]; exact h.side q hq,fun ⟨l,⟨hl,hr⟩,hsub⟩=>h.free ⟨l,⟨hl,fun x hx=>by
  obtain ⟨y,hy,h1,h2⟩:=hr x hx;refine⟨y,hy,h1,?_⟩;unfold adjS at h2 ⊢;rw[hs x (hsub x hx)];exact h2⟩,hsub⟩⟩
theorem Vd.sub {C:List Cl}{T m:List Pr}(h:Vd C m)(hs:T.Sublist m):Vd C T :=
 ⟨h.once.sublist ((hs.map _).append (hs.map _)),fun q hq=>h.side q (hs.subset hq),fun ⟨l,hl,hsub⟩=>h.free ⟨l,hl,fun x hx=>hs.subset (hsub x hx)⟩⟩
theorem pairs_mem {l:List Cl}{p:Pr}(hl:(checkC l).2=0):p∈pairsR l↔∃ c∈canonC l,c.id=p.2∧hasC c p.1=true∧∃ d∈canonC l,d.id=p.1:=by
 have ht:tabC l=canonC l:=tabC_strict (rt_of hl).asc;unfold pairsR;rw[List.mem_flatMap,ht];constructor
 ·rintro ⟨d,hd,hp⟩;obtain ⟨k,hk,rfl⟩:=List.mem_map.1 hp;unfold aboveC at hk;rw[ht] at hk;obtain ⟨c,hc,rfl⟩:=List.mem_map.1 hk;obtain ⟨h1,h2⟩:=List.mem_filter.1 hc;exact⟨c,h1,I,h2,d,hd,I⟩
 ·rintro ⟨c,hc,h1,h2,d,hd,h3⟩;refine⟨d,hd,List.mem_map.2 ⟨p.2,?_,by rw[h3]⟩⟩;unfold aboveC;rw[ht];exact List.mem_map.2 ⟨c,List.mem_filter.2 ⟨hc,by rw[h3]; exact h2⟩,h1⟩
theorem attach_pairs {C:List Cl}{n:Cl}(hC:(checkC C).2=0)(hD:Rt (canonC C++[n]))(hn:∀ c∈canonC C,c.id<n.id)(P:List Pr) :
  ∃ t,extendR (canonC C++[n]) (extendR C P)=extendR C P++t∧t.length≤1:=by
 have hA:=rt_of hC;have hd:(checkC (canonC C++[n])).2=0:=by rw[hD.check]
 have hm:=extend_vd hC P;have hfull:∀ p∈pairsR C,mcheckR C (extendR C P++[p])≠0:=fun p hp=>extend_full hC P hp;generalize extendR C P=m at *;have hsid:∀ k,(findT (canonC C) k).isSome=true→sidC C k=sidC (canonC C++[n]) k:=fun k hk=>by
  obtain ⟨c,hc⟩:=Option.isSome_iff_exists.1 hk;rw[sid_T hC,sid_rt hD,findT_left hc,hc]
 have hold:∀ T,Vd C T→∀ q∈T,sidC C q.2=sidC (canonC C++[n]) q.2:=fun T hT q hq=>by
  have h1:=hT.side q hq;rw[sid_T hC] at h1;obtain ⟨c,hc,_⟩:=sid_some h1;exact hsid _ (by rw[hc]; rfl)
 have hmD:Vd (canonC C++[n]) m:=vd_congr hm (hold m hm);have hk:keepR (canonC C++[n]) m=m:=keep_same hd hmD;have hold2:∀ p∈pairsR (canonC C++[n]),p.2≠n.id→mcheckR (canonC C++[n]) (m++[p])≠0:=fun p hp hne h0=>by
  obtain ⟨c,hc,h1,h2,d,hdm,h3⟩:=(pairs_mem hd).1 hp;rw[hD.canon] at hc hdm;have hcA:c∈canonC C:=by
   rcases List.mem_append.1 hc with hc | hc
   ·exact hc
   ·simp at hc; subst hc; exact absurd h1.symm hne
  obtain ⟨x,hx,hxe⟩:=List.any_eq_true.1 h2;obtain ⟨d',hd',_⟩:=(hA.form c hcA).found x hx;rw[of_decide_eq_true hxe] at hd';have hpC:p∈pairsR C:=(pairs_mem hC).2 ⟨c,hcA,h1,h2,d',(findT_mem hd').1,(findT_mem hd').2⟩;refine hfull p hpC ?_;have ht:takeR (canonC C++[n]) m p=m++[p]:=by unfold takeR; rw[if_pos h0]
  have hv:Vd (canonC C++[n]) (m++[p]):=by rw[← ht]; exact take_vd hd hmD p
  refine Vd.check hC (vd_congr hv fun q hq=>?_)
  rcases List.mem_append.1 hq with hq | hq
  ·exact (hold m hm q hq).symm
  ·simp at hq;subst hq;exact (hsid _ (by rw[← h1,hA.find hcA]; rfl)).symm
 have key:∀ (ps:List Pr),(∀ p∈ps,p∈pairsR (canonC C++[n]))→∀ T,Vd (canonC C++[n]) T→(T=m∨∃ q,T=m++[q]∧q.2=n.id) →
   (ps.foldl (takeR (canonC C++[n])) T=m∨∃ q,ps.foldl (takeR (canonC C++[n])) T=m++[q]∧q.2=n.id):=by
  intro ps;induction ps with
  | nil=>exact fun _ T _ h=>h
  | cons p ps ih =>
   intro hps T hT h;rw[List.foldl_cons];refine ih (fun q hq=>hps q (by simp[hq])) _ (take_vd hd hT p) ?_;have hstay:mcheckR (canonC C++[n]) (T++[p])≠0→takeR (canonC C++[n]) T p=T:=fun h0=>by unfold takeR; rw[if_neg h0]
   have hsub:∀ q∈m,q∈T:=by
    rcases h with rfl | ⟨q,rfl,_⟩
    ·exact fun _ h=>h
    ·exact fun x hx=>List.mem_append_left _ hx
   by_cases hpn:p.2=n.id
   ·rcases h with rfl | ⟨q,rfl,hq⟩
    ·by_cases h0:mcheckR (canonC C++[n]) (T++[p])=0
     ·exact .inr ⟨p,by unfold takeR; rw[if_pos h0],hpn⟩
     ·exact .inl (hstay h0)
    ·refine .inr ⟨q,hstay ?_,hq⟩;rw[mcheck_snoc hd hT p];have hu:usedR (m++[q]) p.2=true:=used_iff.2 (by simp[hpn,hq]);rw[hu,Bool.or_true,Bool.true_or,if_pos rfl];decide
   ·rw[hstay (snoc_not hd hmD hT hsub p (hold2 p (hps p (by simp)) hpn))];exact h
 unfold extendR;rw[if_pos hd,hk]
 rcases key _ (fun _ h=>h) m hmD (.inl rfl) with h | ⟨q,h,_⟩
 ·exact⟨[],by rw[h]; simp,by simp⟩
 ·exact⟨[q],h,by simp⟩
theorem remove_pairs {C:List Cl}{k:Int}(hC:(checkC C).2=0)(hD:Rt (restR (canonC C) [k]))(ht:aboveC (canonC C) k=[])(P:List Pr) :
  (extendR C P).filter (fun p=>!decide (p.2=k) && !decide (p.1=k)) <+: extendR (restR (canonC C) [k]) (extendR C P):=by
 have hA:=rt_of hC;have hd:(checkC (restR (canonC C) [k])).2=0:=by rw[hD.check]
 have hm:=extend_vd hC P;generalize extendR C P=m at *;have hno:∀ q∈m,q.1≠k:=fun q hq he=>by
  have h1:=hm.side q hq;rw[sid_T hC] at h1;obtain ⟨c,hc,x,hx,hxe⟩:=sid_some h1;have:c.id∈aboveC (canonC C) k:=hA.mem_above.2 ⟨c,(findT_mem hc).1,rfl,List.any_eq_true.2 ⟨x,hx,by simp[hxe,he]⟩⟩;rw[ht] at this;cases this
 have hsid:∀ j,j≠k→sidC C j=sidC (restR (canonC C) [k]) j:=fun j hj=>by
  rw[sid_T hC,sid_rt hD];have:findT (restR (canonC C) [k]) j=findT (canonC C) j:=part_find (l:=canonC C) (p:=fun i=>!decide (i∈[k])) (by simpa using hj);rw[this]
 have hgone:sidC (restR (canonC C) [k]) k=[]:=by
  rw[sid_rt hD];have:findT (restR (canonC C) [k]) k=none:=part_none (l:=canonC C) (p:=fun i=>!decide (i∈[k])) (by simp);rw[this];rfl
 have hkeep:keepR (restR (canonC C) [k]) m=m.filter fun p=>!decide (p.2=k) && !decide (p.1=k):=by
  have key:∀ (ps pre:List Pr),pre++ps=m→ps.foldl (takeR (restR (canonC C) [k])) (pre.filter fun p=>!decide (p.2=k) && !decide (p.1=k))=m.filter fun p=>!decide (p.2=k) && !decide (p.1=k):=by
   intro ps;induction ps with
   | nil=>intro pre he; rw[List.append_nil] at he; rw[he]; rfl
   | cons p ps ih =>
    intro pre he;rw[List.foldl_cons];have hpm:p∈m:=by rw[← he]; simp
    have hpre:Vd C (pre++[p]):=hm.sub (by rw[← he]; exact (List.Sublist.refl pre).append (by simp));have hvd:∀ T:List Pr,T.Sublist (pre++[p])→(∀ q∈T,q.2≠k)→Vd (restR (canonC C) [k]) T:=fun T hs hT=>vd_congr (hpre.sub hs) fun q hq=>hsid _ (hT q hq);have hTk:∀ q∈pre.filter (fun p=>!decide (p.2=k) && !decide (p.1=k)),q.2≠k:=fun q hq=>by
     have:=(List.mem_filter.1 hq).2;simp at this;exact this.1
    have hT0:=hvd (pre.filter fun p=>!decide (p.2=k) && !decide (p.1=k)) (List.filter_sublist.trans (List.sublist_append_left _ _)) hTk;have hstep:takeR (restR (canonC C) [k]) (pre.filter fun p=>!decide (p.2=k) && !decide (p.1=k)) p=(pre++[p]).filter fun p=>!decide (p.2=k) && !decide (p.1=k):=by
     rw[List.filter_append];by_cases hp:p.2=k
     ·have h0:mcheckR (restR (canonC C) [k]) (pre.filter (fun p=>!decide (p.2=k) && !decide (p.1=k))++[p])≠0:=by
       rw[mcheck_snoc hd hT0 p,hp,hgone];simp
      unfold takeR;rw[if_neg h0];simp[hp]
     ·have h1:[p].filter (fun p=>!decide (p.2=k) && !decide (p.1=k))=[p]:=by simp[hp,hno p hpm]
      rw[h1];have hv:=hvd (pre.filter (fun p=>!decide (p.2=k) && !decide (p.1=k))++[p]) (List.filter_sublist.append (List.Sublist.refl _)) fun q hq=>by
       rcases List.mem_append.1 hq with hq | hq
       ·exact hTk q hq
       ·simp at hq; subst hq; exact hp
      unfold takeR;rw[if_pos (Vd.check hd hv)]
    rw[hstep];exact ih (pre++[p]) (by rw[← he]; simp)
  have:=key m [] rfl;exact this
 rw[← hkeep];exact keep_prefix hd m
theorem hiC_is (l:List Cl):hiC l=maxId l:=rfl
theorem edit_ok {C:List Cl}(hC:(checkC C).2=0)(hl:C.length≤131)(hs:∀ c∈C,c.id≤131∧c.sides.length≤9){e:Ed}(he:EditOk C e)(P:List Pr) :
  (appC C e).1=0∧(e.kind=1→∃ t,extendR (appC C e).2 (extendR C P)=extendR C P++t∧t.length≤1) ∧
  (e.kind=2→(extendR C P).filter (fun p=>!decide (p.2=e.cell) && !decide (p.1=e.cell)) <+: extendR (appC C e).2 (extendR C P)):=by
 have hA:=rt_of hC;have ht:tabC C=canonC C:=tabC_strict hA.asc;have htA:tabC (canonC C)=canonC C:=hA.tab;have hfind:∀ id,findC C id=findT (canonC C) id:=fun id=>by unfold findC; rw[ht]; rfl
 have habove:∀ id,aboveC C id=aboveC (canonC C) id:=fun id=>by unfold aboveC; rw[ht,htA]
 have hlen:(canonC C).length≤131:=by rw[canonC_length]; exact hl
 have hmem:∀ x∈canonC C,∃ y∈C,x=normC y:=fun x hx=>by
  obtain ⟨y,hy,rfl⟩:=List.mem_map.1 ((canonC_perm0 C).mem_iff.2 hx);exact⟨y,hy,I⟩
 have hhi:=maxId_ge C 0;have hhi2:=maxId_le (K:=131) (fun x hx=>(hs x hx).1) 0 dC;have hnx:nextId C=maxId C+1:=by
  unfold nextId;rw[hiC_is];exact IntWalk.i64_in _ (by unfold maxId; omega)
 have hM:∀ x∈canonC C,x.id<nextId C:=fun x hx=>by
  obtain ⟨y,hy,rfl⟩:=hmem x hx;have:=hhi.2 y hy;show y.id<nextId C;rw[hnx];unfold maxId;omega
 have hM0:0<nextId C:=by rw[hnx]; unfold maxId; omega
 have h63:∀ x∈canonC C,x.sides.length≤63:=fun x hx=>by
  obtain ⟨y,hy,rfl⟩:=hmem x hx;have:=(hs y hy).2;show (sortBy Side.cell y.sides).length≤63;rw[(sortBy_perm (key:=Side.cell) y.sides).length_eq];omega
 have hid:∀ {d id:Int},id∈idsC C d→∃ c,findT (canonC C) id=some c∧c.dim=d:=fun {d id} hi=>by
  unfold idsC at hi;rw[ht] at hi;obtain ⟨c,hc,rfl⟩:=List.mem_map.1 hi;obtain ⟨h1,h2⟩:=List.mem_filter.1 hc;exact⟨c,hA.find h1,by simpa using h2⟩
 rw[appC_canon hC];have hatt:e.kind=1→e.cell=nextId C→appC (canonC C) e=(0,canonC C++[normC ⟨e.cell,e.dim,e.sides⟩])→(appC (canonC C) e).1=0∧(e.kind=1→∃ t,extendR (appC (canonC C) e).2 (extendR C P)=extendR C P++t∧t.length≤1) ∧
   (e.kind=2→(extendR C P).filter (fun p=>!decide (p.2=e.cell) && !decide (p.1=e.cell)) <+: extendR (appC (canonC C) e).2 (extendR C P)):=fun h1 h2 h3=>by
  have h0:(appC (canonC C) e).1=0:=by rw[h3]
  have hr:=(appC_rt h0).1;rw[h3] at hr ⊢;exact⟨I,fun _=>attach_pairs hC hr (fun c hc=>by have:=hM c hc; show c.id<e.cell; omega) P,fun h=>by omega⟩
 obtain ⟨_,he⟩:=he
 rcases he with ⟨hk,hc,hd,a,ha,b,hb,hab,hS⟩ | ⟨hk,hc,hd,hS⟩ | ⟨hk,hc,hn,ho,_⟩ | ⟨hk,hc,_,_⟩ | ⟨hk,⟨h1,h2⟩,_⟩ | ⟨hk,hc,hd,hS⟩
 ·obtain ⟨ca,fa,da⟩:=hid ha;obtain ⟨cb,fb,db⟩:=hid hb;exact hatt hk hc (edge_ok hA hk oM (by rw[hc]; exact hM) (by rw[hc]; exact hM0) hd hab fa da fb db hS)
 ·have hE:∀ id z0 z1,EdgeS (canonC C) id z0 z1→∃ c,findT (canonC C) id=some c∧c.dim=1∧c.sides=[z0,z1]:=fun id z0 z1 ⟨c,h1,_,h3,h4⟩=>⟨c,by rw[← hA.findC]; exact h1,h3,h4⟩;have hEC:∀ {id z0 z1},EdgeS C id z0 z1→EdgeS (canonC C) id z0 z1:=fun {id z0 z1} ⟨c,h1,h2,h3,h4⟩=>⟨c,by rw[hA.findC,← hfind]; exact h1,h2,h3,h4⟩;refine hatt hk hc (round_ok hA hk oM (by rw[hc]; exact hM) (by rw[hc]; exact hM0) hd hE ?_)
  rcases hS with ⟨a,b,z0,z1,hab,h1,h2,h3⟩ | ⟨a,b,d,x0,x1,y0,y1,z0,z1,hab,h1,h2,h3,h4,h5,h6,h7,h8⟩
  ·exact .inl ⟨a,b,z0,z1,hab,hEC h1,hEC h2,h3⟩
  ·exact .inr ⟨a,b,d,x0,x1,y0,y1,z0,z1,hab,hEC h1,hEC h2,hEC h3,h4,h5,h6,h7,h8⟩
 ·obtain ⟨c,fc,dc⟩:=hid hc;have ho':e.other=nextId C+1:=by rw[ho]; exact IntWalk.i64_in _ (by rw[hnx]; unfold maxId; omega)
  exact⟨split_ok hA hk fc dc hn ho' hM hM0 oM h63,fun h=>by omega,fun h=>by omega⟩
 ·unfold topsC at hc;rw[ht] at hc;obtain ⟨c,hc,hce⟩:=List.mem_map.1 hc;obtain ⟨hcA,_⟩:=List.mem_filter.1 hc;have hab:aboveC (canonC C) e.cell=[]:=by
   refine List.eq_nil_iff_forall_not_mem.2 fun id hid=>?_;obtain ⟨y,hy,_,hh⟩:=hA.mem_above.1 hid;obtain ⟨x,hx,hxe⟩:=List.any_eq_true.1 hh;have hct:e.cell∈topsC C:=by
    unfold topsC;rw[ht];exact List.mem_map.2 ⟨c,hc,hce⟩
   exact tops_not hct y (by rw[ht]; exact hy) x hx (of_decide_eq_true hxe)
  have h3:=remove_ok hA hk ⟨c,hcA,hce⟩ hab;have h0:(appC (canonC C) e).1=0:=by rw[h3]
  have hr:=(appC_rt h0).1;rw[h3] at hr ⊢;exact⟨I,fun h=>by omega,fun _=>remove_pairs hC hr hab P⟩
 ·have h3:=collapse_ok hA hk (by rw[← habove]; exact h1) (by rw[← habove]; exact h2);exact⟨by rw[h3],fun h=>by omega,fun h=>by omega⟩
 ·exact hatt hk hc (vertex_ok hA hk oM (by rw[hc]; exact hM) (by rw[hc]; exact hM0) hd hS)
end Go.Proofs.YtmmghffoakhheaaGreatDoor
