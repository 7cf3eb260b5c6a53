/- R12g R12h R12i Ed18 Pl12 -/
import Derived.Test.YtackilpikhkijaaGreatDoorAl12
import Derived.Test.YtackilpikhkijaaGreatDoorAl11
import Derived.Test.YtackilpikhkijaaGreatDoorAl06
import Derived.Test.YtackilpikhkijaaGreatDoorAl09
import Derived.Test.YtackilpikhkijaaGreatDoorAl10
set_option linter.unusedSimpArgs false
set_option linter.unusedVariables false
namespace Go.Proofs.YtackilpikhkijaaGreatDoor
open _root_.Go.Proofs.Tryz _root_.Go.Proofs.YtackilpikhkijaaGreatDoor.Tryz
open Go Go.Sy Go.Pl Go.Proofs
set_option maxRecDepth 100000
set_option maxHeartbeats 8000000
def bB (l:List Cl)(e:Ed):Int:=match findC l e.cell with
 | none=>30
 | some c=>if c.dim≠1 then 21 else if e.new<1∨e.other<1∨e.new=e.other then 1 else if (findC l e.new).isSome||(findC l e.other).isSome then 54 else 0
def ei (e:Ed)(l:List Side):List Side:=(l.filter fun x=>decide (x.cell=e.cell)).map fun x=>⟨e.other,x.sign⟩
theorem vz {e:Ed}{l:List Side}{k:Nat}(hk:k<l.length):ei e (l.take (k+1))=if l[k].cell=e.cell then ei e (l.take k)++[⟨e.other,l[k].sign⟩] else ei e (l.take k):=by
 unfold ei;rw[tS hk,List.filter_append,List.map_append];by_cases h:l[k].cell=e.cell
 ·rw[if_pos h]; simp[h]
 ·rw[if_neg h]; simp[h]
def cZ (e:Ed)(a:Int)(y:Cl):Cl:=if y.id=e.cell then ⟨y.id,y.dim,[⟨a,-1⟩,⟨e.new,1⟩]⟩ else ⟨y.id,y.dim,y.sides++ei e y.sides⟩
def eI (l:List Cl)(e:Ed):List Cl:=[⟨e.new,0,[]⟩,⟨e.other,1,[⟨e.new,-1⟩,⟨(iz ((findC l e.cell).getD bA).sides true).cell,1⟩]⟩]++l.map (cZ e (iz ((findC l e.cell).getD bA).sides false).cell)
def bQ (e:Ed):List Tm:=if e.other<e.cell then [(e.other,1),(e.cell,1)] else [(e.cell,1),(e.other,1)]
theorem pY (E:World)(g:PH)(s:Own)(v ev:Value)(l:List Cl)(e:Ed)(hv:ao g v l)(hf:be l)(he:EdR g ev e)(hll:l.length≤100000)(hls:∀ c∈l,c.sides.length≤64)
  (hedge:∀ c,findC l e.cell=some c→c.dim=1→∃ z0 z1,c.sides=[z0,z1]∧((z0.sign=1∧z1.sign = -1)∨(z0.sign = -1∧z1.sign=1))) :
  Ctr Tryz.prog E 72 #[.agg #[v],ev] g s (fun r g' s'=>s=s'∧Le g g'∧Aq (bB l e) (if bB l e=0 then eI l e else l) (((am l).map fN).map (cI e.cell (bQ e))) false r g'):=by
 obtain ⟨sv,pv,rfl,hsv,hpv⟩:=he;obtain ⟨sp,sc,rfl⟩:=SlA.form hsv;obtain ⟨pq,pc,rfl⟩:=SlA.form hpv;have hv0:=hv;obtain ⟨p,c,rfl⟩:=hv.form;refine Ctr.of (args:=[.agg #[.slice p l.length c],.agg #[vi e.kind,vi e.cell,vi e.dim,vi e.new,vi e.other,.slice sp e.sides.length sc,.slice pq e.pairs.length pc]]) func72 I ntmps72 (bE I) ?_;cases hfc:findC l e.cell with
 | none =>
  have hcode:bB l e=30:=by unfold bB; rw[hfc]
  rw[hcode];refine rZ (bW (bO I) fun b2=>?_);refine bW (bO I) fun b3=>?_;refine bW (aL zeroValue29) fun b4=>?_;refine bW (aL zeroValue46) fun b5=>?_;refine aT I (rZ (lK (qV 3 ar ag I I I) (lU (fA aK I zT3 I) (lK (qL iT3 I (cO 2 I I)) (lW (cL call41 I (bo E g _ _ l e.cell hv hf)) ?_)))));rintro _ g1 _ ⟨rfl,hle1,⟨yi,yd,yp,yn,yc⟩,rfl,hcr⟩;rw[hfc];refine lM I (lU (xT I I) (lU (xT I I) (bW (aL zeroValue53) fun b7=>?_)));refine oZ (sK 0 au I I I I I sB) ?_;refine aT I (sQ (bK (sW I (lU (SU.not I) (aT I (SC.condT I (rZ (lK (qV 4 ar ag I I I) (lU (SU.build I buildZ46) (oZ (sK 2 ag I I I I I sB) ?_))))))))));refine oZ (sK 1 bC I I I I I sB) ?_;refine aT I (rE (bR (tR ?_)));exact ST.retCCT 2 1 s (.inl I) results72 I I I ar ag fD bC I I I I uR ⟨I,hle1,_,_,_,_,I,hv0.mono hle1,fun h=>by cases h⟩
 | some c0 =>
 refine rZ (bW (bO I) fun b2=>?_);refine bW (bO I) fun b3=>?_;refine bW (aL zeroValue29) fun b4=>?_;refine bW (aL zeroValue46) fun b5=>?_;refine aT I (rZ (lK (qV 3 ar ag I I I) (lU (fA aK I zT3 I) (lK (qL iT3 I (cO 2 I I)) (lW (cL call41 I (bo E g _ _ l e.cell hv hf)) ?_)))));rintro _ g1 _ ⟨rfl,hle1,⟨yi,yd,yp,yn,yc⟩,rfl,hcr⟩;rw[hfc] at hcr ⊢;obtain ⟨hy1,hy2,hys⟩:=hcr;dsimp only[Option.getD] at hy1 hy2 hys;have hyn:yn=c0.sides.length:=Sl.slen hys;subst hyn;subst hy2;have hv1:=hv0.mono hle1;refine lM I (lU (xT I I) (lU (xT I I) (bW (aL zeroValue53) fun b7=>?_)));refine oZ (sK 0 au I I I I I sB) ?_;refine aT I (sQ (bK (sW I (lU (SU.not I) (aT I (SC.condF I (rZ (lU (fA aq I zT3 I) (lK (qL iT3 I (cO 0 I I)) (lU (nQ I I) (aT I ?_)))))))))));refine iP I (fun hd=>?_) (fun hd=>?_)
 ·have hcode:bB l e=21:=by unfold bB; rw[hfc]; exact if_pos hd
  rw[hcode];refine rZ (lK (qV 4 ar ag I I I) (lU (SU.build I buildZ46) (oZ (sK 2 ag I I I I I sB) ?_)));refine oZ (sK 1 bC I I I I I sB) ?_;refine aT I (rE (bR (tR ?_)));exact ST.retCCT 2 1 s (.inl I) results72 I I I ar ag fD bC I I I I uR ⟨I,hle1,_,_,_,_,I,hv1,fun h=>by cases h⟩
 have hd1:c0.dim=1:=Decidable.not_not.1 hd;have hc1:(e.new<1∨e.other<1∨e.new=e.other)→bB l e=1:=fun h=>by
  unfold bB;rw[hfc];show (if c0.dim≠1 then (21:Int) else if e.new<1∨e.other<1∨e.new=e.other then 1 else _)=1;rw[if_neg hd,if_pos h]
 by_cases hn1:e.new<1
 ·rw[hc1 (.inl hn1)];refine rZ (lU (fA aK I zT3 I) (lK (qL (v:=vi e.new) iT3 I (cO 3 I I)) (lU (SU.eq (v':=vb true) (lS I I) (congrArg vb (decide_eq_true hn1))) (lM I (lZ I I I (lZ I I I (lZ I I I (lU (wT I I) (lM I (lZ I I I (lZ I I I (lZ I I I (lZ I I I (lZ I I I (lU (wT I I) (aT I (SC.condT I (rZ (lK (qV 4 ar ag I I I) (lU (SU.build I buildZ46) (oZ (sK 2 ag I I I I I sB) ?_)))))))))))))))))))));refine oZ (sK 1 bC I I I I I sB) ?_;refine aT I (rE (bR (tR ?_)));exact ST.retCCT 2 1 s (.inl I) results72 I I I ar ag fD bC I I I I uR ⟨I,hle1,_,_,_,_,I,hv1,fun h=>by cases h⟩
 by_cases hn2:e.other<1
 ·rw[hc1 (.inr (.inl hn2))];refine rZ (lU (fA aK I zT3 I) (lK (qL (v:=vi e.new) iT3 I (cO 3 I I)) (lU (SU.eq (v':=vb false) (lS I I) (congrArg vb (decide_eq_false hn1))) (lM I (lY I I I (fA aK I zT3 I) (SL.gq (gT I I I dC) (qL (v:=vi e.other) iT3 I (cO 3 I I)) dC (lY I I I (SU.eq (v':=vb true) (lS I I) (congrArg vb (decide_eq_true hn2))) (lU (wF I I) (lM I (lZ I I I (lZ I I I (lZ I I I (lZ I I I (lZ I I I (lU (wT I I) (aT I (SC.condT I (rZ (lK (qV 4 ar ag I I I) (lU (SU.build I buildZ46) (oZ (sK 2 ag I I I I I sB) ?_)))))))))))))))))))));refine oZ (sK 1 bC I I I I I sB) ?_;refine aT I (rE (bR (tR ?_)));exact ST.retCCT 2 1 s (.inl I) results72 I I I ar ag fD bC I I I I uR ⟨I,hle1,_,_,_,_,I,hv1,fun h=>by cases h⟩
 refine rZ (lU (fA aK I zT3 I) (lK (qL (v:=vi e.new) iT3 I (cO 3 I I)) (lU (SU.eq (v':=vb false) (lS I I) (congrArg vb (decide_eq_false hn1))) (lM I (lY I I I (fA aK I zT3 I) (SL.gq (gT I I I dC) (qL (v:=vi e.other) iT3 I (cO 3 I I)) dC (lY I I I (SU.eq (v':=vb false) (lS I I) (congrArg vb (decide_eq_false hn2))) (lU (wF I I) (lM I (lY I I I (fA aK I zT3 I) (SL.gq (gT I I I dC) (qL (v:=vi e.new) iT3 I (cO 3 I I)) dC (lY I I I (fA aK I zT3 I) (SL.gq (gT I I I dC) (qL (v:=vi e.other) iT3 I (cO 3 I I)) dC (lY I I I (eQ I I) (lU (wF I I) (aT I ?_))))))))))))))));refine iP I (fun hn3=>?_) (fun hn3=>?_)
 ·rw[hc1 (.inr (.inr hn3))];refine rZ (lK (qV 4 ar ag I I I) (lU (SU.build I buildZ46) (oZ (sK 2 ag I I I I I sB) ?_)));refine oZ (sK 1 bC I I I I I sB) ?_;refine aT I (rE (bR (tR ?_)));exact ST.retCCT 2 1 s (.inl I) results72 I I I ar ag fD bC I I I I uR ⟨I,hle1,_,_,_,_,I,hv1,fun h=>by cases h⟩
 have hcode:bB l e=if (findC l e.new).isSome||(findC l e.other).isSome then 54 else 0:=by
  unfold bB;rw[hfc];show (if c0.dim≠1 then (21:Int) else if e.new<1∨e.other<1∨e.new=e.other then 1 else if (findC l e.new).isSome||(findC l e.other).isSome then 54 else 0)=_;rw[if_neg hd,if_neg (fun h=>h.elim hn1 fun h=>h.elim hn2 hn3)]
 rw[hcode];cases hnw:(findC l e.new).isSome with
 | true =>
  have e54:(if (true||(findC l e.other).isSome)=true then (54:Int) else 0)=54:=rfl;rw[e54];refine rZ (lK (qV 4 ar ag I I I) (lU (fA aK I zT3 I) (lK (qL (v:=vi e.new) iT3 I (cO 3 I I)) (lW (cL call110 I (cU E g1 _ _ l e.new hv1 hf)) ?_))));rintro _ g2 _ ⟨rfl,rfl,hle2⟩;rw[hnw];refine lM I (lZ I I I (lZ I I I (lZ I I I (lZ I I I (lU (wT I I) (aT I (SC.condT I (rZ (lK (qV 4 ar ag I I I) (lU (SU.build I buildZ46) (oZ (sK 2 ag I I I I I sB) ?_)))))))))));refine oZ (sK 1 bC I I I I I sB) ?_;refine aT I (rE (bR (tR ?_)));exact ST.retCCT 2 1 s (.inl I) results72 I I I ar ag fD bC I I I I uR ⟨I,hle1.trans hle2,_,_,_,_,I,hv1.mono hle2,fun h=>by cases h⟩
 | false =>
 rw[Bool.false_or];refine rZ (lK (qV 4 ar ag I I I) (lU (fA aK I zT3 I) (lK (qL (v:=vi e.new) iT3 I (cO 3 I I)) (lW (cL call110 I (cU E g1 _ _ l e.new hv1 hf)) ?_))));rintro _ g2 _ ⟨rfl,rfl,hle2⟩;rw[hnw];refine lM I (SL.gq (gT I I I dC) (qV 4 ar ag I I I) dC (lY I I I (fA aK I zT3 I) (SL.gq (gT I I I dC) (qL (v:=vi e.other) iT3 I (cO 3 I I)) dC (SL.go (gT I I I dC) (cL call110 I (cU E g2 _ _ l e.other (hv1.mono hle2) hf)) dC ?_))));rintro _ g3 _ ⟨rfl,rfl,hle3⟩;refine lU (wF I I) (aT I ?_);refine iQ I (fun hot=>?_) (fun hot=>?_)
 ·rw[if_pos hot];refine rZ (lK (qV 4 ar ag I I I) (lU (SU.build I buildZ46) (oZ (sK 2 ag I I I I I sB) ?_)));refine oZ (sK 1 bC I I I I I sB) ?_;refine aT I (rE (bR (tR ?_)));exact ST.retCCT 2 1 s (.inl I) results72 I I I ar ag fD bC I I I I uR ⟨I,hle1.trans (hle2.trans hle3),_,_,_,_,I,hv1.mono (hle2.trans hle3),fun h=>by cases h⟩
 rw[if_neg (by rw[hot]; exact Bool.false_ne_true)];have hle13:=hle2.trans hle3;have hle03:=hle1.trans hle13;have hv3:=hv1.mono hle13;have hys3:=SlA.mono hys hle13;obtain ⟨z0,z1,hz,hzs⟩:=hedge c0 hfc hd1;have hout:eI l e=[⟨e.new,0,[]⟩,⟨e.other,1,[⟨e.new,-1⟩,⟨(iz c0.sides true).cell,1⟩]⟩]++l.map (cZ e (iz c0.sides false).cell):=by unfold eI; rw[hfc]; rfl
 rw[if_pos rfl,hout];have hl2:c0.sides.length=2:=by rw[hz]; rfl
 have hbE:=SlA.based hys3 oM;have hg0:c0.sides[((0:Int)).toNat]?=some z0:=by rw[hz]; rfl
 have hg1:c0.sides[((1:Int)).toNat]?=some z1:=by rw[hz]; rfl
 have hends:(0<z0.sign→(iz c0.sides true).cell=z0.cell∧(iz c0.sides false).cell=z1.cell)∧(¬ 0<z0.sign→(iz c0.sides true).cell=z1.cell∧(iz c0.sides false).cell=z0.cell):=by
  rw[hz]
  rcases hzs with ⟨h0,h1⟩ | ⟨h0,h1⟩
  ·exact⟨fun _=>by simp[iz,h0,h1],fun h=>absurd oM h⟩
  ·exact⟨fun h=>absurd h oM,fun _=>by simp[iz,h0,h1]⟩
 generalize (iz c0.sides true).cell=zb at *;generalize (iz c0.sides false).cell=za at *;obtain ⟨c00,s00⟩:=z0;obtain ⟨c01,s01⟩:=z1;dsimp only at hends;refine kP (bN (tN (rZ (lU (fA aq I aU I) (lK (qL (v:=.slice yp c0.sides.length yc) bw I (cO 0 I I)) (lU (iA aN aG I I hbE oM sL) (lU (fC cl I zT3 I hbE) (lK (aZ (e:=encSide) (o:=0) (u:=vi c00) iT3 I (SlA.rd hys3) hg0 I) (aT I (rZ (lU (fA aq I aU I) (lK (qL (v:=.slice yp c0.sides.length yc) bw I (cO 0 I I)) (lU (iA aN aG I I hbE oM sL) (lU (fC cl I zT3 I hbE) (lK (aZ (e:=encSide) (o:=0) (u:=vi c01) iT3 I (SlA.rd hys3) hg1 I) (aT I ?_))))))))))))))));refine SC.cut (ι:=Unit) (fun _=>[(2,pp b2 0),(3,pp b3 0),(4,pp b4 0),(5,pp b5 0),(9,vi za),(10,vi zb)]) (fun _=>g3)
  (fun _=>pt b7 (.cells #[vi yi,vi c0.dim,.slice yp c0.sides.length yc] 53 (0,0))::pt b5 (.cells #[.slice none 0 0,vb false] 46 (0,0))::pt b4 (.cells #[.slice none 0 0] 29 (0,0))::pt b3 (.cells (edV e (.slice sp e.sides.length sc) (.slice pq e.pairs.length pc)) 35 (0,0))::pt b2 (.cells #[.slice p l.length c] 29 (0,0))::s) (fun _=>True) ?_ ?_
 ·refine rZ (lU (fA aq I aU I) (lK (qL (v:=.slice yp c0.sides.length yc) bw I (cO 0 I I)) (lU (iA aN aG I I hbE oM sL) (lU (fC cl I zT3 I hbE) (lK (aZ (e:=encSide) (o:=1) (u:=vi s00) iT3 I (SlA.rd hys3) hg0 I) (lU (gR I I) (tZ ?_)))))));refine iP I (fun hz0=>?_) (fun hz0=>?_)
  ·obtain ⟨k1,k2⟩:=hends.1 hz0;refine rZ (lU (fA aq I aU I) (lK (qL (v:=.slice yp c0.sides.length yc) bw I (cO 0 I I)) (lU (iA aN aG I I hbE oM sL) (lU (fC cl I zT3 I hbE) (lK (aZ (e:=encSide) (o:=0) (u:=vi c01) iT3 I (SlA.rd hys3) hg1 I) (aT I (rG (lU (fA aq I aU I) (lK (qL (v:=.slice yp c0.sides.length yc) bw I (cO 0 I I)) (lU (iA aN aG I I hbE oM sL) (lU (fC cl I zT3 I hbE) (lK (aZ (e:=encSide) (o:=0) (u:=vi c00) iT3 I (SlA.rd hys3) hg0 I) (lA I (nL ?_))))))))))))));exact ST.mid () ⟨rfl,rfl,rfl,rfl,(by rw[k2]; rfl),(by rw[k1]; rfl),trivial⟩ rfl rfl trivial
  ·obtain ⟨k1,k2⟩:=hends.2 hz0;refine kP ?_;exact ST.mid () ⟨rfl,rfl,rfl,rfl,(by rw[k2]; rfl),(by rw[k1]; rfl),trivial⟩ rfl rfl trivial
 rintro _ -;try dsimp only
 refine rZ (lU (fA aK I zT3 I) (lK (qL (v:=vi e.new) iT3 I (cO 3 I I)) (lU (SU.build I (buildI53 _)) (lU (fA aK I zT3 I) (lK (qL (v:=vi e.other) iT3 I (cO 3 I I)) (lU (fA aK I zT3 I) (lK (qL (v:=vi e.new) iT3 I (cO 3 I I)) (lU (SU.build I (buildS55 _ _)) (lM I (lU (SU.build I (buildS55 _ _)) (lW (bS sty32 I I I (ae sB) dC) ?_)))))))))));rintro _ _ _ ⟨b102,rfl,rfl,rfl⟩;refine SL.freeze fun g4 hle4 hb4=>?_;have hs4:SlA encSide g4 (.slice (some ⟨b102,0,none⟩) 2 2) [⟨e.new,-1⟩,⟨zb,1⟩]:=SlA.lit hb4 rfl rfl;refine lU (SU.build I (buildF53 _ _ _ I)) (lW (bS sty27 I I I (ae sB) dC) ?_);rintro _ _ _ ⟨b104,rfl,rfl,rfl⟩;refine SL.to (fun w hw=>At.litRow (e:=encCell) (l:=[⟨e.new,0,⟨none,0,0⟩⟩,⟨e.other,1,⟨some ⟨b102,0,none⟩,2,2⟩⟩]) (n:=1) hw I I dC) ?_;refine lU (SU.build I (build29 _ I)) (bW (aL zeroValue29) fun b11=>?_);refine oZ (sK 0 ag I I I I I sB) ?_;refine tZ (sQ (rZ (aT I (bK ?_))));have hv4:=hv3.mono hle4;obtain ⟨rs,hrs,hall⟩:=hv4;have hrl:=hall.length;refine oP (ι:=Nat×PH×Option Addr×Nat×List Rc) (fun i=>[(2,pp b2 0),(3,pp b3 0),(4,pp b4 0),(5,pp b5 0),(9,vi za),(11,pp b11 0),(12,vi i.1)]) (fun i=>i.2.1)
  (fun i=>pt b11 (.cells #[.slice i.2.2.1 i.2.2.2.2.length i.2.2.2.1] 29 (0,0))::rowA encCell 53 (.slice i.2.2.1 i.2.2.2.2.length i.2.2.2.1) i.2.2.2.2::pt b7 (.cells #[vi yi,vi c0.dim,.slice yp c0.sides.length yc] 53 (0,0))::pt b5 (.cells #[.slice none 0 0,vb false] 46 (0,0))::pt b4 (.cells #[.slice none 0 0] 29 (0,0))::pt b3 (.cells (edV e (.slice sp e.sides.length sc) (.slice pq e.pairs.length pc)) 35 (0,0))::pt b2 (.cells #[.slice p l.length c] 29 (0,0))::s)
  (fun i=>i.1≤l.length∧Le g4 i.2.1∧aC (aw i.2.1) (([⟨e.new,0,[]⟩,⟨e.other,1,[⟨e.new,-1⟩,⟨zb,1⟩]⟩]:List Cl)++(l.take i.1).map (cZ e za)) i.2.2.2.2) (fun i=>l.length - i.1) (0,g4,some ⟨b104,0,none⟩,2,[⟨e.new,0,⟨none,0,0⟩⟩,⟨e.other,1,⟨some ⟨b102,0,none⟩,2,2⟩⟩])
  sB rfl rfl ⟨Nat.zero_le _,Le.refl _,by dsimp only; rw[List.take_zero]; exact⟨⟨rfl,rfl,Sl.nil _ _⟩,⟨rfl,rfl,hs4⟩,trivial⟩⟩ ?_
 rintro ⟨k,g5,q5,d5,acc⟩ ⟨hk,hle5,hacc⟩;dsimp only at hk hle5 hacc ⊢;have hal:=hacc.length;simp only[List.length_append,List.length_cons,List.length_nil,List.length_map,List.length_take] at hal;refine sQ (sW I (lU (fA c8 I cj I) (lK (qL (v:=.slice p l.length c) dS I (cO 6 I I)) (lU (eN aH I) (lU (lS I I) (tZ ?_))))));refine iP I (fun hlt=>?_) (fun hlt=>?_)
 ·have hkl:k<l.length:=oM;have hkr:k<rs.length:=oM;have hb1:=SlA.based hrs oM;have hcr:=aw.mono hle5 (hall.get (gE hkl) (gE hkr));have hgx:rs[((k:Nat):Int).toNat]?=some rs[k]:=gE hkr;have htk:=mS (cZ e za) hkl;have hxl:=hls _ (gM hkl);generalize rs[k]=x at *;generalize l[k]=cx at *;obtain ⟨xi,xd,xp,xn,xc⟩:=x;obtain ⟨f1,f2,hxsl⟩:=hcr;dsimp only at f1 f2 hxsl;subst f1 f2;have hxn:xn=cx.sides.length:=Sl.slen hxsl;subst hxn;refine kP (tN (sQ (bK (rZ (lU (fA c8 I cj I) (lK (qL (v:=.slice p l.length c) dS I (cO 6 I I)) (lM I (lU (iA aH au I I hb1 oM sL) (lK (eA du au I (SlA.rd (SlA.mono hrs hle5)) hgx) (bW (aL zeroValue53) fun b13=>?_))))))))));refine oZ (sK 0 au I I I I I sB) ?_;refine tZ (rZ (lW (bS sty32 I I I (ae trivial) dC) ?_));rintro _ _ _ ⟨b118,rfl,rfl,rfl⟩;refine SL.drop (List.sublist_cons_self _ _) (lU (fA aq I aU I) (lK (qL (v:=.slice xp cx.sides.length xc) bw I (cO 0 I I)) (lW (SO.appNewA (e:=encSide) sty32 I I hxsl oM oM) ?_)));rintro v121 _ _ ⟨rfl,rfl⟩;refine SL.facts fun ⟨w0,hw0⟩=>?_;obtain ⟨q6,d6,rfl⟩:=ah (e:=encSide) (l:=cx.sides) (i:=0) hw0 rfl;clear hw0 w0;refine lU (fA aq rfl aU rfl) (oZ (SO.store1 1 aU rfl rfl rfl rfl (bE rfl) (by rfl)) ?_);refine tZ (rZ (lU (fA aq I aU I) (lK (qL (v:=.slice q6 cx.sides.length d6) bw I (cO 1 I I)) (lU (eN aN I) (aT I (sQ (rZ (aT I (bK ?_)))))))));have hmo0:ei e (cx.sides.take 0)=[]:=rfl;refine oP (ι:=Nat×Option Addr×Nat) (fun i=>[(2,pp b2 0),(3,pp b3 0),(4,pp b4 0),(5,pp b5 0),(9,vi za),(11,pp b11 0),(12,vi k),(13,pp b13 0),(14,vi cx.sides.length),(15,vi i.1)]) (fun _=>g5)
   (fun i=>rowA encSide 55 (.slice i.2.1 (cx.sides++ei e (cx.sides.take i.1)).length i.2.2) (cx.sides++ei e (cx.sides.take i.1))::pt b13 (.cells #[vi cx.id,vi cx.dim,.slice i.2.1 (cx.sides++ei e (cx.sides.take i.1)).length i.2.2] 53 (0,0))::pt b11 (.cells #[.slice q5 acc.length d5] 29 (0,0))::rowA encCell 53 (.slice q5 acc.length d5) acc::pt b7 (.cells #[vi yi,vi c0.dim,.slice yp c0.sides.length yc] 53 (0,0))::pt b5 (.cells #[.slice none 0 0,vb false] 46 (0,0))::pt b4 (.cells #[.slice none 0 0] 29 (0,0))::pt b3 (.cells (edV e (.slice sp e.sides.length sc) (.slice pq e.pairs.length pc)) 35 (0,0))::pt b2 (.cells #[.slice p l.length c] 29 (0,0))::s)
   (fun i=>i.1≤cx.sides.length) (fun i=>cx.sides.length - i.1) (0,q6,d6) sB rfl (by dsimp only; rw[hmo0,List.append_nil]; rfl) (Nat.zero_le _) ?_
  rintro ⟨j,q7,d7⟩ hj;dsimp only at hj ⊢;refine sQ (sW I (lM I (lU (lS I I) (tZ ?_))));refine iP I (fun hlt2=>?_) (fun hlt2=>?_)
  ·have hjl:j<cx.sides.length:=oM;have hsucc:=vz (e:=e) hjl;have hmol:(ei e (cx.sides.take j)).length≤64:=by
    unfold ei;rw[List.length_map];have:=List.length_filter_le (fun x:Side=>decide (x.cell=e.cell)) (cx.sides.take j);rw[List.length_take] at this;omega
   have hgj:(cx.sides++ei e (cx.sides.take j))[((j:Nat):Int).toNat]?=some cx.sides[j]:=by
    show (cx.sides++ei e (cx.sides.take j))[j]?=_;rw[List.getElem?_append_left hjl];exact gE hjl
   generalize cx.sides[j]=z at *;obtain ⟨zc,zs⟩:=z;dsimp only at hsucc;refine SC.facts fun ⟨w0,hw0⟩=>?_;obtain ⟨bb,cc,hbb⟩:=aV (i:=0) hw0 rfl (by rw[List.length_append]; omega);clear hw0 w0;have hb7:based (.slice q7 (cx.sides++ei e (cx.sides.take j)).length d7)=true:=by rw[hbb]; rfl
   clear hbb;have hlen7:(cx.sides++ei e (cx.sides.take j)).length=cx.sides.length+(ei e (cx.sides.take j)).length:=List.length_append;refine kP (tN (sQ (bK (sQ ?_))));refine dW [] [(0,2),(1,1),(2,2),(3,2),(4,2),(5,1),(6,2),(7,1),(8,2)] Tryz.mixed kR ?_;refine pU I (fA aq I aU I) (pK I (qL (v:=.slice q7 (cx.sides++ei e (cx.sides.take j)).length d7) bw I (cO 1 I I)) (pU I (mV I) (pU I (iA aN aG I I hb7 oM sL) (pU I (fC cl I zT3 I hb7) (pK I (aZ (e:=encSide) (o:=0) (u:=vi zc) iT3 I (Rd.rowA 0 I) hgj I) (pU I (fA aK I zT3 I) (pK I (qL (v:=vi e.cell) iT3 I (cO 7 I I)) (pU I (eQ I I) (pN (tN ?_))))))))));refine iP I (fun hzc=>?_) (fun hzc=>?_)
   ·rw[if_pos hzc] at hsucc;have hsucc2:cx.sides++ei e (cx.sides.take (j+1))=(cx.sides++ei e (cx.sides.take j))++[⟨e.other,zs⟩]:=by rw[hsucc,List.append_assoc]
    generalize cx.sides++ei e (cx.sides.take j)=L at *;refine dW [12,14] [(0,2),(1,1),(2,2),(3,1),(4,2),(5,1),(6,2),(7,2),(8,2),(9,1),(10,2),(11,0),(12,0),(13,2),(14,0)] Tryz.mixed kR ?_;refine pU I (fA aq I aU I) (pK I (qL (v:=.slice q7 L.length d7) bw I (cO 1 I I)) (pU I (fA aK I zT3 I) (pK I (qL (v:=vi e.other) iT3 I (cO 7 I I)) (pU I (fA aq I aU I) (pK I (qL (v:=.slice q7 L.length d7) bw I (cO 1 I I)) (pU I (mV I) (pU I (iA aN aG I I hb7 oM sL) (pU I (fC cl I zT3 I hb7) (pK I (aZ (e:=encSide) (o:=1) (u:=vi zs) iT3 I (Rd.rowA 0 I) hgj I) (pU I (SU.build I (buildS55 _ _)) (SP.o I (bS sty32 I I I (ae ⟨I,trivial⟩) dC) dC (.inr iR) ?_)))))))))));rintro _ _ _ ⟨b151,rfl,rfl,rfl⟩;refine SP.o I (aP (e:=encSide) 0 ⟨e.other,zs⟩ sty32 I I I I I oM oM) dC (.inl dC) ?_;rintro v152 _ _ ⟨rfl,rfl⟩;refine SP.facts fun ⟨w0,hw0⟩=>?_;obtain ⟨q8,d8,rfl⟩:=ah (e:=encSide) (l:=L++[(⟨e.other,zs⟩:Side)]) (i:=0) hw0 rfl;clear hw0 w0;refine pU rfl (fA aq rfl aU rfl) (SP.on rfl (SO.store1 1 aU rfl rfl rfl rfl (bE rfl) (by rfl)) (.inl dC) ?_);rintro _ _ _ ⟨rfl,rfl⟩;refine pN (bN (tN (rG (lM I (lU (aD I I oM) (lA I (nL ?_)))))));exact gA (j+1,q8,d8) sB rfl (by dsimp only; rw[hsucc2]; rfl) (by dsimp only; omega) (by dsimp only; omega)
   ·rw[if_neg hzc] at hsucc;refine kP (bN (tN (rG (lM I (lU (aD I I oM) (lA I (nL ?_)))))));exact gA (j+1,q7,d7) sB I (by dsimp only; rw[hsucc]) (by dsimp only; omega) (by dsimp only; omega)
  ·have hjj:cx.sides.take j=cx.sides:=tL oM;rw[hjj];refine xI (tX (tX (bX (tN (sQ (sQ (fS fun g6 hle6 hs6=>?_)))))));refine rG (lU (fA aq I zT3 I) (lK (qL (v:=vi cx.id) iT3 I (cO 0 I I)) (lU (fA aK I zT3 I) (lK (qL (v:=vi e.cell) iT3 I (cO 6 I I)) (lU (eQ I I) (tZ ?_))))));have hle56:=hle5.trans hle6;refine iP I (fun hid=>?_) (fun hid=>?_)
   ·have hsc:cZ e za cx=⟨cx.id,cx.dim,[⟨za,-1⟩,⟨e.new,1⟩]⟩:=if_pos hid;rw[hsc] at htk;refine rG (lM I (lU (SU.build I (buildS55 _ _)) (lU (fA aK I zT3 I) (lK (qL (v:=vi e.new) iT3 I (cO 6 I I)) (lU (SU.build I (buildS55 _ _)) (lW (bS sty32 I I I (ae sB) dC) ?_))))));rintro _ _ _ ⟨b164,rfl,rfl,rfl⟩;refine SL.freeze fun g7 hle7 hb7=>?_;have hs7:SlA encSide g7 (.slice (some ⟨b164,0,none⟩) 2 2) [⟨za,-1⟩,⟨e.new,1⟩]:=SlA.lit hb7 rfl rfl;refine lU (fA aq rfl aU rfl) (oZ (SO.store1 0 aU rfl rfl rfl rfl (bE rfl) (by rfl)) ?_);refine tZ (rG (lU (fA c8 I cj I) (lK (qL (v:=.slice q5 acc.length d5) dS I (cO 1 I I)) (lK (qV 0 du au I I I) (lW (bS sty27 I I I (ae sB) dC) ?_)))));rintro _ _ _ ⟨b169,rfl,rfl,rfl⟩;refine lW (aP (e:=encCell) 2 ⟨cx.id,cx.dim,⟨some ⟨b164,0,none⟩,2,2⟩⟩ sty27 I I I I I oM oM) ?_;rintro v170 _ _ ⟨rfl,rfl⟩;refine SL.facts fun ⟨w0,hw0⟩=>?_;obtain ⟨q9,d9,rfl⟩:=ah (e:=encCell) (l:=acc++[(⟨cx.id,cx.dim,⟨some ⟨b164,0,none⟩,2,2⟩⟩:Rc)]) (i:=2) hw0 rfl;clear hw0 w0;refine lU (fA c8 I cj I) (oZ (sK 1 cj I I I I I sB) ?_);refine nL (bN (tN (rG (lM I (lU (aD I I oM) (lA I (nL (dR (.cons _ (.refl _)) ?_))))))));exact gA (k+1,g7,q9,d9,acc++[(⟨cx.id,cx.dim,⟨some ⟨b164,0,none⟩,2,2⟩⟩:Rc)]) sB I I ⟨by dsimp only; omega,hle56.trans hle7,by
     dsimp only;rw[htk,← List.append_assoc];exact (hacc.mono fun _ _=>aw.mono (hle6.trans hle7)).append ⟨⟨I,I,hs7⟩,trivial⟩⟩ (by dsimp only; omega)
   ·have hsc:cZ e za cx=⟨cx.id,cx.dim,cx.sides++ei e cx.sides⟩:=if_neg hid;rw[hsc] at htk;refine kP (tN (rG (lU (fA c8 I cj I) (lK (qL (v:=.slice q5 acc.length d5) dS I (cO 1 I I)) (lK (qV 0 du au I I I) (lW (bS sty27 I I I (ae sB) dC) ?_))))));rintro _ _ _ ⟨b169,rfl,rfl,rfl⟩;refine lW (aP (e:=encCell) 2 ⟨cx.id,cx.dim,⟨q7,(cx.sides++ei e cx.sides).length,d7⟩⟩ sty27 I I I I I oM oM) ?_;rintro v170 _ _ ⟨rfl,rfl⟩;refine SL.facts fun ⟨w0,hw0⟩=>?_;obtain ⟨q9,d9,rfl⟩:=ah (e:=encCell) (l:=acc++[(⟨cx.id,cx.dim,⟨q7,(cx.sides++ei e cx.sides).length,d7⟩⟩:Rc)]) (i:=2) hw0 rfl;clear hw0 w0;refine lU (fA c8 I cj I) (oZ (sK 1 cj I I I I I sB) ?_);refine nL (bN (tN (rG (lM I (lU (aD I I oM) (lA I (nL (dR (.cons _ (.refl _)) ?_))))))));exact gA (k+1,g6,q9,d9,acc++[(⟨cx.id,cx.dim,⟨q7,(cx.sides++ei e cx.sides).length,d7⟩⟩:Rc)]) sB I I ⟨by dsimp only; omega,hle56,by
     dsimp only;rw[htk,← List.append_assoc];exact (hacc.mono fun _ _=>aw.mono hle6).append ⟨⟨I,I,hs6⟩,trivial⟩⟩ (by dsimp only; omega)
 ·have hkk:l.take k=l:=tL oM;rw[hkk] at hacc;have hle45:=hle4.trans hle5;have hv5:=hv3.mono hle45;have hIl:((am l).map fN).length<1099511627776:=by rw[List.length_map]; exact (bJ hf).1
  refine xI (tX (tX (bX (tN (sQ (cP (List.Perm.swap _ _ _) (fS fun g6 hle6 hs6=>?_)))))));have hc6:ao g6 (.slice q5 acc.length d5) _:=⟨acc,hs6,hacc.mono fun _ _=>aw.mono hle6⟩;refine dW [] [(0,2),(1,1),(3,2),(4,1),(2,0),(5,0),(6,0),(7,2)] Tryz.mixed kR ?_;refine pU I (fA aK I zT3 I) (pK I (qL (v:=vi e.cell) iT3 I (cO 4 I I)) (pU I (fA aK I zT3 I) (pK I (qL (v:=vi e.other) iT3 I (cO 4 I I)) (SP.o I (cL call113 I (dT E g6 _ e.cell 1 dC dC)) dC (.inr iR) ?_))));rintro _ g7 _ ⟨rfl,rfl,hle7⟩;refine SP.o rfl (cL call113 rfl (dT E g7 _ e.other 1 dC dC)) dC (.inr (by rintro _ g8 _ ⟨rfl,rfl,hle8⟩; exact⟨by exact Le.trans (by assumption) (by assumption),(by exact .refl _)⟩)) ?_;rintro _ g8 _ ⟨rfl,rfl,hle8⟩;have hle68:=hle7.trans hle8;refine SP.o I (bS sty72 I I I (ae sB) dC) dC (.inr iR) ?_;rintro _ _ _ ⟨b178,rfl,rfl,rfl⟩;refine SP.freeze fun g9 hle9 hb9=>?_;have hle69:=hle68.trans hle9;have hch:SlA bV g9 (.slice (some ⟨b178,0,none⟩) 2 2) [(e.cell,1),(e.other,1)]:=SlA.lit hb9 rfl rfl;refine pU I (aS I) (pN (tN ?_));refine SC.cut (ι:=PH×Option Addr×Nat×Nat) (fun i=>[(2,pp b2 0),(3,pp b3 0),(4,pp b4 0),(5,pp b5 0),(11,pp b11 0),(16,.slice i.2.1 i.2.2.1 i.2.2.2)]) (fun i=>i.1)
   (fun _=>pt b11 (.cells #[.slice q5 acc.length d5] 29 (0,0))::pt b7 (.cells #[vi yi,vi c0.dim,.slice yp c0.sides.length yc] 53 (0,0))::pt b5 (.cells #[.slice none 0 0,vb false] 46 (0,0))::pt b4 (.cells #[.slice none 0 0] 29 (0,0))::pt b3 (.cells (edV e (.slice sp e.sides.length sc) (.slice pq e.pairs.length pc)) 35 (0,0))::pt b2 (.cells #[.slice p l.length c] 29 (0,0))::s)
   (fun i=>Le g6 i.1∧SlA bV i.1 (.slice i.2.1 i.2.2.1 i.2.2.2) (bQ e)) ?_ ?_
  ·refine rZ (lU (fA aK I zT3 I) (lK (qL (v:=vi e.other) iT3 I (cO 4 I I)) (lU (fA aK I zT3 I) (lK (qL (v:=vi e.cell) iT3 I (cO 4 I I)) (lU (lS I I) (tZ ?_))))));refine iP I (fun hoc=>?_) (fun hoc=>?_)
   ·have hrc:bQ e=[(e.other,1),(e.cell,1)]:=if_pos hoc;rw[hrc];refine dW [] [(0,2),(1,1),(3,2),(4,1),(2,0),(5,0),(6,0),(7,2)] Tryz.mixed kR ?_;refine pU I (fA aK I zT3 I) (pK I (qL (v:=vi e.other) iT3 I (cO 4 I I)) (pU I (fA aK I zT3 I) (pK I (qL (v:=vi e.cell) iT3 I (cO 4 I I)) (SP.o I (cL call113 I (dT E g9 _ e.other 1 dC dC)) dC (.inr iR) ?_))));rintro _ g10 _ ⟨rfl,rfl,hle10⟩;refine SP.o rfl (cL call113 rfl (dT E g10 _ e.cell 1 dC dC)) dC (.inr (by rintro _ g11 _ ⟨rfl,rfl,hle11⟩; exact⟨by exact Le.trans (by assumption) (by assumption),(by exact .refl _)⟩)) ?_;rintro _ g11 _ ⟨rfl,rfl,hle11⟩;have hle911:=hle10.trans hle11;refine SP.o I (bS sty72 I I I (ae sB) dC) dC (.inr iR) ?_;rintro _ _ _ ⟨b190,rfl,rfl,rfl⟩;refine SP.freeze fun g12 hle12 hb12=>?_;have hle912:=hle911.trans hle12;have hch2:SlA bV g12 (.slice (some ⟨b190,0,none⟩) 2 2) [(e.other,1),(e.cell,1)]:=SlA.lit hb12 rfl rfl;refine pU I (aS I) (pN ?_);exact ST.mid (g12,some ⟨b190,0,none⟩,2,2) sB I I ⟨hle69.trans hle912,hch2⟩
   ·have hrc:bQ e=[(e.cell,1),(e.other,1)]:=if_neg hoc;rw[hrc];refine kP ?_;exact ST.mid (g9,some ⟨b178,0,none⟩,2,2) sB I I ⟨hle69,hch⟩
  rintro ⟨g10,q10,n10,d10⟩ ⟨hle10,hch10⟩;dsimp only at hle10 hch10 ⊢;have hv10:=hv5.mono (hle6.trans hle10);refine sQ ?_;refine dW [8,9] [(0,1),(1,1),(3,2),(4,1),(5,2),(2,0),(6,0),(7,2),(8,0),(9,0),(10,2)] Tryz.mixed kR ?_;refine pK I (qV 0 ar ag I I I) (pK I (qV 5 ar ag I I I) (pU I (fA aK I zT3 I) (pK I (qL (v:=vi e.cell) iT3 I (cO 4 I I)) (pU I (mV I) (SP.o I (cL call111 I (fp E g10 _ _ l hv10 hf)) dC (.inr iR) ?_)))));rintro _ g11 _ ⟨rfl,hle11,iv,rfl,him⟩;obtain ⟨q11,n11,d11,rfl⟩:=him.form;refine SP.o rfl (cL call114 rfl (ig E g11 _ _ _ _ e.cell _ him hIl (SlA.mono hch10 hle11))) dC (.inr (by rintro _ g12 _ ⟨rfl,hle12,u12,rfl,him12⟩; exact⟨by exact Le.trans (by assumption) (by assumption),(by exact .refl _)⟩)) ?_;rintro _ g12 _ ⟨rfl,hle12,u12,rfl,him12⟩;obtain ⟨q12,n12,d12,rfl⟩:=him12.form;have hle1012:=hle11.trans hle12;refine pU I (SU.build I (buildS46 _ _ _)) (SP.on I (sK 3 ag I I I I I sB) (.inl dC) ?_);rintro _ _ _ ⟨rfl,rfl⟩;refine SP.on I (sK 2 bC I I I I I sB) (.inl dC) ?_;rintro _ _ _ ⟨rfl,rfl⟩;refine pU I (aS I) (pN (tN (rE ?_)));exact ST.retCCT 3 2 s (.inl I) results72 I I I ar ag fD bC I I I I uR ⟨I,hle03.trans (hle45.trans (hle6.trans (hle10.trans hle1012))),_,_,_,_,I,hc6.mono (hle10.trans hle1012),fun _=>him12⟩
set_option maxHeartbeats 4000000
theorem BU {ps:List Pr}{k:Int}{j:Nat}(hj:j<ps.length)(h:ps[j].2=k)(hn:∀ i (hi:i<j),(ps[i]'oM).2≠k):byF ps k=some ps[j].1:=by
 have hf:ps.find? (fun p=>decide (p.2=k))=some ps[j]:=List.find?_eq_some_iff_getElem.2 ⟨by simpa using h,j,hj,rfl,fun i hi=>by simpa using hn i hi⟩;unfold byF;rw[hf];rfl
theorem BT {ps:List Pr}{k:Int}(hn:∀ p∈ps,p.2≠k):byF ps k=none:=by
 unfold byF;rw[List.find?_eq_none.2 fun p hp=>by simpa using hn p hp];rfl
theorem fY (E:World)(g:PH)(s:Own)(v pv:Value)(l:List Side)(ps:List Pr)(hv:SlA encSide g v l)(hl:l.length<1099511627776)(hp:SlA dB g pv ps)(hpl:ps.length<1099511627776) :
  Ctr Tryz.prog E 115 #[v,pv] g s (fun r g' s'=>s=s'∧Le g g'∧SlA encSide g' r (l.map (dQ (byF ps)))):=by
 obtain ⟨p,c,rfl⟩:=SlA.form hv;obtain ⟨q,d,rfl⟩:=SlA.form hp;refine Ctr.of (args:=[.slice p l.length c,.slice q ps.length d]) func115 I ntmps115 (bE I) ?_;refine rZ (aT I (rZ (lU (SU.build I (buildE53)) (bW (aL zeroValue53) fun b5=>?_))));refine oZ (sK 0 au I I I I I sB) ?_;refine tZ (sQ (rZ (aT I (bK (SC.nilRow 55 2 ?_)))));refine oP (ι:=Nat×Value) (fun i=>[(0,.slice p l.length c),(1,.slice q ps.length d),(5,pp b5 0),(6,vi i.1)]) (fun _=>g) (fun i=>rowA encSide 55 i.2 ((l.take i.1).map (dQ (byF ps)))::pt b5 (.cells #[vi 0,vi 0,i.2] 53 (0,0))::s)
  (fun i=>i.1≤l.length) (fun i=>l.length - i.1) (0,.slice none 0 0) sB rfl rfl (Nat.zero_le _) ?_
 rintro ⟨k,w⟩ hk;dsimp only at hk ⊢;refine sQ (sW I (lM I (lU (eN aN I) (lU (lS I I) (tZ ?_)))));refine iP I (fun hlt=>?_) (fun hlt=>?_)
 ·have hkl:k<l.length:=oM;have hb1:=SlA.based hv oM;have hgk:l[((k:Nat):Int).toNat]?=some l[k]:=gE hkl;have htk:(l.take (k+1)).map (dQ (byF ps))=(l.take k).map (dQ (byF ps))++[dQ (byF ps) l[k]]:=by rw[tS hkl,List.map_append]; rfl
  have hml:((l.take k).map (dQ (byF ps))).length=k:=by rw[List.length_map,List.length_take]; omega
  generalize l[k]=x at *;obtain ⟨xc,xs⟩:=x;refine kP (tN (sQ (bK (sW I (lM I (lU (iA aN aG I I hb1 oM sL) (lK (eA eu aG I (SlA.rd hv) hgk) (bW (aL zeroValue55) fun b7=>?_))))))));refine oZ (sK 0 aG I I I I I sB) ?_;refine tZ (sQ (rZ (aT I (bK ?_))));refine oP (ι:=Nat) (fun j=>[(0,.slice p l.length c),(1,.slice q ps.length d),(5,pp b5 0),(6,vi k),(7,pp b7 0),(8,vi j)]) (fun _=>g) (fun _=>pt b7 (.cells #[vi xc,vi xs] 55 (0,0))::rowA encSide 55 w ((l.take k).map (dQ (byF ps)))::pt b5 (.cells #[vi 0,vi 0,w] 53 (0,0))::s)
   (fun j=>j≤ps.length∧∀ i (hi:i<j) (hl:i<ps.length),ps[i].2≠xc) (fun j=>ps.length - j) 0 sB rfl rfl ⟨Nat.zero_le _,fun i hi=>absurd hi oM⟩ ?_
  rintro j ⟨hj,hno⟩;try dsimp only at hj hno ⊢
  refine sQ (sW I (lM I (lU (eN i8 I) (lU (lS I I) (tZ ?_)))));refine iP I (fun hlt2=>?_) (fun hlt2=>?_)
  ·have hjl:j<ps.length:=oM;have hb2:=SlA.based hp oM;have hgj:ps[((j:Nat):Int).toNat]?=some ps[j]:=gE hjl;have hat:=fun h=>BU (ps:=ps) (k:=xc) hjl h (fun i hi=>hno i hi oM);have hsucc:ps[j].2≠xc→∀ i (hi:i<j+1) (hl:i<ps.length),ps[i].2≠xc:=fun h i hi hl=>by
    by_cases e:i=j
    ·subst e; exact h
    ·exact hno i oM hl
   generalize ps[j]=z at *;obtain ⟨z1,z2⟩:=z;dsimp only at hat hsucc;refine kP (tN (sQ (bK (sQ ?_))));refine dW [] [(0,2),(1,1),(2,2),(3,2),(4,2),(5,2),(6,1),(7,2)] Tryz.mixed kR ?_;refine pU I (fA cl I zT3 I) (pK I (qL (v:=vi xc) iT3 I (cO 0 I I)) (pU I (mV I) (pU I (mV I) (pU I (iA i8 iJ I I hb2 oM sL) (pU I (SU.indexAddrC gr zT3 I hb2 I dC dC) (pK I (aZ (e:=dB) (o:=1) (u:=vi z2) iT3 I (SlA.rd hp) hgj I) (pU I (eQ I I) (pN (tN ?_)))))))));refine iP I (fun hx=>?_) (fun hx=>?_)
   ·have hr:dQ (byF ps) ⟨xc,xs⟩=⟨z1,xs⟩:=by unfold dQ; rw[hat hx.symm]; rfl
    rw[hr] at htk;refine sW rfl (lM rfl (lU (iA i8 iJ rfl rfl hb2 oM sL) (lU (SU.indexAddrC gr zT3 rfl hb2 rfl dC dC) (lK (aZ (e:=dB) (o:=0) (u:=vi z1) iT3 rfl (SlA.rd hp) hgj rfl) (lU (fA cl rfl zT3 rfl) (oZ (SO.store1 0 zT3 rfl rfl rfl rfl (bE rfl) (by rfl)) ?_))))));refine tZ (xI (ST.blockO dC (tX (tX (bX (tN (rG (lU (fA aq I aU I) (lK (qL (v:=w) bw I (cO 2 I I)) (lK (qV 0 eu aG I I I) (lW (bS sty32 I I I (ae sB) dC) ?_)))))))))));rintro _ _ _ ⟨b43,rfl,rfl,rfl⟩;refine lW (aP (e:=encSide) 1 ⟨z1,xs⟩ sty32 I I I I I oM oM) ?_;rintro w' _ _ ⟨rfl,rfl⟩;refine SL.facts fun ⟨w0,hw0⟩=>?_;obtain ⟨q',d',rfl⟩:=ah (e:=encSide) (l:=(l.take k).map (dQ (byF ps))++[(⟨z1,xs⟩:Side)]) (i:=1) hw0 rfl;clear hw0 w0;refine lU (fA aq rfl aU rfl) (oZ (SO.store1 2 aU rfl rfl rfl rfl (bE rfl) (by rfl)) ?_);refine nL (bN (tN (rG (lM I (lU (aD I I oM) (lA I (nL (dR (.cons _ (.refl _)) ?_))))))));exact gA (k+1,_) sB rfl (by dsimp only; rw[htk]; rfl) (by dsimp only; omega) (by dsimp only; omega)
   ·refine kP (bN (tN (rG (lM I (lU (aD I I oM) (lA I (nL ?_)))))));exact gA (j+1) sB I I ⟨oM,hsucc fun h=>hx h.symm⟩ oM
  ·have hr:dQ (byF ps) ⟨xc,xs⟩=⟨xc,xs⟩:=by
    unfold dQ;rw[BT fun z hz=>?_]
    ·rfl
    ·obtain ⟨i,hi,rfl⟩:=List.getElem_of_mem hz;exact hno i oM hi
   rw[hr] at htk;refine xI (tX (tX (bX (tN (rG (lU (fA aq I aU I) (lK (qL (v:=w) bw I (cO 2 I I)) (lK (qV 0 eu aG I I I) (lW (bS sty32 I I I (ae sB) dC) ?_)))))))));rintro _ _ _ ⟨b43,rfl,rfl,rfl⟩;refine lW (aP (e:=encSide) 1 ⟨xc,xs⟩ sty32 I I I I I oM oM) ?_;rintro w' _ _ ⟨rfl,rfl⟩;refine SL.facts fun ⟨w0,hw0⟩=>?_;obtain ⟨q',d',rfl⟩:=ah (e:=encSide) (l:=(l.take k).map (dQ (byF ps))++[(⟨xc,xs⟩:Side)]) (i:=1) hw0 rfl;clear hw0 w0;refine lU (fA aq rfl aU rfl) (oZ (SO.store1 2 aU rfl rfl rfl rfl (bE rfl) (by rfl)) ?_);refine nL (bN (tN (rG (lM I (lU (aD I I oM) (lA I (nL (dR (.cons _ (.refl _)) ?_))))))));exact gA (k+1,_) sB rfl (by dsimp only; rw[htk]; rfl) (by dsimp only; omega) (by dsimp only; omega)
 ·have hkk:l.take k=l:=tL oM;rw[hkk];refine xI (tX (tX (bX (tN (sQ (fS fun g2 hle2 hs2=>?_))))));refine rG (lU (fA aq I aU I) (lK (qL (v:=w) bw I (cO 0 I I)) (aT I (rE (dR (s':=s) uR ?_)))));exact ST.ret1 (.inl I) results115 I ⟨I,hle2,hs2⟩
theorem oG (E:World)(g:PH)(s:Own)(v:Value)(l:List Side)(x:Side)(hv:SlA encSide g v l)(hl:l.length<1099511627776) :
  Ctr Tryz.prog E 119 #[v,.agg #[vi x.cell,vi x.sign]] g s (fun r g' s'=>r=vi ((l.countP fun y=>decide (y=x)):Nat)∧g=g'∧s=s'):=by
 obtain ⟨p,c,rfl⟩:=SlA.form hv;refine Ctr.of (args:=[.slice p l.length c,.agg #[vi x.cell,vi x.sign]]) func119 I ntmps119 (bE I) ?_;refine rZ (bW (bO I) fun b3=>?_);refine aT I (rZ (aT I (sQ (rZ (aT I (bK ?_))))));refine oP (ι:=Nat) (fun k=>[(0,.slice p l.length c),(3,pp b3 0),(5,vi (((l.take k).countP fun y=>decide (y=x)):Nat)),(6,vi k)]) (fun _=>g) (fun _=>pt b3 (.cells #[vi x.cell,vi x.sign] 55 (0,0))::s)
  (fun k=>k≤l.length) (fun k=>l.length - k) 0 sB rfl rfl (Nat.zero_le _) ?_
 rintro k hk;try dsimp only at hk ⊢
 refine sQ (sW I (lM I (lU (eN aN I) (lU (lS I I) (tZ ?_)))));refine iP I (fun hlt=>?_) (fun hlt=>?_)
 ·have hkl:k<l.length:=oM;have hb1:=SlA.based hv oM;have hgk:l[((k:Nat):Int).toNat]?=some l[k]:=gE hkl;have hcs:(l.take (k+1)).countP (fun y=>decide (y=x))=(l.take k).countP (fun y=>decide (y=x))+(if l[k]=x then 1 else 0):=by
   rw[tS hkl,List.countP_append];congr 1;by_cases h:l[k]=x <;> simp[h]
  have hcl:(l.take k).countP (fun y=>decide (y=x))≤k:=Nat.le_trans List.countP_le_length (by rw[List.length_take]; omega);generalize l[k]=y at *;obtain ⟨yc,ys⟩:=y;refine kP (tN (sQ (bK (sQ ?_))));refine dW [] [(0,2),(1,2),(2,2),(3,1),(4,1),(5,2)] Tryz.mixed kR ?_;refine pU I (mV I) (pU I (mV I) (pU I (iA aN aG I I hb1 oM sL) (pK I (eA eu aG I (SlA.rd hv) hgk) (pK I (qV 0 eu aG I I I) (pU I (SU.eqlSide ⟨yc,ys⟩ x I I) (pN (tN ?_)))))));refine iP I (fun he=>?_) (fun he=>?_)
  ·rw[if_pos he] at hcs;refine rG (lM I (lU (aD I I oM) (lA I (nL (bN (tN (rG (lM I (lU (aD I I oM) (lA I (nL ?_)))))))))));exact gA (k+1) ⟨rfl,rfl,(by rw[hcs]; rfl),rfl,trivial⟩ rfl rfl oM oM
  ·rw[if_neg he] at hcs;refine kP (bN (tN (rG (lM I (lU (aD I I oM) (lA I (nL ?_)))))));exact gA (k+1) ⟨rfl,rfl,(by rw[hcs]; rfl),rfl,trivial⟩ rfl rfl oM oM
 ·have hkk:l.take k=l:=tL oM;rw[hkk];refine xI (tX (tX (bX (tN (sW I (aT I (rE (dR (s':=s) uR ?_))))))));exact ST.ret1 (.inl I) results119 I ⟨I,I,I⟩
theorem lG:∀ (a b:List Side),(∀ x∈a,(a.countP fun y=>decide (y=x))≤(b.countP fun y=>decide (y=x)))→∃ r,b.Perm (a++r)
 | [],b,_=>⟨b,List.Perm.refl b⟩
 | x::a,b,h=>by
  have h1:=h x (by simp);rw[List.countP_cons] at h1;have hx:x∈b:=by
   have h2:0<b.countP fun y=>decide (y=x):=by simp at h1; omega
   obtain ⟨y,hy,he⟩:=List.countP_pos_iff.1 h2;rw[← of_decide_eq_true he];exact hy
  obtain ⟨s1,s2,rfl⟩:=List.append_of_mem hx;obtain ⟨r,hr⟩:=lG a (s1++s2) fun y hy=>by
   have h3:=h y (by simp[hy]);rw[List.countP_cons,List.countP_append,List.countP_cons] at h3;rw[List.countP_append];by_cases e:x=y
   ·subst e; simp at h3 ⊢; omega
   ·simp[e] at h3 ⊢; omega
  exact⟨r,List.perm_middle.trans (by simpa using hr.cons x)⟩
theorem p4 {a b:List Side}(hl:a.length=b.length)(h:∀ x∈a,(a.countP fun y=>decide (y=x))=(b.countP fun y=>decide (y=x))):a.Perm b:=by
 obtain ⟨r,hr⟩:=lG a b fun x hx=>Nat.le_of_eq (h x hx);have h1:=hr.length_eq;rw[List.length_append] at h1;have h2:r=[]:=List.eq_nil_of_length_eq_zero oM;subst h2;rw[List.append_nil] at hr;exact hr.symm
theorem jN (E:World)(g:PH)(s:Own)(v u:Value)(l m:List Side)(hv:SlA encSide g v l)(hu:SlA encSide g u m)(hl:l.length<1099511627776)(hm:m.length<1099511627776) :
  Ctr Tryz.prog E 76 #[v,u] g s (fun r g' s'=>r=vb (decide (gU l=gU m))∧g=g'∧s=s'):=by
 obtain ⟨p,c,rfl⟩:=SlA.form hv;obtain ⟨q,d,rfl⟩:=SlA.form hu;have hiff:gU l=gU m↔l.Perm m:=⟨fun h=>(fq l).symm.trans (h ▸ fq m),fun h=>oN (o0 l) (o0 m) ((fq l).trans (h.trans (fq m).symm))⟩;refine Ctr.of (args:=[.slice p l.length c,.slice q m.length d]) func76 I ntmps76 (bE I) ?_;refine rZ (aT I (sQ (sW I (lU (eN aN I) (lM I (lU (eN aN I) (lU (nQ I I) (tZ ?_))))))));refine iP I (fun hne=>?_) (fun hne=>?_)
 ·refine rZ (aT I (rE (tR ?_)));exact ST.ret1 (.inl I) results76 I ⟨by have:¬ gU l=gU m:=fun e=>hne (by rw[(hiff.1 e).length_eq]); simp[this],I,I⟩
 ·refine kP (tN (sQ (rZ (aT I (bK ?_)))));have hlen:l.length=m.length:=oM;refine oP (ι:=Nat) (fun k=>[(0,.slice p l.length c),(1,.slice q m.length d),(5,vi k)]) (fun _=>g) (fun _=>s) (fun k=>k≤l.length∧∀ j (hj:j<k) (hl:j<l.length),(l.countP fun y=>decide (y=l[j]))=(m.countP fun y=>decide (y=l[j]))) (fun k=>l.length - k) 0
   sB rfl rfl ⟨Nat.zero_le _,fun j hj=>absurd hj oM⟩ ?_
  rintro k ⟨hk,hall⟩;refine sQ (sW I (lM I (lU (eN aN I) (lU (lS I I) (tZ ?_)))));refine iP I (fun hlt=>?_) (fun hlt=>?_)
  ·have hkl:k<l.length:=oM;have hb1:=SlA.based hv oM;have hgk:l[((k:Nat):Int).toNat]?=some l[k]:=gE hkl;have hsucc:(l.countP fun y=>decide (y=l[k]))=(m.countP fun y=>decide (y=l[k]))→∀ j (hj:j<k+1) (hl:j<l.length),(l.countP fun y=>decide (y=l[j]))=(m.countP fun y=>decide (y=l[j])):=fun h j hj hl=>by
    by_cases e:j=k
    ·subst e; exact h
    ·exact hall j oM hl
   have hneq:(l.countP fun y=>decide (y=l[k]))≠(m.countP fun y=>decide (y=l[k]))→¬ gU l=gU m:=fun h e=>h ((hiff.1 e).countP_eq _);generalize l[k]=x at *;obtain ⟨xc,xs⟩:=x;refine kP (tN (sQ (bK (sQ ?_))));refine dW [] [(0,2),(1,2),(2,2),(3,2),(4,1),(6,2),(7,2),(8,2),(9,2),(10,1),(5,0),(11,0),(12,2)] Tryz.mixed kR ?_;refine pU I (mV I) (pU I (mV I) (pU I (mV I) (pU I (iA aN aG I I hb1 oM sL) (pK I (eA eu aG I (SlA.rd hv) hgk) (pU I (mV I) (pU I (mV I) (pU I (mV I) (pU I (iA aN aG I I hb1 oM sL) (pK I (eA eu aG I (SlA.rd hv) hgk) (SP.o I (cL call119 I (oG E g _ _ l ⟨xc,xs⟩ hv hl)) dC (.inr iR) ?_))))))))));rintro _ _ _ ⟨rfl,rfl,rfl⟩;refine SP.o I (cL call119 I (oG E g _ _ m ⟨xc,xs⟩ hu hm)) dC (.inr iR) ?_;rintro _ _ _ ⟨rfl,rfl,rfl⟩;refine pU I (nQ I I) (pN (tN ?_));refine iP I (fun hd=>?_) (fun hd=>?_)
   ·have hno:=hneq oM;refine rZ (aT I (rE (bR (tR (tR (bR (tR ?_)))))));exact ST.ret1 (.inl I) results76 I ⟨by simp[hno],I,I⟩
   ·refine kP (bN (tN (rG (lM I (lU (aD I I oM) (lA I (nL ?_)))))));exact gA (k+1) sB I I ⟨oM,hsucc oM⟩ oM
  ·have hyes:gU l=gU m:=hiff.2 (p4 hlen fun x hx=>by
    obtain ⟨j,hj,rfl⟩:=List.getElem_of_mem hx;exact hall j oM hj)
   refine xI (tX (tX (bX (tN (rZ (aT I (rE ?_)))))));exact ST.ret1 (.inl I) results76 I ⟨by simp[hyes],I,I⟩
theorem uH (ps:List Pr):(gW ps).length=2 * ps.length:=by
 induction ps with
 | nil=>rfl
 | cons p ps ih =>
  have hc:gW (p::ps)=p.1::p.2::gW ps:=rfl;rw[hc,List.length_cons,List.length_cons,List.length_cons,ih];omega
def lq (l:List Cl)(id:Int):Int:=((findC l id).getD bA).dim
def il (l:List Cl)(id:Int):List Side:=((findC l id).getD bA).sides
def gO (l:List Cl)(ps:List Pr)(p:Pr):Bool:=decide (gU ((il l p.1).map (dQ (byF ps)))=gU ((il l p.2).map (dQ (byF ps))))
def c4 (l:List Cl)(e:Ed):Int :=
 if e.pairs.all (fun p=>(findC l p.1).isSome&&(findC l p.2).isSome) then
  if ln e.pairs then 54 else if e.pairs.any (fun p=>decide (lq l p.1≠lq l p.2)) then 21 else if e.pairs.all (gO l e.pairs) then 0 else 33
 else 30
def yD (f:Int→Option Int)(c:Cl):Cl:=⟨c.id,c.dim,c.sides.map (dQ f)⟩
def fo (l:List Cl)(e:Ed):List Cl:=(dj l (e.pairs.map Prod.snd)).map (yD (byF e.pairs))
def eZ (ps:List Pr)(M:List (Int×List Tm)):List (Int×List Tm):=ps.foldl (fun M p=>M.map (cI p.2 [(p.1,1)])) M
theorem rP {ps:List Pr}{k:Nat}(hk:k<ps.length)(M:List (Int×List Tm)):eZ (ps.take (k+1)) M=(eZ (ps.take k) M).map (cI ps[k].2 [(ps[k].1,1)]):=by
 unfold eZ;rw[tS hk,List.foldl_append];rfl
theorem s9 (ps:List Pr):∀ M,(eZ ps M).length=M.length:=by
 unfold eZ;induction ps with
 | nil=>intro M; rfl
 | cons p ps ih=>intro M; rw[List.foldl_cons,ih,List.length_map]
theorem zk {α:Type}(f:α→α){l:List α}{k:Nat}(hk:k<l.length):(l.take (k+1)).map f++l.drop (k+1)=((l.take k).map f++l.drop k).set k (f l[k]):=by
 rw[tS hk,List.map_append,List.append_assoc,List.set_append_right _ _ (by rw[List.length_map,List.length_take]; omega),List.length_map,List.length_take,show k - min k l.length=0 by omega];congr 1;rw[List.drop_eq_getElem_cons hk];rfl
theorem AZ {α:Type}(f:α→α){l:List α}{k:Nat}(hk:k<l.length):((l.take k).map f++l.drop k)[k]?=some l[k]:=by
 rw[List.getElem?_append_right (by rw[List.length_map,List.length_take]; omega),List.length_map,List.length_take,show k - min k l.length=0 by omega,List.drop_eq_getElem_cons hk];rfl
theorem zg {L:List Int}(h:∀ a (ha:a<L.length) b (hb:b<a),L[a]≠L[b]'oM):L.Nodup:=by
 rw[List.nodup_iff_pairwise_ne,List.pairwise_iff_getElem];intro i j hi hj hij e;exact h j hj i hij e.symm
theorem mw (E:World)(g:PH)(s:Own)(v ev:Value)(l:List Cl)(e:Ed)(hv:ao g v l)(hf:be l)(he:EdR g ev e)(hpl:e.pairs.length<100000000000)(hfs:∀ id,(il l id).length<1099511627776) :
  Ctr Tryz.prog E 73 #[.agg #[v],ev] g s (fun r g' s'=>s=s'∧Le g g'∧Aq (c4 l e) (if c4 l e=0 then fo l e else l) (eZ e.pairs ((am l).map fN)) false r g'):=by
 obtain ⟨sv,pv,rfl,hsv,hpv⟩:=he;obtain ⟨sp,sc,rfl⟩:=SlA.form hsv;obtain ⟨pq,pc,rfl⟩:=SlA.form hpv;obtain ⟨p,c,rfl⟩:=hv.form;refine Ctr.of (args:=[.agg #[.slice p l.length c],.agg #[vi e.kind,vi e.cell,vi e.dim,vi e.new,vi e.other,.slice sp e.sides.length sc,.slice pq e.pairs.length pc]]) func73 I ntmps73 (bE I) ?_;refine rZ (bW (bO I) fun b2=>?_);refine bW (bO I) fun b3=>?_;refine bW (aL zeroValue29) fun b4=>?_;refine bW (aL zeroValue46) fun b5=>?_;refine aT I (rZ (aT I (rZ (aT I (sQ (rZ (aT I (bK (SC.nilRow 3 1 (SC.nilRow 3 1 ?_))))))))));refine oP (ι:=Nat×PH×Value×Value) (fun i=>[(2,pp b2 0),(3,pp b3 0),(4,pp b4 0),(5,pp b5 0),(7,i.2.2.1),(8,i.2.2.2),(9,vi i.1)]) (fun i=>i.2.1)
  (fun i=>rowA encInt 3 i.2.2.1 (gW (e.pairs.take i.1))::rowA encInt 3 i.2.2.2 ((e.pairs.take i.1).map Prod.snd)::pt b5 (.cells #[.slice none 0 0,vb false] 46 (0,0))::pt b4 (.cells #[.slice none 0 0] 29 (0,0))::pt b3 (.cells (edV e (.slice sp e.sides.length sc) (.slice pq e.pairs.length pc)) 35 (0,0))::pt b2 (.cells #[.slice p l.length c] 29 (0,0))::s)
  (fun i=>i.1≤e.pairs.length∧Le g i.2.1∧(∀ q∈e.pairs.take i.1,(findC l q.1).isSome=true∧(findC l q.2).isSome=true)) (fun i=>e.pairs.length - i.1) (0,g,.slice none 0 0,.slice none 0 0)
  sB rfl rfl ⟨Nat.zero_le _,Le.refl _,fun q hq=>by simp at hq⟩ ?_
 rintro ⟨k,g1,wa,wg⟩ ⟨hk,hle1,hfd⟩;dsimp only at hk hle1 hfd ⊢;refine sQ (sW I (lU (fA aK I i7 I) (lK (qL (v:=.slice pq e.pairs.length pc) kY I (cO 4 I I)) (lU (eN i8 I) (lU (lS I I) (tZ ?_))))));refine iP I (fun hlt=>?_) (fun hlt=>?_)
 ·have hkl:k<e.pairs.length:=oM;have hb1:=SlA.based hpv oM;have hpv1:=SlA.mono hpv hle1;have hv1:=hv.mono hle1;have hgk:e.pairs[((k:Nat):Int).toNat]?=some e.pairs[k]:=gE hkl;have htk:e.pairs.take (k+1)=e.pairs.take k++[e.pairs[k]]:=tS hkl;have hal:=uH (e.pairs.take k);rw[List.length_take] at hal;have hgl:((e.pairs.take k).map Prod.snd).length≤k:=by rw[List.length_map,List.length_take]; omega
  have hnone:¬ ((findC l e.pairs[k].1).isSome=true∧(findC l e.pairs[k].2).isSome=true)→c4 l e=30:=fun h=>by
   unfold c4;rw[if_neg];intro h2;have h3:=List.all_eq_true.1 h2 _ (gM hkl);rw[Bool.and_eq_true] at h3;exact h h3
  have hal1:gW (e.pairs.take (k+1))=gW (e.pairs.take k)++[e.pairs[k].1,e.pairs[k].2]:=by rw[htk,m3]
  have hgo1:(e.pairs.take (k+1)).map Prod.snd=(e.pairs.take k).map Prod.snd++[e.pairs[k].2]:=by rw[htk,List.map_append]; rfl
  generalize e.pairs[k]=x at *;obtain ⟨x1,x2⟩:=x;dsimp only at hnone hal1 hgo1;cases hx1:(findC l x1).isSome with
  | false =>
   rw[hnone (by rw[hx1]; rintro ⟨h,_⟩; cases h)];refine kP (tN (sQ (bK (sQ (sQ ?_)))));refine dW [] [(0,1),(1,2),(2,1),(3,2),(4,2),(5,2),(6,1),(7,0),(8,2),(9,2),(10,1),(11,2),(12,1),(13,2),(14,2),(15,2),(16,1),(17,0),(18,2),(19,2)] Tryz.mixed kR ?_;refine pK I (qV 5 ar ag I I I) (pU I (fA aK I i7 I) (pK I (qL (v:=.slice pq e.pairs.length pc) kY I (cO 4 I I)) (pU I (mV I) (pU I (iA i8 iJ I I hb1 oM sL) (pU I (SU.indexAddrC gr zT3 I hb1 I dC dC) (pK I (aZ (e:=dB) (o:=0) (u:=vi x1) iT3 I (SlA.rd hpv1) hgk I) (SP.o I (cL call110 I (cU E g1 _ _ l x1 hv1 hf)) dC (.inr iR) ?_)))))));rintro _ g2 _ ⟨rfl,rfl,hle2⟩;rw[hx1];refine pU I (SU.not I) (pU I (mV I) (SP.off1 I (gZ I I I dC) dC (fP I (gZ I I I dC) dC (SP.off1 I (gZ I I I dC) dC (fP I (gZ I I I dC) dC (fP I (gZ I I I dC) dC (fP I (gZ I I I dC) dC (SP.off1 I (gZ I I I dC) dC (fO I (gZ I I I dC) dC ⟨by assumption,(by exact .refl _)⟩ ?_)))))))));refine fP I (gZ I I I dC) dC (pU I (wT I I) (pN (tN (SC.condT I (rZ (lK (qV 5 ar ag I I I) (lU (SU.build I buildZ46) (oZ (sK 3 ag I I I I I sB) ?_))))))));refine oZ (sK 2 bC I I I I I sB) ?_;refine aT I (rE (tR (bR (tR (tR (bR (tR ?_)))))));exact ST.retCCT 3 2 s (.inl I) results73 I I I ar ag fD bC I I I I uR ⟨I,hle1.trans hle2,_,_,_,_,I,hv1.mono hle2,fun h=>by cases h⟩
  | true =>
  cases hx2:(findC l x2).isSome with
  | false =>
   rw[hnone (by rw[hx2]; rintro ⟨_,h⟩; cases h)];refine kP (tN (sQ (bK (sQ (sQ ?_)))));refine dW [] [(0,1),(1,2),(2,1),(3,2),(4,2),(5,2),(6,1),(7,0),(8,2),(9,2),(10,1),(11,2),(12,1),(13,2),(14,2),(15,2),(16,1),(17,0),(18,2),(19,2)] Tryz.mixed kR ?_;refine pK I (qV 5 ar ag I I I) (pU I (fA aK I i7 I) (pK I (qL (v:=.slice pq e.pairs.length pc) kY I (cO 4 I I)) (pU I (mV I) (pU I (iA i8 iJ I I hb1 oM sL) (pU I (SU.indexAddrC gr zT3 I hb1 I dC dC) (pK I (aZ (e:=dB) (o:=0) (u:=vi x1) iT3 I (SlA.rd hpv1) hgk I) (SP.o I (cL call110 I (cU E g1 _ _ l x1 hv1 hf)) dC (.inr iR) ?_)))))));rintro _ g2 _ ⟨rfl,rfl,hle2⟩;rw[hx1];refine pU rfl (SU.not rfl) (pU rfl (mV rfl) (SP.gq rfl (gT rfl rfl rfl dC) (qV 5 ar ag rfl rfl rfl) dC (SP.gu rfl (gT rfl rfl rfl dC) (fA aK rfl i7 rfl) dC (SP.gq rfl (gT rfl rfl rfl dC) (qL (v:=.slice pq e.pairs.length pc) kY rfl (cO 4 rfl rfl)) dC (SP.gu rfl (gT rfl rfl rfl dC) (mV rfl) dC (SP.gu rfl (gT rfl rfl rfl dC) (iA i8 iJ rfl rfl hb1 oM sL) dC (SP.gu rfl (gT rfl rfl rfl dC) (SU.indexAddrC gr zT3 rfl hb1 rfl dC dC) dC (SP.gq rfl (gT rfl rfl rfl dC) (aZ (e:=dB) (o:=1) (u:=vi x2) iT3 rfl (SlA.rd hpv1) hgk rfl) dC (SP.go rfl (gT rfl rfl rfl dC) (cL call110 rfl (cU E _ _ _ l x2 (hv1.mono (by assumption)) hf)) dC (.inr (by rintro _ g3 _ ⟨rfl,rfl,hle3⟩; exact⟨by exact Le.trans (by assumption) (by assumption),(by exact .refl _)⟩)) ?_)))))))));rintro _ g3 _ ⟨rfl,rfl,hle3⟩;rw[hx2];have hle23:=hle2.trans hle3;refine SP.gu I (gT I I I dC) (SU.not I) dC (pU I (wF I I) (pN (tN (SC.condT I (rZ (lK (qV 5 ar ag I I I) (lU (SU.build I buildZ46) (oZ (sK 3 ag I I I I I sB) ?_))))))));refine oZ (sK 2 bC I I I I I sB) ?_;refine aT I (rE (tR (bR (tR (tR (bR (tR ?_)))))));exact ST.retCCT 3 2 s (.inl I) results73 I I I ar ag fD bC I I I I uR ⟨I,hle1.trans hle23,_,_,_,_,I,hv1.mono hle23,fun h=>by cases h⟩
  | true =>
  refine kP (tN (sQ (bK (sQ (sQ ?_)))));refine dW [] [(0,1),(1,2),(2,1),(3,2),(4,2),(5,2),(6,1),(7,0),(8,2),(9,2),(10,1),(11,2),(12,1),(13,2),(14,2),(15,2),(16,1),(17,0),(18,2),(19,2)] Tryz.mixed kR ?_;refine pK I (qV 5 ar ag I I I) (pU I (fA aK I i7 I) (pK I (qL (v:=.slice pq e.pairs.length pc) kY I (cO 4 I I)) (pU I (mV I) (pU I (iA i8 iJ I I hb1 oM sL) (pU I (SU.indexAddrC gr zT3 I hb1 I dC dC) (pK I (aZ (e:=dB) (o:=0) (u:=vi x1) iT3 I (SlA.rd hpv1) hgk I) (SP.o I (cL call110 I (cU E g1 _ _ l x1 hv1 hf)) dC (.inr iR) ?_)))))));rintro _ g2 _ ⟨rfl,rfl,hle2⟩;rw[hx1];refine pU rfl (SU.not rfl) (pU rfl (mV rfl) (SP.gq rfl (gT rfl rfl rfl dC) (qV 5 ar ag rfl rfl rfl) dC (SP.gu rfl (gT rfl rfl rfl dC) (fA aK rfl i7 rfl) dC (SP.gq rfl (gT rfl rfl rfl dC) (qL (v:=.slice pq e.pairs.length pc) kY rfl (cO 4 rfl rfl)) dC (SP.gu rfl (gT rfl rfl rfl dC) (mV rfl) dC (SP.gu rfl (gT rfl rfl rfl dC) (iA i8 iJ rfl rfl hb1 oM sL) dC (SP.gu rfl (gT rfl rfl rfl dC) (SU.indexAddrC gr zT3 rfl hb1 rfl dC dC) dC (SP.gq rfl (gT rfl rfl rfl dC) (aZ (e:=dB) (o:=1) (u:=vi x2) iT3 rfl (SlA.rd hpv1) hgk rfl) dC (SP.go rfl (gT rfl rfl rfl dC) (cL call110 rfl (cU E _ _ _ l x2 (hv1.mono (by assumption)) hf)) dC (.inr (by rintro _ g3 _ ⟨rfl,rfl,hle3⟩; exact⟨by exact Le.trans (by assumption) (by assumption),(by exact .refl _)⟩)) ?_)))))))));rintro _ g3 _ ⟨rfl,rfl,hle3⟩;rw[hx2];have hle23:=hle2.trans hle3;have hpv3:=SlA.mono hpv1 hle23;refine SP.gu I (gT I I I dC) (SU.not I) dC (pU I (wF I I) (pN (tN (SC.condF I (kP (tN (sQ ?_)))))));refine dW [14] [(0,2),(1,2),(2,1),(3,2),(4,2),(5,2),(6,1),(7,2),(8,1),(9,2),(10,2),(11,2),(12,1),(13,0),(14,0),(15,2)] Tryz.mixed kR ?_;refine pU I (mV I) (pU I (fA aK I i7 I) (pK I (qL (v:=.slice pq e.pairs.length pc) kY I (cO 4 I I)) (pU I (mV I) (pU I (iA i8 iJ I I hb1 oM sL) (pU I (SU.indexAddrC gr zT3 I hb1 I dC dC) (pK I (aZ (e:=dB) (o:=0) (u:=vi x1) iT3 I (SlA.rd hpv3) hgk I) (pU I (fA aK I i7 I) (pK I (qL (v:=.slice pq e.pairs.length pc) kY I (cO 4 I I)) (pU I (mV I) (pU I (iA i8 iJ I I hb1 oM sL) (pU I (SU.indexAddrC gr zT3 I hb1 I dC dC) (pK I (aZ (e:=dB) (o:=1) (u:=vi x2) iT3 I (SlA.rd hpv3) hgk I) (SP.o I (bS sty83 I I I (ae sB) dC) dC (.inr iR) ?_)))))))))))));rintro _ _ _ ⟨b64,rfl,rfl,rfl⟩;refine SP.to (fun w hw=>At.litRow (e:=encInt) (l:=[x1,x2]) (n:=1) hw I I dC) ?_;refine SP.freezeRow fun g4 hle4 hs4=>?_;refine SP.o I (aQ (e:=encInt) (l:=gW (e.pairs.take k)) (m:=[x1,x2]) 0 sty83 I I I hs4 (by simp; omega) (by simp; omega)) dC (.inl dC) ?_;rintro wa' _ _ ⟨rfl,rfl⟩;refine pU I (aS I) (pN (tN ?_));have hpv4:=SlA.mono hpv3 hle4;refine rG (lM I (lU (fA aK I i7 I) (lK (qL (v:=.slice pq e.pairs.length pc) kY I (cO 4 I I)) (lM I (lU (iA i8 iJ I I hb1 oM sL) (lU (SU.indexAddrC gr zT3 I hb1 I dC dC) (lK (aZ (e:=dB) (o:=1) (u:=vi x2) iT3 I (SlA.rd hpv4) hgk I) (lW (bS sty83 I I I (ae ⟨I,trivial⟩) dC) ?_))))))));rintro _ _ _ ⟨b73,rfl,rfl,rfl⟩;refine lW (aP (e:=encInt) 1 x2 sty83 I I I I I oM oM) ?_;rintro wg' _ _ ⟨rfl,rfl⟩;refine lA I (nL (bN (tN (rG (lM I (lU (aD I I oM) (lA I (nL ?_))))))));exact gA (k+1,g4,wa',wg') sB rfl (by dsimp only; rw[hal1,hgo1]; rfl) ⟨by dsimp only; omega,hle1.trans (hle23.trans hle4),fun q hq=>by
   dsimp only at hq;rw[htk] at hq
   rcases List.mem_append.1 hq with hq | hq
   ·exact hfd q hq
   ·simp at hq; subst hq; exact⟨hx1,hx2⟩⟩ (by dsimp only; omega)
 ·have hkk:e.pairs.take k=e.pairs:=tL oM;rw[hkk] at hfd ⊢;have hfa:e.pairs.all (fun p=>(findC l p.1).isSome&&(findC l p.2).isSome)=true:=List.all_eq_true.2 fun p hp=>by
   obtain ⟨h1,h2⟩:=hfd p hp;rw[h1,h2];rfl
  have hcode:c4 l e=if ln e.pairs then 54 else if e.pairs.any (fun p=>decide (lq l p.1≠lq l p.2)) then 21 else if e.pairs.all (gO l e.pairs) then 0 else 33:=by unfold c4; rw[if_pos hfa]
  rw[hcode];have hal:=uH e.pairs;refine xI (tX (tX (bX (tN (sQ (sQ (fS fun g2 hle2 hsa=>?_)))))));refine fS fun g3 hle3 hsg=>?_;have hle23:=hle2.trans hle3;have hsa3:dJ g3 wa (gW e.pairs):=Sl.mono hsa hle3;obtain ⟨qa,da,rfl⟩:=SlA.form hsa3;have hsg3:dJ g3 wg (e.pairs.map Prod.snd):=hsg;obtain ⟨qg,dg,rfl⟩:=SlA.form hsg3;refine rG (aT I (bK ?_));have hle03:=hle1.trans hle23;have hv3:=hv.mono hle03;have hpv3:=SlA.mono hpv hle03;generalize hL:gW e.pairs=L at *;refine oP (ι:=Nat) (fun i=>[(2,pp b2 0),(3,pp b3 0),(4,pp b4 0),(5,pp b5 0),(7,.slice qa L.length da),(8,.slice qg (e.pairs.map Prod.snd).length dg),(10,vi i)]) (fun _=>g3)
   (fun _=>pt b5 (.cells #[.slice none 0 0,vb false] 46 (0,0))::pt b4 (.cells #[.slice none 0 0] 29 (0,0))::pt b3 (.cells (edV e (.slice sp e.sides.length sc) (.slice pq e.pairs.length pc)) 35 (0,0))::pt b2 (.cells #[.slice p l.length c] 29 (0,0))::s)
   (fun i=>i≤L.length∧∀ a (ha:a<i) (hl:a<L.length) b (hb:b<a),L[a]≠L[b]'oM) (fun i=>L.length - i) 0 sB rfl rfl ⟨Nat.zero_le _,fun a ha=>absurd ha oM⟩ ?_
  rintro i ⟨hi,hdf⟩;try dsimp only at hi hdf ⊢
  refine sQ (sW I (lM I (lU (eN aI I) (lU (lS I I) (tZ ?_)))));refine iP I (fun hlt2=>?_) (fun hlt2=>?_)
  ·have hil:i<L.length:=oM;have hbL:=SlA.based hsa3 oM;have hgi:L[((i:Nat):Int).toNat]?=some L[i]:=gE hil;refine kP (tN (sQ (bK (rZ (aT I (bK ?_))))));refine oP (ι:=Nat) (fun j=>[(2,pp b2 0),(3,pp b3 0),(4,pp b4 0),(5,pp b5 0),(7,.slice qa L.length da),(8,.slice qg (e.pairs.map Prod.snd).length dg),(10,vi i),(11,vi j)]) (fun _=>g3)
    (fun _=>pt b5 (.cells #[.slice none 0 0,vb false] 46 (0,0))::pt b4 (.cells #[.slice none 0 0] 29 (0,0))::pt b3 (.cells (edV e (.slice sp e.sides.length sc) (.slice pq e.pairs.length pc)) 35 (0,0))::pt b2 (.cells #[.slice p l.length c] 29 (0,0))::s)
    (fun j=>j≤i∧∀ b (hb:b<j) (hl:b<L.length),L[i]≠L[b]) (fun j=>i - j) 0 sB rfl rfl ⟨Nat.zero_le _,fun b hb=>absurd hb oM⟩ ?_
   rintro j ⟨hj,hdj⟩;try dsimp only at hj hdj ⊢
   refine sQ (sW I (lM I (lU (lS I I) (tZ ?_))));refine iP I (fun hlt3=>?_) (fun hlt3=>?_)
   ·have hjl:j<L.length:=oM;have hgj:L[((j:Nat):Int).toNat]?=some L[j]:=gE hjl;refine kP (tN (sQ (bK (sQ ?_))));refine dW [] [(0,2),(1,2),(2,2),(3,1),(4,2),(5,2),(6,2),(7,1),(8,2)] Tryz.mixed kR ?_;refine pU I (mV I) (pU I (mV I) (pU I (iA aI zT3 I I hbL oM sL) (pK I (eB iT3 I (SlA.rd hsa3) hgi I) (pU I (mV I) (pU I (mV I) (pU I (iA aI zT3 I I hbL oM sL) (pK I (eB iT3 I (SlA.rd hsa3) hgj I) (pU I (eQ I I) (pN (tN ?_))))))))));refine iP I (fun heq=>?_) (fun heq=>?_)
    ·have hdup:ln e.pairs=true:=by
      unfold ln;rw[hL];refine decide_eq_true fun hn=>?_;have h5:=(List.getElem_inj hn).1 heq;omega
     rw[if_pos hdup];refine rZ (lK (qV 3 ar ag I I I) (lU (SU.build I buildZ46) (oZ (sK 1 ag I I I I I sB) ?_)));refine oZ (sK 0 bC I I I I I sB) ?_;refine aT I (rE (bR (tR (tR (bR (bR (tR (tR (bR (tR ?_))))))))));exact ST.retCCT 1 0 s (.inl I) results73 I I I ar ag fD bC I I I I uR ⟨I,hle03,_,_,_,_,I,hv3,fun h=>by cases h⟩
    ·refine kP (bN (tN (rG (lM I (lU (aD I I oM) (lA I (nL ?_)))))));exact gA (j+1) sB I I ⟨oM,fun b hb hl=>by
      by_cases e9:b=j
      ·subst e9; exact heq
      ·exact hdj b oM hl⟩ oM
   ·refine xI (tX (tX (bX (bN (tN (rG (lM I (lU (aD I I oM) (lA I (nL ?_))))))))));exact gA (i+1) sB I I ⟨oM,fun a ha hl b hb=>by
     by_cases e9:a=i
     ·subst e9; exact hdj b oM oM
     ·exact hdf a oM hl b hb⟩ oM
  ·have hnd:L.Nodup:=zg fun a ha b hb=>hdf a oM ha b hb;have hdup:ln e.pairs=false:=by
    unfold ln;rw[hL];exact decide_eq_false fun h=>h hnd
   rw[hdup,if_neg Bool.false_ne_true];refine xI (tX (tX (bX (tN (rZ (aT I (sQ (rZ (aT I (bK ?_))))))))));refine oP (ι:=Nat×PH) (fun i=>[(2,pp b2 0),(3,pp b3 0),(4,pp b4 0),(5,pp b5 0),(8,.slice qg (e.pairs.map Prod.snd).length dg),(12,vi (if (e.pairs.take i.1).all (gO l e.pairs) then 0 else 33)),(13,vi i.1)]) (fun i=>i.2)
    (fun _=>pt b5 (.cells #[.slice none 0 0,vb false] 46 (0,0))::pt b4 (.cells #[.slice none 0 0] 29 (0,0))::pt b3 (.cells (edV e (.slice sp e.sides.length sc) (.slice pq e.pairs.length pc)) 35 (0,0))::pt b2 (.cells #[.slice p l.length c] 29 (0,0))::s)
    (fun i=>i.1≤e.pairs.length∧Le g3 i.2∧(e.pairs.take i.1).any (fun p=>decide (lq l p.1≠lq l p.2))=false) (fun i=>e.pairs.length - i.1) (0,g3) sB rfl rfl ⟨Nat.zero_le _,Le.refl _,rfl⟩ ?_
   rintro ⟨k3,g4⟩ ⟨hk3,hle4,hdm⟩;dsimp only at hk3 hle4 hdm ⊢;refine sQ (sW I (lU (fA aK I i7 I) (lK (qL (v:=.slice pq e.pairs.length pc) kY I (cO 2 I I)) (lU (eN i8 I) (lU (lS I I) (tZ ?_))))));refine iP I (fun hlt4=>?_) (fun hlt4=>?_)
   ·have hkl:k3<e.pairs.length:=oM;have hb1:=SlA.based hpv oM;have hpv4:=SlA.mono hpv3 hle4;have hv4:=hv3.mono hle4;have hgk:e.pairs[((k3:Nat):Int).toNat]?=some e.pairs[k3]:=gE hkl;have htk:e.pairs.take (k3+1)=e.pairs.take k3++[e.pairs[k3]]:=tS hkl;have hd21:lq l e.pairs[k3].1≠lq l e.pairs[k3].2→e.pairs.any (fun p=>decide (lq l p.1≠lq l p.2))=true:=fun h=>List.any_eq_true.2 ⟨_,gM hkl,decide_eq_true h⟩;have hdm1:lq l e.pairs[k3].1=lq l e.pairs[k3].2→(e.pairs.take (k3+1)).any (fun p=>decide (lq l p.1≠lq l p.2))=false:=fun h=>by
     rw[htk,List.any_append,hdm,Bool.false_or];simp[h]
    have hak1:(e.pairs.take (k3+1)).all (gO l e.pairs)=((e.pairs.take k3).all (gO l e.pairs)&&gO l e.pairs e.pairs[k3]):=by
     rw[htk,List.all_append];simp
    have hl1:=hfs e.pairs[k3].1;have hl2:=hfs e.pairs[k3].2;generalize e.pairs[k3]=x at *;obtain ⟨x1,x2⟩:=x;dsimp only at hd21 hdm1 hl1 hl2;have hal12:gO l e.pairs (x1,x2)=decide (gU ((il l x1).map (dQ (byF e.pairs)))=gU ((il l x2).map (dQ (byF e.pairs)))):=rfl;generalize gO l e.pairs (x1,x2)=al at *;refine kP (tN (sQ (bK ?_)));refine SC.cut (ι:=Nat×PH×Rc) (fun i=>[(2,pp b2 0),(3,pp b3 0),(4,pp b4 0),(5,pp b5 0),(8,.slice qg (e.pairs.map Prod.snd).length dg),(12,vi (if (e.pairs.take k3).all (gO l e.pairs) then 0 else 33)),(13,vi k3),(14,pp i.1 0)]) (fun i=>i.2.1)
     (fun i=>pt i.1 (.cells #[vi i.2.2.id,vi i.2.2.dim,.slice i.2.2.sv.p i.2.2.sv.n i.2.2.sv.c] 53 (0,0))::pt b5 (.cells #[.slice none 0 0,vb false] 46 (0,0))::pt b4 (.cells #[.slice none 0 0] 29 (0,0))::pt b3 (.cells (edV e (.slice sp e.sides.length sc) (.slice pq e.pairs.length pc)) 35 (0,0))::pt b2 (.cells #[.slice p l.length c] 29 (0,0))::s)
     (fun i=>Le g4 i.2.1∧aw i.2.1 ((findC l x1).getD bA) i.2.2) ?_ ?_
    ·refine SC.drawX [12] Tryz.mixed kR ?_;refine SX.q (i:=0) I kR (qV 3 ar ag I I I) dC (SX.u (i:=1) I kR (fA aK I i7 I) dC (SX.q (i:=2) I kR (qL (v:=.slice pq e.pairs.length pc) kY I (cO 2 I I)) dC (SX.u (i:=3) I kR (mV I) dC (SX.u (i:=4) I kR (iA i8 iJ I I hb1 oM sL) dC (SX.u (i:=5) I kR (SU.indexAddrC gr zT3 I hb1 I dC dC) dC (SX.q (i:=6) I kR (aZ (e:=dB) (o:=0) (u:=vi x1) iT3 I (SlA.rd hpv4) hgk I) dC ?_))))))
     repeat' (first
      | (refine SB.o (i:=7) rfl (cL call41 rfl (bo E g4 _ _ l x1 hv4 hf)) dC (.inr (by rintro _ g5 _ ⟨rfl,hle5,r5,rfl,hcr5⟩; exact⟨by assumption,(by exact .cons _ (.refl _))⟩)) ?_; rintro _ g5 _ ⟨rfl,hle5,r5,rfl,hcr5⟩; refine SX.u (i:=8) rfl kD (mV rfl) dC ?_; refine SX.u (i:=9) rfl kD (xT rfl rfl) dC ?_; refine SX.u (i:=10) rfl kD (xT rfl rfl) dC ?_)
      | (refine SB.o (i:=7) rfl (cL call41 rfl (bo E g4 _ _ l x1 hv4 hf)) dC (.inr (by rintro _ g5 _ ⟨rfl,hle5,r5,rfl,hcr5⟩; exact⟨by assumption,(by exact .refl _)⟩)) ?_; rintro _ g5 _ ⟨rfl,hle5,r5,rfl,hcr5⟩; refine SX.u (i:=8) rfl kD (mV rfl) dC ?_; refine SX.u (i:=9) rfl kD (xT rfl rfl) dC ?_; refine SX.u (i:=10) rfl kD (xT rfl rfl) dC ?_)
      | (refine SB.o (i:=11) rfl (aL zeroValue53) dC (.inr (by rintro _ _ _ ⟨b14,rfl,rfl,rfl⟩; exact⟨by exact Le.refl _,(by exact .cons _ (.refl _))⟩)) ?_; rintro _ _ _ ⟨b14,rfl,rfl,rfl⟩)
      | (refine SB.o (i:=11) rfl (aL zeroValue53) dC (.inr (by rintro _ _ _ ⟨b14,rfl,rfl,rfl⟩; exact⟨by assumption,(by exact .cons _ (.refl _))⟩)) ?_; rintro _ _ _ ⟨b14,rfl,rfl,rfl⟩)
      | (refine SB.on (i:=12) rfl (sK 0 au rfl rfl rfl rfl rfl sB) (.inl dC) ?_; rintro _ _ _ ⟨rfl,rfl⟩; refine SX.u (i:=13) rfl kD (aS rfl) dC ?_)
      | refine SX.br2 7 11 kD ?_ ?_
      | refine SX.br1 11 kD ?_
      | refine SX.br1 12 kD ?_
      | refine SX.br1 7 kD ?_
      | (refine SX.nil kD ?_; exact ST.mid (b14,g5,r5) sB rfl rfl ⟨hle5,hcr5⟩))
    rintro ⟨b14,g5,r5⟩ ⟨hle5,hcr5⟩;obtain ⟨ri1,rd1,rp1,rn1,rk1⟩:=r5;obtain ⟨f1,f2,hs1⟩:=hcr5;dsimp only at hle5 f1 f2 hs1 ⊢;have hv5:=hv4.mono hle5;have hpv5:=SlA.mono hpv4 hle5;refine SC.cut (ι:=Nat×PH×Rc) (fun i=>[(2,pp b2 0),(3,pp b3 0),(4,pp b4 0),(5,pp b5 0),(8,.slice qg (e.pairs.map Prod.snd).length dg),(12,vi (if (e.pairs.take k3).all (gO l e.pairs) then 0 else 33)),(13,vi k3),(14,pp b14 0),(16,pp i.1 0)]) (fun i=>i.2.1)
     (fun i=>pt i.1 (.cells #[vi i.2.2.id,vi i.2.2.dim,.slice i.2.2.sv.p i.2.2.sv.n i.2.2.sv.c] 53 (0,0))::pt b14 (.cells #[vi ri1,vi rd1,.slice rp1 rn1 rk1] 53 (0,0))::pt b5 (.cells #[.slice none 0 0,vb false] 46 (0,0))::pt b4 (.cells #[.slice none 0 0] 29 (0,0))::pt b3 (.cells (edV e (.slice sp e.sides.length sc) (.slice pq e.pairs.length pc)) 35 (0,0))::pt b2 (.cells #[.slice p l.length c] 29 (0,0))::s)
     (fun i=>Le g5 i.2.1∧aw i.2.1 ((findC l x2).getD bA) i.2.2) ?_ ?_
    ·refine SC.drawX [12] Tryz.mixed kR ?_;refine SX.q (i:=0) I kR (qV 4 ar ag I I I) dC (SX.u (i:=1) I kR (fA aK I i7 I) dC (SX.q (i:=2) I kR (qL (v:=.slice pq e.pairs.length pc) kY I (cO 3 I I)) dC (SX.u (i:=3) I kR (mV I) dC (SX.u (i:=4) I kR (iA i8 iJ I I hb1 oM sL) dC (SX.u (i:=5) I kR (SU.indexAddrC gr zT3 I hb1 I dC dC) dC (SX.q (i:=6) I kR (aZ (e:=dB) (o:=1) (u:=vi x2) iT3 I (SlA.rd hpv5) hgk I) dC ?_))))))
     repeat' (first
      | (refine SB.o (i:=7) rfl (cL call41 rfl (bo E g5 _ _ l x2 hv5 hf)) dC (.inr (by rintro _ g6 _ ⟨rfl,hle6,r6,rfl,hcr6⟩; exact⟨by assumption,(by exact .cons _ (.refl _))⟩)) ?_; rintro _ g6 _ ⟨rfl,hle6,r6,rfl,hcr6⟩; refine SX.u (i:=8) rfl kD (mV rfl) dC ?_; refine SX.u (i:=9) rfl kD (xT rfl rfl) dC ?_; refine SX.u (i:=10) rfl kD (xT rfl rfl) dC ?_)
      | (refine SB.o (i:=7) rfl (cL call41 rfl (bo E g5 _ _ l x2 hv5 hf)) dC (.inr (by rintro _ g6 _ ⟨rfl,hle6,r6,rfl,hcr6⟩; exact⟨by assumption,(by exact .refl _)⟩)) ?_; rintro _ g6 _ ⟨rfl,hle6,r6,rfl,hcr6⟩; refine SX.u (i:=8) rfl kD (mV rfl) dC ?_; refine SX.u (i:=9) rfl kD (xT rfl rfl) dC ?_; refine SX.u (i:=10) rfl kD (xT rfl rfl) dC ?_)
      | (refine SB.o (i:=11) rfl (aL zeroValue53) dC (.inr (by rintro _ _ _ ⟨b16,rfl,rfl,rfl⟩; exact⟨by exact Le.refl _,(by exact .cons _ (.refl _))⟩)) ?_; rintro _ _ _ ⟨b16,rfl,rfl,rfl⟩)
      | (refine SB.o (i:=11) rfl (aL zeroValue53) dC (.inr (by rintro _ _ _ ⟨b16,rfl,rfl,rfl⟩; exact⟨by assumption,(by exact .cons _ (.refl _))⟩)) ?_; rintro _ _ _ ⟨b16,rfl,rfl,rfl⟩)
      | (refine SB.on (i:=12) rfl (sK 0 au rfl rfl rfl rfl rfl sB) (.inl dC) ?_; rintro _ _ _ ⟨rfl,rfl⟩; refine SX.u (i:=13) rfl kD (aS rfl) dC ?_)
      | refine SX.br2 7 11 kD ?_ ?_
      | refine SX.br1 11 kD ?_
      | refine SX.br1 12 kD ?_
      | refine SX.br1 7 kD ?_
      | (refine SX.nil kD ?_; exact ST.mid (b16,g6,r6) sB rfl rfl ⟨hle6,hcr6⟩))
    rintro ⟨b16,g6,r6⟩ ⟨hle6,hcr6⟩;obtain ⟨ri2,rd2,rp2,rn2,rk2⟩:=r6;obtain ⟨f3,f4,hs2⟩:=hcr6;dsimp only at hle6 f3 f4 hs2 ⊢;have hd1:lq l x1=rd1:=by unfold lq; rw[f2]
    have hd2:lq l x2=rd2:=by unfold lq; rw[f4]
    rw[hd1,hd2] at hd21 hdm1;have hs1':SlA encSide g6 (.slice rp1 rn1 rk1) (il l x1):=SlA.mono hs1 hle6;have hs2':SlA encSide g6 (.slice rp2 rn2 rk2) (il l x2):=hs2;have hpv6:=SlA.mono hpv5 hle6;have hle46:=hle5.trans hle6;refine sQ (rZ (lU (fA aq I zT3 I) (lK (qL (v:=vi rd1) iT3 I (cO 1 I I)) (lU (fA aq I zT3 I) (lK (qL (v:=vi rd2) iT3 I (cO 0 I I)) (lU (nQ I I) (tZ ?_)))))));refine iP I (fun hdd=>?_) (fun hdd=>?_)
    ·rw[if_pos (hd21 hdd)];refine rZ (lK (qV 5 ar ag I I I) (lU (SU.build I buildZ46) (oZ (sK 3 ag I I I I I sB) ?_)));refine oZ (sK 2 bC I I I I I sB) ?_;refine aT I (rE (tR (bR (tR (tR (bR (tR ?_)))))));exact ST.retCCT 3 2 s (.inl I) results73 I I I ar ag fD bC I I I I uR ⟨I,hle03.trans (hle4.trans hle46),_,_,_,_,I,hv4.mono hle46,fun h=>by cases h⟩
    ·have hdd2:=hdm1 (Decidable.not_not.1 hdd);have hpl2:e.pairs.length<1099511627776:=oM;refine kP (tN (sQ ?_));refine dW [] [(0,2),(1,1),(2,2),(3,1),(5,2),(6,1),(7,2),(8,1),(4,0),(9,0),(10,0),(11,2)] Tryz.mixed kR ?_;refine pU I (fA aq I aU I) (pK I (qL (v:=.slice rp1 rn1 rk1) bw I (cO 1 I I)) (pU I (fA aK I i7 I) (pK I (qL (v:=.slice pq e.pairs.length pc) kY I (cO 4 I I)) (pU I (fA aq I aU I) (pK I (qL (v:=.slice rp2 rn2 rk2) bw I (cO 0 I I)) (pU I (fA aK I i7 I) (pK I (qL (v:=.slice pq e.pairs.length pc) kY I (cO 4 I I)) (SP.o I (cL call115 I (fY E g6 _ _ _ (il l x1) e.pairs hs1' hl1 hpv6 hpl2)) dC (.inr iR) ?_))))))));rintro v137 g7 _ ⟨rfl,hle7,hr7⟩;refine SP.o rfl (cL call115 rfl (fY E g7 _ _ _ (il l x2) e.pairs (SlA.mono hs2' hle7) hl2 (SlA.mono hpv6 hle7) hpl2)) dC (.inr (by rintro v142 g8 _ ⟨rfl,hle8,hr8⟩; exact⟨by exact Le.trans (by assumption) (by assumption),(by exact .refl _)⟩)) ?_;rintro v142 g8 _ ⟨rfl,hle8,hr8⟩;have hle68:=hle7.trans hle8;refine SP.o I (cL call76 I (jN E g8 _ _ _ _ _ (SlA.mono hr7 hle8) hr8 (by rw[List.length_map]; exact hl1) (by rw[List.length_map]; exact hl2))) dC (.inr iR) ?_;rintro _ _ _ ⟨rfl,rfl,rfl⟩;rw[← hal12];refine pU I (SU.not I) (pN (tN ?_));refine iQ I (fun hq=>?_) (fun hq=>?_)
     ·have hq2:al=false:=by simpa using hq
      rw[hq2,Bool.and_false] at hak1;refine rG (lA I (nL (bN (tN (rG (lM I (lU (aD I I oM) (lA I (nL (dR (.cons _ (.cons _ (.refl _))) ?_))))))))));exact gA (k3+1,g8) ⟨rfl,rfl,rfl,rfl,rfl,(by rw[hak1]; rfl),rfl,trivial⟩ rfl rfl ⟨by dsimp only; omega,hle4.trans (hle46.trans hle68),hdd2⟩ (by dsimp only; omega)
     ·have hq2:al=true:=by simpa using hq
      rw[hq2,Bool.and_true] at hak1;refine kP (bN (tN (rG (lM I (lU (aD I I oM) (lA I (nL (dR (.cons _ (.cons _ (.refl _))) ?_))))))));exact gA (k3+1,g8) ⟨rfl,rfl,rfl,rfl,rfl,(by rw[hak1]; rfl),rfl,trivial⟩ rfl rfl ⟨by dsimp only; omega,hle4.trans (hle46.trans hle68),hdd2⟩ (by dsimp only; omega)
   ·have hkk3:e.pairs.take k3=e.pairs:=tL oM;rw[hkk3] at hdm ⊢;rw[hdm,if_neg Bool.false_ne_true];have hv4:=hv3.mono hle4;have hle04:=hle03.trans hle4;cases hall:e.pairs.all (gO l e.pairs) with
    | false =>
     have e33:(if false=true then (0:Int) else 33)=33:=rfl;rw[e33];refine xI (tX (tX (bX (tN (sQ (sW I (lU (nQ I I) (tZ (SC.condT I (rZ (lK (qV 3 ar ag I I I) (lU (SU.build I buildZ46) (lM I (oZ (sK 1 ag I I I I I sB) ?_))))))))))))));refine oZ (sK 0 bC I I I I I sB) ?_;refine aT I (rE (tR ?_));exact ST.retCCT 1 0 s (.inl I) results73 I I I ar ag fD bC I I I I uR ⟨I,hle04,_,_,_,_,I,hv4,fun h=>by cases h⟩
    | true =>
    have e00:(if true=true then (0:Int) else 33)=0:=rfl;rw[e00,if_pos rfl];have hkl3:(e.pairs.map Prod.snd).length<1099511627776:=by rw[List.length_map]; omega
    have hpl2:e.pairs.length<1099511627776:=oM;have hpv4:=SlA.mono hpv3 hle4;have hsg4:dJ g4 (.slice qg (e.pairs.map Prod.snd).length dg) (e.pairs.map Prod.snd):=SlA.mono hsg3 hle4;have hRf:=fj hf (e.pairs.map Prod.snd);have hRs:∀ x∈dj l (e.pairs.map Prod.snd),x.sides.length<1099511627776:=fun x hx=>hRf.2 x hx;have hIl:((am l).map fN).length<1099511627776:=by rw[List.length_map]; exact (bJ hf).1
    have hRo:fo l e=(dj l (e.pairs.map Prod.snd)).map (yD (byF e.pairs)):=rfl;rw[hRo];generalize hRR:dj l (e.pairs.map Prod.snd)=R at *;refine xI (tX (tX (bX (tN (sQ (sW I (lU (nQ I I) (tZ (SC.condF I (kP (tN (rZ (lK (qV 3 ar ag I I I) (lM I (lW (cL call112 I (jV E g4 _ _ _ l (e.pairs.map Prod.snd) hv4 hf hsg4 hkl3)) ?_)))))))))))))));rintro _ _ _ ⟨rfl,u5,rs5,rfl,hall5,rfl⟩;rw[hRR] at hall5;refine SL.facts fun ⟨w0,hw0⟩=>?_;obtain ⟨q5,d5,rfl⟩:=ah (i:=0) hw0 rfl;have hbq:0<rs5.length→based (.slice q5 rs5.length d5)=true:=fun h=>(by obtain ⟨b0,c0,he⟩:=aV (i:=0) hw0 rfl h; rw[he]; rfl);clear hw0 w0;refine bW (aL zeroValue29) fun b18=>?_;refine oZ (sK 0 ag I I I I I sB) ?_;refine tZ (sQ (rZ (aT I (bK ?_))));have hlr5:=hall5.length;have hRl:=hRf.1;refine oP (ι:=Nat×PH×List Rc) (fun i=>[(2,pp b2 0),(3,pp b3 0),(4,pp b4 0),(5,pp b5 0),(18,pp b18 0),(19,vi i.1)]) (fun i=>i.2.1)
     (fun i=>pt b18 (.cells #[.slice q5 rs5.length d5] 29 (0,0))::rowA encCell 53 (.slice q5 rs5.length d5) i.2.2::pt b5 (.cells #[.slice none 0 0,vb false] 46 (0,0))::pt b4 (.cells #[.slice none 0 0] 29 (0,0))::pt b3 (.cells (edV e (.slice sp e.sides.length sc) (.slice pq e.pairs.length pc)) 35 (0,0))::pt b2 (.cells #[.slice p l.length c] 29 (0,0))::s)
     (fun i=>i.1≤R.length∧Le g4 i.2.1∧aC (aw i.2.1) ((R.take i.1).map (yD (byF e.pairs))++R.drop i.1) i.2.2) (fun i=>R.length - i.1) (0,g4,rs5) sB rfl rfl ⟨Nat.zero_le _,Le.refl _,hall5⟩ ?_
    rintro ⟨k5,g5,ds⟩ ⟨hk5,hle5,hds⟩;dsimp only at hk5 hle5 hds ⊢;have hdl:=hds.length;rw[List.length_append,List.length_map,List.length_take,List.length_drop] at hdl;refine sQ (sW I (lU (fA c8 I cj I) (lK (qL (v:=.slice q5 rs5.length d5) dS I (cO 0 I I)) (lU (eN aH I) (lU (lS I I) (tZ ?_))))));refine iP I (fun hlt5=>?_) (fun hlt5=>?_)
    ·have hkR:k5<R.length:=oM;have hkd:k5<ds.length:=oM;have hb5:=hbq oM;have hgx:ds[((k5:Nat):Int).toNat]?=some ds[k5]:=gE hkd;have hcr:=hds.get (AZ (yD (byF e.pairs)) hkR) (gE hkd);have hnx:=zk (yD (byF e.pairs)) hkR;have hxs:=hRs _ (gM hkR);have hpv5:=SlA.mono hpv4 hle5;generalize ds[k5]=x at *;generalize R[k5]=cx at *;obtain ⟨xi,xd,xp,xn,xc⟩:=x;obtain ⟨e1,e2,hxsl⟩:=hcr;dsimp only at e1 e2 hxsl;subst e1 e2;refine kP (tN (sQ (bK ?_)));refine dW [14] [(0,2),(1,1),(2,2),(3,2),(4,1),(5,2),(6,2),(7,2),(8,1),(9,2),(10,1),(11,0),(12,2),(13,2),(14,0)] Tryz.mixed kR ?_;refine pU I (fA c8 I cj I) (pK I (qL (v:=.slice q5 rs5.length d5) dS I (cO 0 I I)) (pU I (mV I) (pU I (fA c8 I cj I) (pK I (qL (v:=.slice q5 rs5.length d5) dS I (cO 0 I I)) (pU I (mV I) (pU I (iA aH au I I hb5 oM sL) (pU I (fC aq I aU I hb5) (pK I (aZ (e:=encCell) (o:=2) bw I (Rd.rowA 1 I) hgx I) (pU I (fA aK I i7 I) (pK I (qL (v:=.slice pq e.pairs.length pc) kY I (cO 4 I I)) (SP.o I (cL call115 I (fY E g5 _ _ _ cx.sides e.pairs hxsl hxs hpv5 hpl2)) dC (.inr iR) ?_)))))))))));rintro v171 g6 _ ⟨rfl,hle6,hr6⟩;obtain ⟨q6,d6,rfl⟩:=SlA.form hr6;refine pU I (iA aH au I I hb5 oM sL) (pU I (fC aq I aU I hb5) (SP.on I (SO.partA (e:=encCell) (a:=(⟨cx.id,cx.dim,⟨xp,xn,xc⟩⟩:Rc)) (j:=((k5:Nat):Int).toNat) (o:=2) 1 ⟨cx.id,cx.dim,⟨q6,(cx.sides.map (dQ (byF e.pairs))).length,d6⟩⟩ aU I I I hgx I I dC I) (.inl dC) ?_));rintro _ _ _ ⟨rfl,rfl⟩;refine pN (bN (tN (rG (lM I (lU (aD I I oM) (lA I (nL ?_)))))));exact gA (k5+1,g6,ds.set k5 ⟨cx.id,cx.dim,⟨q6,(cx.sides.map (dQ (byF e.pairs))).length,d6⟩⟩) sB I I ⟨by dsimp only; omega,hle5.trans hle6,by
      dsimp only;rw[hnx];exact aC.set (R:=aw g6) (a:=yD (byF e.pairs) cx) ⟨I,I,hr6⟩ k5 (hds.mono fun _ _=>aw.mono hle6)⟩ (by dsimp only; omega)
    ·have hkk5:R.take k5=R:=tL oM;have hkd5:R.drop k5=[]:=List.drop_eq_nil_of_le oM;rw[hkk5,hkd5,List.append_nil] at hds;have hdl2:ds.length=rs5.length:=oM;rw[← hdl2];refine xI (tX (tX (bX (tN (sQ (cP (List.Perm.swap _ _ _) (fS fun g6 hle6 hs6=>?_)))))));have hc6:ao g6 (.slice q5 ds.length d5) (R.map (yD (byF e.pairs))):=⟨ds,hs6,hds.mono fun _ _=>aw.mono hle6⟩;have hle56:=hle5.trans hle6;have hv6:=hv4.mono hle56;refine rG (lK (qV 4 ar ag I I I) (lW (cL call111 I (fp E g6 _ _ l hv6 hf)) ?_));rintro _ g7 _ ⟨rfl,hle7,iv,rfl,him7⟩;obtain ⟨q7,n7,d7,rfl⟩:=him7.form;refine bW (aL zeroValue44) fun b20=>?_;refine oZ (sK 0 j9 I I I I I sB) ?_;refine tZ (sQ (rZ (aT I (bK ?_))));have hle67:=hle56.trans hle7;have hpv7:=SlA.mono hpv4 hle67;have hc7:=hc6.mono hle7;refine oP (ι:=Nat×PH×Option Addr×Nat×Nat) (fun i=>[(2,pp b2 0),(3,pp b3 0),(4,pp b4 0),(5,pp b5 0),(18,pp b18 0),(20,pp b20 0),(21,vi i.1)]) (fun i=>i.2.1)
      (fun i=>pt b20 (.cells #[.slice i.2.2.1 i.2.2.2.1 i.2.2.2.2] 44 (0,0))::pt b18 (.cells #[.slice q5 ds.length d5] 29 (0,0))::pt b5 (.cells #[.slice none 0 0,vb false] 46 (0,0))::pt b4 (.cells #[.slice none 0 0] 29 (0,0))::pt b3 (.cells (edV e (.slice sp e.sides.length sc) (.slice pq e.pairs.length pc)) 35 (0,0))::pt b2 (.cells #[.slice p l.length c] 29 (0,0))::s)
      (fun i=>i.1≤e.pairs.length∧Le g7 i.2.1∧Ims i.2.1 (.slice i.2.2.1 i.2.2.2.1 i.2.2.2.2) (eZ (e.pairs.take i.1) ((am l).map fN))) (fun i=>e.pairs.length - i.1) (0,g7,q7,n7,d7) sB rfl rfl ⟨Nat.zero_le _,Le.refl _,him7⟩ ?_
     rintro ⟨k8,g8,q8,n8,d8⟩ ⟨hk8,hle8,him8⟩;dsimp only at hk8 hle8 him8 ⊢;refine sQ (sW I (lU (fA aK I i7 I) (lK (qL (v:=.slice pq e.pairs.length pc) kY I (cO 4 I I)) (lU (eN i8 I) (lU (lS I I) (tZ ?_))))));refine iP I (fun hlt8=>?_) (fun hlt8=>?_)
     ·have hkl:k8<e.pairs.length:=oM;have hb1:=SlA.based hpv oM;have hpv8:=SlA.mono hpv7 hle8;have hgk:e.pairs[((k8:Nat):Int).toNat]?=some e.pairs[k8]:=gE hkl;have hsn:=rP hkl ((am l).map fN);generalize e.pairs[k8]=x at *;obtain ⟨x1,x2⟩:=x;dsimp only at hsn;refine kP (tN (sQ (bK ?_)));refine dW [16] [(0,1),(1,2),(2,1),(3,2),(4,2),(5,2),(6,1),(7,2),(8,1),(9,2),(10,2),(11,2),(12,1),(13,0),(14,0),(15,0),(16,0)] Tryz.mixed kR ?_;refine pK I (qV 0 isAgg44 j9 I I I) (pU I (fA aK I i7 I) (pK I (qL (v:=.slice pq e.pairs.length pc) kY I (cO 4 I I)) (pU I (mV I) (pU I (iA i8 iJ I I hb1 oM sL) (pU I (SU.indexAddrC gr zT3 I hb1 I dC dC) (pK I (aZ (e:=dB) (o:=1) (u:=vi x2) iT3 I (SlA.rd hpv8) hgk I) (pU I (fA aK I i7 I) (pK I (qL (v:=.slice pq e.pairs.length pc) kY I (cO 4 I I)) (pU I (mV I) (pU I (iA i8 iJ I I hb1 oM sL) (pU I (SU.indexAddrC gr zT3 I hb1 I dC dC) (pK I (aZ (e:=dB) (o:=0) (u:=vi x1) iT3 I (SlA.rd hpv8) hgk I) (SP.o I (cL call113 I (dT E g8 _ x1 1 dC dC)) dC (.inr iR) ?_)))))))))))));rintro _ g9 _ ⟨rfl,rfl,hle9⟩;refine SP.o I (bS sty72 I I I (ae ⟨I,trivial⟩) dC) dC (.inr iR) ?_;rintro _ _ _ ⟨b197,rfl,rfl,rfl⟩;refine SP.freeze fun g10 hle10 hb10=>?_;have hch:SlA bV g10 (.slice (some ⟨b197,0,none⟩) 1 1) [(x1,1)]:=SlA.lit hb10 rfl rfl;have hle810:=hle9.trans hle10;refine SP.o rfl (cL call114 rfl (ig E g10 _ _ _ _ x2 _ (him8.mono hle810) (by rw[s9]; exact hIl) hch)) dC (.inr (by rintro _ g11 _ ⟨rfl,hle11,u11,rfl,him11⟩; exact⟨by exact Le.trans (by assumption) (by assumption),(by exact .refl _)⟩)) ?_;rintro _ g11 _ ⟨rfl,hle11,u11,rfl,him11⟩;obtain ⟨q11,n11,d11,rfl⟩:=him11.form;refine SP.on I (sK 0 j9 I I I I I sB) (.inl dC) ?_;rintro _ _ _ ⟨rfl,rfl⟩;refine pN (bN (tN (rG (lM I (lU (aD I I oM) (lA I (nL ?_)))))));exact gA (k8+1,g11,q11,n11,d11) sB I I ⟨by dsimp only; omega,hle8.trans (hle810.trans hle11),by dsimp only; rw[hsn]; exact him11⟩ (by dsimp only; omega)
     ·have hkk8:e.pairs.take k8=e.pairs:=tL oM;rw[hkk8] at him8;have hc8:=hc7.mono hle8;refine xI (tX (tX (bX (tN (sQ ?_)))));refine SC.drawX [3,4] Tryz.mixed kR ?_;refine SX.q (i:=0) I kR (qV 1 ar ag I I I) dC ?_
      repeat' (first
       | (refine SB.o (i:=1) rfl (SQ.sof (qV 0 isAgg44 j9 rfl rfl rfl)) dC (.inr (by rintro _ _ _ ⟨rfl,rfl,rfl⟩; exact⟨by exact Le.refl _,(by exact .refl _)⟩)) ?_; rintro _ _ _ ⟨rfl,rfl,rfl⟩; refine SX.u (i:=2) rfl kD (SU.build rfl (buildS46 _ _ _)) dC ?_)
       | (refine SB.ob (i:=1) rfl (SQ.sof (qV 0 isAgg44 j9 rfl rfl rfl)) dC kD ?_; rintro _ _ _ ⟨rfl,rfl,rfl⟩; refine SX.u (i:=2) rfl kD (SU.build rfl (buildS46 _ _ _)) dC ?_)
       | (refine SB.on (i:=3) rfl (sK 3 ag rfl rfl rfl rfl rfl sB) (.inl dC) ?_; rintro _ _ _ ⟨rfl,rfl⟩)
       | (refine SB.on (i:=4) rfl (sK 2 bC rfl rfl rfl rfl rfl sB) (.inl dC) ?_; rintro _ _ _ ⟨rfl,rfl⟩; refine SX.u (i:=5) rfl kD (aS rfl) dC ?_)
       | refine SX.br2 1 3 kD ?_ ?_
       | refine SX.br1 3 kD ?_
       | refine SX.br1 4 kD ?_
       | refine SX.br1 1 kD ?_
       | (refine SX.nil kD ?_; refine tN ?_; refine rE ?_; exact ST.retCCT 3 2 s (.inl rfl) results73 rfl rfl rfl ar ag fD bC rfl rfl rfl rfl uR ⟨rfl,hle04.trans (hle67.trans hle8),_,_,_,_,rfl,hc8,fun _=>him8⟩))
def jk (fv:Value)(e:Ed)(A:List Cl)(code:Int)(B:List Cl)(img:Int→List Tm)(bk:Bool):Prop :=
 ∀ (E:World) (g:PH) (s:Own) (bx mb ms:Nat) (u v:Value) (rs:List Rc),ao g u A→aC jJ A rs→EdR g v e →
  dn Tryz.prog E fv [pp bx 0,v] g (edP bx u mb ms false::mp mb (rs.map ak)::mp ms []::(f5 A rs++s)) (fun r g' s'=>Le g g'∧r=vi code∧(if code=0 then ∃ rs' ts,aC (aw g') B rs'∧yw ts∧(ts.map Prod.fst).Nodup∧(∀ k,qw ts k=img k)∧s'=edP bx u mb ms bk::mp mb (rs'.map ak)::mp ms (gG ts)::(di ts++s) else ∃ h,s'=h++s))
def Bo (k:Int):List Tm:=[(k,1)]
theorem oX.gen {fv:Value}{e:Ed}{A:List Cl}{code:Int}{B:List Cl}{bk:Bool}(h:oX fv e A code B bk):jk fv e A code B Bo bk:=fun E g s bx mb ms u v rs hu hO hv=>by
 obtain ⟨n,cap,q1,q2,q3⟩:=h E g s bx mb ms u v rs hu hO hv;refine⟨n,cap,q1,q2,q3.mono ?_⟩;rintro r g' s' ⟨h1,h2,h3⟩;refine⟨h1,h2,?_⟩;by_cases h0:code=0
 ·rw[if_pos h0] at h3 ⊢;obtain ⟨rs',h4,rfl⟩:=h3;exact⟨rs',[],h4,fun t ht=>by simp at ht,List.nodup_nil,fun k=>I,I⟩
 ·rw[if_neg h0] at h3 ⊢;exact h3
def i6 (g:PH)(code:Int)(D:List Cl)(ims:List (Int×List Tm))(bk:Bool)(r:Value)(g':PH):Prop:=∃ u p n c b,r = .tuple #[.agg #[u],.agg #[.slice p n c,vb b],vi code]∧gz (mns g' g) u D∧(code=0→b=bk∧Ims g' (.slice p n c) ims)∧(code≠0→b=false∧Ims g' (.slice p n c) [])
theorem i6.old {g:PH}{code:Int}{D:List Cl}{ims:List (Int×List Tm)}{bk:Bool}{r:Value}{g':PH}(h:i6 g code D ims bk r g'):e8 code D ims bk r g':=by
 obtain ⟨u,p,n,c,b,h1,h2,h3⟩:=h;exact⟨u,p,n,c,b,h1,h2.cells (jw _ _),h3⟩
theorem gz.nil (g:PH):gz g (.slice none 0 0) []:=⟨[],RK.nil _ _ g,trivial⟩
theorem oO (E:World)(g:PH)(s:Own)(v ev:Value)(l:List Cl)(e:Ed)(hv:ao g v l)(hf:be l)(he:EdR g ev e)(ims:List (Int×List Tm))(bk:Bool)(hbad:dK k4 e.kind=none∨(aJ l).2≠0) :
  Ctr Tryz.prog E 16 #[.agg #[v],ev] g s (fun r g' s'=>s=s'∧Le g g'∧i6 g 1 [] ims bk r g'):=by
 obtain ⟨z,hz⟩:=Tryz.mtyKinds;obtain ⟨sv,pv,rfl,hsv,hpv⟩:=he;obtain ⟨sp,sc,rfl⟩:=SlA.form hsv;obtain ⟨pq,pc,rfl⟩:=SlA.form hpv;obtain ⟨p,c,rfl⟩:=hv.form;refine Ctr.of (args:=[.agg #[.slice p l.length c],.agg #[vi e.kind,vi e.cell,vi e.dim,vi e.new,vi e.other,.slice sp e.sides.length sc,.slice pq e.pairs.length pc]]) func16 I ntmps16 (bE I) ?_;cases hg:dK k4 e.kind with
 | none =>
  refine rZ (bW (bO I) fun b2=>?_);refine bW (bO I) fun b3=>?_;refine bW (aL zeroValue29) fun b4=>?_;refine bW (aL zeroValue46) fun b5=>?_;refine aT I (sQ ?_);refine dW [] [(1,2),(2,1),(0,0),(3,0),(4,2),(5,2),(6,2),(7,2),(8,2)] Tryz.mixed kR ?_;refine pU I (fA aK I zT3 I) (pK I (qL iT3 I (cO 2 I I)) (SP.o I (cL call45 I (li E g _)) dC (.inr iR) ?_));rintro _ g1 _ ⟨rfl,hle1,bq,rfl,hk⟩;refine oQ rfl (SQ.eq (v':=.tuple #[z,vb false]) (SQ.lookupOk hz rfl rfl (cw.known hk)) (by rw[hg]; rfl)) dC (.inr ⟨by assumption,(by exact .refl _)⟩) ?_;refine pU I (mV I) (pU I (xT I I) (pU I (xT I I) (pU I (aS I) (pU I (aS I) (pN (tN (sQ (sW I (lU (SU.not I) (lM I (lZ I I I (lZ I I I (lZ I I I (lU (wT I I) (tZ (SC.condT I (rZ (lU (SU.build I buildE29) (lU (SU.build I buildZ46) (oZ (sK 1 ag I I I I I sB) ?_))))))))))))))))))));refine oZ (sK 0 bC I I I I I sB) ?_;refine aT I (rE (tR ?_));exact ST.retCCT 1 0 s (.inl I) results16 I I I ar ag fD bC I I I I uR ⟨I,hle1,_,_,_,_,_,I,gz.nil _,(fun h=>by cases h),fun _=>⟨I,Ims.nil _⟩⟩
 | some fv =>
  have hc:decide ((aJ l).2=0)=false:=decide_eq_false (by
   rcases hbad with h | h
   ·rw[hg] at h; cases h
   ·exact h)
  refine rZ (bW (bO I) fun b2=>?_);refine bW (bO I) fun b3=>?_;refine bW (aL zeroValue29) fun b4=>?_;refine bW (aL zeroValue46) fun b5=>?_;refine aT I (sQ ?_);refine dW [] [(1,2),(2,1),(0,0),(3,0),(4,2),(5,2),(6,2),(7,2),(8,2)] Tryz.mixed kR ?_;refine pU I (fA aK I zT3 I) (pK I (qL iT3 I (cO 2 I I)) (SP.o I (cL call45 I (li E g _)) dC (.inr iR) ?_));rintro _ g1 _ ⟨rfl,hle1,bq,rfl,hk⟩;refine oQ rfl (SQ.eq (v':=.tuple #[fv,vb true]) (SQ.lookupOk hz rfl rfl (cw.known hk)) (by rw[hg]; rfl)) dC (.inr ⟨by assumption,(by exact .refl _)⟩) ?_;refine pU I (mV I) (pU I (xT I I) (pU I (xT I I) (pU I (aS I) (pU I (aS I) (pN (tN (sQ (sW I (lU (SU.not I) (lM I (SL.gq (gT I I I dC) (qV 3 ar ag I I I) dC (SL.go (gT I I I dC) (cL call46 I (kA E g1 _ _ l (hv.mono hle1) hf false hc)) dC ?_))))))))))));rintro _ _ _ ⟨rfl,rfl,rfl⟩;refine lY I I I (SU.not I) (lU (wF I I) (tZ (SC.condT I (rZ (lU (SU.build I buildE29) (lU (SU.build I buildZ46) (oZ (sK 1 ag I I I I I sB) ?_)))))));refine oZ (sK 0 bC I I I I I sB) ?_;refine aT I (rE (tR ?_));exact ST.retCCT 1 0 s (.inl I) results16 I I I ar ag fD bC I I I I uR ⟨I,hle1,_,_,_,_,_,I,gz.nil _,(fun h=>by cases h),fun _=>⟨I,Ims.nil _⟩⟩
theorem vT (E:World)(g:PH)(s:Own)(v ev:Value)(l:List Cl)(e:Ed)(hv:ao g v l)(hf:be l)(he:EdR g ev e)(hr:(aJ l).2=0)(fv:Value)(code:Int)(B:List Cl)(bk:Bool)(hg:dK k4 e.kind=some fv)(img:Int→List Tm)(hrun:jk fv e (aa l) code B img bk)(hB:code=0→be B∧(B.map Cl.id).Nodup) :
  Ctr Tryz.prog E 16 #[.agg #[v],ev] g s (fun r g' s'=>s=s'∧Le g g'∧i6 g (aR code B).1 (aR code B).2 ((if bk then aa B else aa l).map fun c=>(c.id,img c.id)) bk r g'):=by
 obtain ⟨z,hz⟩:=Tryz.mtyKinds;have he0:=he;obtain ⟨sv,pv,rfl,hsv,hpv⟩:=he;obtain ⟨sp,sc,rfl⟩:=SlA.form hsv;obtain ⟨pq,pc,rfl⟩:=SlA.form hpv;obtain ⟨p,c,rfl⟩:=hv.form;have hc:decide ((aJ l).2=0)=true:=decide_eq_true hr;have hnd:((aa l).map Cl.id).Nodup:=by
  rw[List.Nodup,List.pairwise_map];exact (wj hr).asc.imp fun h=>by omega
 have hAf:=bg hf;refine Ctr.of (args:=[.agg #[.slice p l.length c],.agg #[vi e.kind,vi e.cell,vi e.dim,vi e.new,vi e.other,.slice sp e.sides.length sc,.slice pq e.pairs.length pc]]) func16 I ntmps16 (bE I) ?_;refine rZ (bW (bO I) fun b2=>?_);refine bW (bO I) fun b3=>?_;refine bW (aL zeroValue29) fun b4=>?_;refine bW (aL zeroValue46) fun b5=>?_;refine aT I (sQ ?_);refine dW [] [(1,2),(2,1),(0,0),(3,0),(4,2),(5,2),(6,2),(7,2),(8,2)] Tryz.mixed kR ?_;refine pU I (fA aK I zT3 I) (pK I (qL iT3 I (cO 2 I I)) (SP.o I (cL call45 I (li E g _)) dC (.inr iR) ?_));rintro _ g1 _ ⟨rfl,hle1,bq,rfl,hk⟩;refine oQ rfl (SQ.eq (v':=.tuple #[fv,vb true]) (SQ.lookupOk hz rfl rfl (cw.known hk)) (by rw[hg]; rfl)) dC (.inr ⟨by assumption,(by exact .refl _)⟩) ?_;refine pU I (mV I) (pU I (xT I I) (pU I (xT I I) (pU I (aS I) (pU I (aS I) (pN (tN (sQ (sW I (lU (SU.not I) (lM I (SL.gq (gT I I I dC) (qV 3 ar ag I I I) dC (SL.go (gT I I I dC) (cL call46 I (kA E g1 _ _ l (hv.mono hle1) hf true hc)) dC ?_))))))))))));rintro _ _ _ ⟨rfl,rfl,rfl⟩;refine lY I I I (SU.not I) (lU (wF I I) (tZ (SC.condF I (kP (tN (rZ (lK (qV 3 ar ag I I I) (lW (cL call47 I (y7 E g1 _ _ l (hv.mono hle1) hf hnd)) ?_))))))));rintro _ g2 _ ⟨hle2,bx,u,mb,ms,rs,rfl,hu,hO,rfl⟩;refine aT I (sW I (lM I (lK (qV ((f5 (aa l) rs).length+2+3) jF eT I (by exact (qT (f5 (aa l) rs) _ 2).trans I) I) ?_)));refine lW (SO.callV I I (hrun E g2 _ bx mb ms u _ rs hu hO (he0.mono (hle1.trans hle2)))) ?_;rintro _ g3 _ ⟨hle3,rfl,hcase⟩;by_cases hc0:code=0
 ·obtain ⟨hBf,hBn⟩:=hB hc0;subst hc0;rw[if_pos rfl] at hcase;obtain ⟨rs',ts,hall,hts,htn,himg,rfl⟩:=hcase;refine SL.to (g':=g3) (s':=edP bx u mb ms bk::mp mb (rs'.map ak)::mp ms (gG ts)::pt b5 (.cells #[.slice none 0 0,vb false] 46 (0,0))::pt b4 (.cells #[.slice none 0 0] 29 (0,0))::pt b3 (.cells #[vi e.kind,vi e.cell,vi e.dim,vi e.new,vi e.other,.slice sp e.sides.length sc,.slice pq e.pairs.length pc] 35 (0,0))::pt b2 (.cells #[.slice p l.length c] 29 (0,0))::(di ts++s)) (fun w hw=>hw.perm (((List.perm_append_comm_assoc (di ts) [pt b5 (.cells #[.slice none 0 0,vb false] 46 (0,0)),pt b4 (.cells #[.slice none 0 0] 29 (0,0)),pt b3 (.cells #[vi e.kind,vi e.cell,vi e.dim,vi e.new,vi e.other,.slice sp e.sides.length sc,.slice pq e.pairs.length pc] 35 (0,0)),pt b2 (.cells #[.slice p l.length c] 29 (0,0))] s).cons _).cons _ |>.cons _)) ?_;have hcB:=bg hBf;have hout:aR 0 B=if (aJ (aa B)).2≠0 then ((aJ (aa B)).2,[]) else (0,aa B):=rfl
  rw[hout];refine aT I (rZ (bW (aL zeroValue29) fun b11=>?_));refine tZ (sQ (sW I (lU (eQ I I) (tZ (SC.condT I (sQ (cP (List.perm_middle (l₁:=[pt b11 (.cells #[.slice none 0 0] 29 (0,0)),edP bx u mb ms bk])) (SC.freezeMap fun g4 hle4 hm4=>?_))))))));refine rG (lM I (lW (cL call48 I (vk E g4 _ bx mb ms u bk B rs' (hall.mono fun _ _=>aw.mono hle4) hBn hBf hm4 1 I)) ?_));rintro _ g5 _ ⟨rfl,hle5,u5,rfl,hn5⟩;have hu5:=hn5.cells (jw _ _);obtain ⟨p5,c5,rfl⟩:=hu5.form;refine oZ (sK 0 ag I I I I I sB) ?_;refine tZ (rG (lK (qV 0 ar ag I I I) (lW (cL call49 I (oK E g5 _ _ (aa B) hu5 hcB)) ?_)));rintro _ _ _ ⟨rfl,rfl,rfl⟩;refine lM I (lU (xT I I) (lU (xT I I) (aT I (sQ (sW I (lU (nQ I I) (tZ ?_)))))));refine iP I (fun h2=>?_) (fun h2=>?_)
  ·have he2:(if (aJ (aa B)).2≠0 then ((aJ (aa B)).2,[]) else ((0:Int),aa B))=((aJ (aa B)).2,[]):=if_pos h2;rw[he2];refine rZ (lU (SU.build I buildE29) (lU (SU.build I buildZ46) (lM I (oZ (sK 4 ag I I I I I sB) ?_))));refine oZ (sK 3 bC I I I I I sB) ?_;refine aT I (rE (tR ?_));exact ST.retCCT 4 3 s (.inl I) results16 I I I ar ag fD bC I I I I (.cons _ (.cons _ (.cons _ (.cons _ (.cons _ (.cons _ (.cons _ (List.sublist_append_right _ _)))))))) ⟨I,hle1.trans (hle2.trans (hle3.trans (hle4.trans hle5))),_,_,_,_,_,I,gz.nil _,fun h=>absurd h h2,fun _=>⟨I,Ims.nil _⟩⟩
  ·have he2:(if (aJ (aa B)).2≠0 then ((aJ (aa B)).2,[]) else ((0:Int),aa B))=(0,aa B):=if_neg h2;rw[he2];refine kP (tN (sQ ?_));refine SC.drawT 1 [4,5] [(0,1),(1,2),(2,1),(3,0),(4,0),(5,0),(6,2)] Tryz.mixed kR ?_;refine pK rfl (qV 0 ar ag rfl rfl rfl) (pU rfl (mV rfl) (pK rfl (qV 0 ar ag rfl rfl rfl) (SP.o rfl (cL call50 rfl (xf E g5 [pt b11 (.cells #[.slice p5 (aa B).length c5] 29 (0,0)),edP bx u mb ms bk,mp ms (gG ts),pt b5 (.cells #[.slice none 0 0,vb false] 46 (0,0)),pt b4 (.cells #[.slice none 0 0] 29 (0,0)),pt b3 (.cells #[vi e.kind,vi e.cell,vi e.dim,vi e.new,vi e.other,.slice sp e.sides.length sc,.slice pq e.pairs.length pc] 35 (0,0)),pt b2 (.cells #[.slice p l.length c] 29 (0,0))] s bx mb ms u _ bk (aa l) (aa B) ts hts htn (hu.mono (hle3.trans (hle4.trans hle5))) hu5 hAf.1 hcB.1 1 2 rfl rfl)) dC (.inr (by rintro _ g6 _ ⟨rfl,hle6,iv,rfl,him⟩; exact⟨by assumption,(by exact .cons_cons _ (List.nil_sublist _))⟩)) ?_)));rintro _ g6 _ ⟨rfl,hle6,iv,rfl,him⟩;obtain ⟨p6,n6,c6,rfl⟩:=him.form;refine SP.on I (sK 4 ag I I I I I sB) (.inl dC) ?_;rintro _ _ _ ⟨rfl,rfl⟩;refine SP.on I (sK 3 bC I I I I I sB) (.inl dC) ?_;rintro _ _ _ ⟨rfl,rfl⟩;refine pU I (aS I) (pN (tN (rE ?_)));exact ST.retCCT 4 3 s (.inl I) results16 I I I ar ag fD bC I I I I uR ⟨I,hle1.trans (hle2.trans (hle3.trans (hle4.trans (hle5.trans hle6)))),_,_,_,_,_,I,(hn5.mono (mq (hle1.trans (hle2.trans (hle3.trans hle4))))).mono (mo hle6),fun _=>⟨I,by rw[show (fun c:Cl=>(c.id,img c.id))=fun c:Cl=>(c.id,qw ts c.id) from funext fun c=>by rw[himg]]; exact him⟩,fun h=>absurd I h⟩
 ·rw[if_neg hc0] at hcase;obtain ⟨h,rfl⟩:=hcase;have hout:aR code B=(code,[]):=if_pos hc0;rw[hout];refine SL.drop (List.sublist_append_right _ _) (aT I (rZ (bW (aL zeroValue29) fun b11=>?_)));refine tZ (sQ (sW I (lU (eQ I I) (tZ ?_))));refine iP I (fun h0=>?_) (fun h0=>?_)
  ·exact absurd h0 hc0
  ·refine kP (tN (sQ (sW I (lU (nQ I I) (tZ ?_)))));refine iP I (fun h2=>?_) (fun h2=>?_)
   ·refine rZ (lU (SU.build I buildE29) (lU (SU.build I buildZ46) (lM I (oZ (sK 2 ag I I I I I sB) ?_))));refine oZ (sK 1 bC I I I I I sB) ?_;refine aT I (rE (tR ?_));exact ST.retCCT 2 1 s (.inl I) results16 I I I ar ag fD bC I I I I uR ⟨I,hle1.trans (hle2.trans hle3),_,_,_,_,_,I,gz.nil _,fun h=>absurd h hc0,fun _=>⟨I,Ims.nil _⟩⟩
   ·exact absurd hc0 h2
set_option maxHeartbeats 1000000
theorem sf {l m:List Side}(h:l.Perm m)(hl:l.Pairwise fun a b=>a.cell≤b.cell)(hm:m.Pairwise fun a b=>a.cell≤b.cell):l.map Side.cell=m.map Side.cell:=by
 refine List.Perm.eq_of_pairwise (le:=fun a b:Int=>a≤b) (fun a b _ _ h1 h2=>by omega) ?_ ?_ (h.map _)
 ·rw[List.pairwise_map]; exact hl
 ·rw[List.pairwise_map]; exact hm
def CaC (a b:Cl):Prop:=a.id=b.id∧a.dim=b.dim∧a.sides.Perm b.sides∧a.sides.map Side.cell=b.sides.map Side.cell
theorem sw:∀ {L M:List Cl},aC CaC L M→∀ k,(aA L k).map Cl.dim=(aA M k).map Cl.dim
 | [],[],_,_=>rfl
 | a::L,b::M,h,k=>by
  have ih:=sw h.2 k;have h1:=h.1.1;have h2:=h.1.2.1;unfold aA at ih ⊢;rw[List.find?_cons,List.find?_cons,h1];cases hd:decide (b.id=k) with
  | true=>simp[h2]
  | false=>simpa using ih
 | [],_::_,h,_=>h.elim
 | _::_,[],h,_=>h.elim
theorem xP {L M:List Cl}(h:aC CaC L M)(k:Int):(aA L k).isSome=(aA M k).isSome:=by
 have h1:=congrArg Option.isSome (sw h k);simpa using h1
theorem BM {L M:List Cl}(h:aC CaC L M)(k:Int):((aA L k).getD bA).dim=((aA M k).getD bA).dim:=by
 have h1:=sw h k;cases h2:aA L k <;> cases h3:aA M k <;> (try rfl)<;>rw[h2,h3] at h1 <;> simp at h1
 exact h1
theorem Bu {a b:Cl}(h:CaC a b)(i:Nat):a.sides[i]?.map Side.cell=b.sides[i]?.map Side.cell:=by
 have h1:=congrArg (fun l:List Int=>l[i]?) h.2.2.2;simpa using h1
theorem BV {L M:List Cl}(h:aC CaC L M){a b:Cl}(hab:CaC a b)(i:Nat):fQ L a i=fQ M b i:=by
 have h1:=Bu hab i;unfold fQ;cases h2:a.sides[i]? with
 | none =>
  cases h3:b.sides[i]? with
  | none=>rfl
  | some y=>rw[h2,h3] at h1; simp at h1
 | some x =>
  cases h3:b.sides[i]? with
  | none=>rw[h2,h3] at h1; simp at h1
  | some y =>
   rw[h2,h3] at h1;have h4:x.cell=y.cell:=by simpa using h1
   show ci L a i x=ci M b i y;unfold ci;rw[h4,xP h,BM h,hab.2.1,Bu hab (i - 1)]
theorem Ba {L M:List Cl}(h:aC CaC L M){a b:Cl}(hab:CaC a b):cN L a=cN M b:=by
 have hl:a.sides.length=b.sides.length:=hab.2.2.1.length_eq;have h1:fe a=fe b:=by unfold fe; rw[hab.2.1]
 have h2:a7 a=a7 b:=by unfold a7; rw[hab.2.1,hl]
 have h3:(List.range a.sides.length).any (fQ L a)=(List.range b.sides.length).any (fQ M b):=by
  rw[hl,show fQ L a=fQ M b from funext fun i=>BV h hab i]
 have h4:a.sides.any cg=b.sides.any cg:=by
  rw[Bool.eq_iff_iff,List.any_eq_true,List.any_eq_true];exact⟨fun ⟨x,hx,hb⟩=>⟨x,hab.2.2.1.mem_iff.1 hx,hb⟩,fun ⟨x,hx,hb⟩=>⟨x,hab.2.2.1.mem_iff.2 hx,hb⟩⟩
 have h5:nF a.sides=nF b.sides:=xA (hab.2.2.1.map Side.sign);unfold cN;rw[h1,h2,h3,h4,h5,hab.2.1]
theorem wR {L0 M0:List Cl}(h0:aC CaC L0 M0):∀ {L M:List Cl},aC CaC L M→∀ n,fV L0 L n=fV M0 M n
 | [],[],_,_=>rfl
 | a::L,b::M,h,n=>by
  unfold fV;rw[h.1.1,Ba h0 h.1,wR h0 h.2]
 | [],_::_,h,_=>h.elim
 | _::_,[],h,_=>h.elim
theorem rf {tl:List Cl}:∀ {l:List Cl} {n:Int} {p:Int×Int},fV tl l n=some p→p.2≠0
 | [],_,_,h=>by cases h
 | x::r,n,p,h=>by
  unfold fV at h;split at h
  ·cases h; exact (by decide:(20:Int)≠0)
  ·split at h
   ·rename_i h1; cases h; exact h1
   ·exact rf h
theorem rv {α β α' β':Type}{R:α→β→Prop}{S:α'→β'→Prop}{f:α→α'}{k:β→β'}(hR:∀ a b,R a b→S (f a) (k b)):∀ {l:List α} {m:List β},aC R l m→aC S (l.map f) (m.map k)
 | [],[],_=>trivial
 | _::_,_::_,h=>⟨hR _ _ h.1,rv hR h.2⟩
 | [],_::_,h=>h.elim
 | _::_,[],h=>h.elim
theorem AX {a b:Cl}(h:ShC a b):CaC (fB a) (fB b):=by
 have hp:(fB a).sides.Perm (fB b).sides:=(ji a.sides).trans (h.2.2.trans (ji b.sides).symm);exact⟨h.1,h.2.1,hp,sf hp (co a.sides) (co b.sides)⟩
theorem zL {B D:List Cl}(h:ShL B D)(hn:(B.map Cl.id).Nodup):aC CaC (aa B) (aa D):=by
 obtain ⟨l1,hp,ha⟩:=h;have h1:sortBy Cl.id B=sortBy Cl.id l1:=s5 hp.symm hn;unfold aa;rw[h1];exact rv (R:=ShC) (S:=CaC) (fun a b h=>AX h) (aC.sortBy (R:=ShC) (f:=Cl.id) (h:=Cl.id) (fun a b h=>h.1) ha)
theorem z8:∀ {L M:List Cl},aC CaC L M→L.map Cl.id=M.map Cl.id
 | [],[],_=>rfl
 | a::L,b::M,h=>by rw[List.map_cons,List.map_cons,h.1.1,z8 h.2]
 | [],_::_,h=>h.elim
 | _::_,[],h=>h.elim
theorem wC:∀ {L M:List Cl},aC CaC L M→(∀ c∈L,c.sides.Pairwise fun a b=>a.cell<b.cell)→L=M
 | [],[],_,_=>rfl
 | a::L,b::M,h,hl=>by
  rw[wC h.2 fun c hc=>hl c (by simp[hc])];obtain ⟨⟨h1,h2,h3,h4⟩,-⟩:=h;have ha:=hl a (by simp);have hb:b.sides.Pairwise fun a b=>a.cell<b.cell:=by
   have h5:(a.sides.map Side.cell).Pairwise fun a b=>a<b:=by rw[List.pairwise_map]; exact ha
   rw[h4,List.pairwise_map] at h5;exact h5
  have h6:a.sides=b.sides:=List.Perm.eq_of_pairwise (le:=fun a b:Side=>a.cell<b.cell) (fun a b _ _ h1 h2=>by omega) ha hb h3;congr 1;cases a; cases b;simp at h1 h2 h6;rw[h1,h2,h6]
 | [],_::_,h,_=>h.elim
 | _::_,[],h,_=>h.elim
theorem rL {B:List Cl}(hn:(B.map Cl.id).Nodup):(aa B).Pairwise fun a b=>a.id<b.id:=by
 have h1:((aa B).map Cl.id).Nodup:=by
  have:(aa B).map Cl.id=(sortBy Cl.id B).map Cl.id:=by unfold aa; rw[List.map_map]; rfl
  rw[this];exact ((ji B).map Cl.id).symm.nodup hn
 rw[List.Nodup,List.pairwise_map] at h1;exact ((gj B).and h1).imp fun ⟨h2,h3⟩=>by have h2':_≤_:=h2; omega
theorem uF {B D:List Cl}(h:ShL B D)(hn:(B.map Cl.id).Nodup):aR 0 B=aR 0 D:=by
 have hca:=zL h hn;have hlen:B.length=D.length:=h.length;have hsB:=rL hn;have hsD:(aa D).Pairwise fun a b=>a.id<b.id:=by
  have h1:((aa B).map Cl.id).Pairwise fun a b=>a<b:=by rw[List.pairwise_map]; exact hsB
  rw[z8 hca,List.pairwise_map] at h1;exact h1
 have htB:=dN hsB;have htD:=dN hsD;have h1:fV (am B) (aa B) 0=fV (am D) (aa D) 0:=by rw[htB,htD]; exact wR hca hca 0
 by_cases hl:(B.length:Int)>4000
 ·have hB:aJ B=(0,2):=by unfold aJ; rw[if_pos hl]
  have hD:aJ D=(0,2):=by unfold aJ; rw[if_pos oM]
  unfold aR;rw[fM,fM,hB,hD];rfl
 ·cases hq:fV (am B) (aa B) 0 with
  | some p =>
   have hB:aJ B=p:=by unfold aJ; rw[if_neg hl,hq]; rfl
   have hD:aJ D=p:=by unfold aJ; rw[if_neg oM,← h1,hq]; rfl
   have hp:=rf hq;unfold aR;rw[fM,fM,hB,hD,if_neg (by decide:¬ (0:Int)≠0),if_neg (by decide:¬ (0:Int)≠0),if_pos hp,if_pos hp]
  | none =>
   obtain ⟨-,-,h4⟩:=fH hq;have he:aa B=aa D:=wC hca fun c hc=>(Bs (h4 c hc) (ny B c hc)).asc;unfold aR;rw[he]
end Go.Proofs.YtackilpikhkijaaGreatDoor
