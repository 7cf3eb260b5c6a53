/- Ed5 Ed6 Ed7 Ed8 Ed9 Frm4 Mo1 SyNm Mo2 Mo3 Mo4 -/
import Derived.Test.YteahknngoogpaaaGreatDoorRr12
import Derived.Test.YteahknngoogpaaaGreatDoorRr09
import Derived.Test.YteahknngoogpaaaGreatDoorRr11
import Derived.Test.YteahknngoogpaaaGreatDoorRr10
import Derived.Test.YteahknngoogpaaaGreatDoorRr02
set_option linter.unusedSimpArgs false
set_option linter.unusedVariables false
namespace Go.Proofs.YteahknngoogpaaaGreatDoor
open _root_.Go.Proofs.Tryz _root_.Go.Proofs.YteahknngoogpaaaGreatDoor.Tryz
open Go Go.Sy Go.Pl Go.Proofs
set_option maxRecDepth 100000
set_option maxHeartbeats 1000000
theorem result_spec (E:World)(g:PH)(s:Own)(bx mb ms:Nat)(u:Value)(bk:Bool)(B:List Cl)(rs:List Rc)(hall:All2 (CellR g) B rs)(hn:(B.map Cl.id).Nodup)(hf:Fits B)(hm:Mp g mb (rs.map rcPair))(i:Nat)(hi:s[i]?=some (edP bx u mb ms bk)) :
  Ctr Tryz.prog E 75 #[pp bx 0] g s (fun r g' s'=>s=s'∧Le g g'∧∃ u',r = .agg #[u']∧Cells g' u' (canonC B)):=by
 obtain ⟨es,clk,hes,hmi⟩:=hm;have hrl:=hall.length;have hBl:=hf.1;refine Ctr.of (args:=[pp bx 0]) func75 I ntmps75 (bE I) ?_;refine SC.sR (SL.bx (aL zeroValue29) fun b2=>?_);refine SL.nT (SC.sR (SL.bx (aL zeroValue29) fun b3=>?_));refine SL.nT (sQ (SC.sR (lM I (lU (nC I) (lU (fA uT150 I sizeOf125 I) (lK (qL (v:=.map (some mb)) isAgg125 I (cO (i+2) hi I)) (lW (SO.range underlying125 I hes) ?_)))))));rintro _ _ _ ⟨it,rfl,rfl,rfl⟩;refine SL.nT (bK (SC.nilRow 54 3 ?_));refine oP (ι:=List MapEntry×List Rc×List Cl×Value) (fun _=>[(2,pp b2 0),(3,pp b3 0),(10,pp it 0)]) (fun _=>g)
  (fun i=>rowA encCell 54 i.2.2.2 i.2.1::iter it mb es clk i.1::pt b3 (.cells #[i.2.2.2] 29 (0,0))::pt b2 (.cells #[.slice none 0 0] 29 (0,0))::s)
  (fun i=>RVis (rs.map rcPair) es i.1 (i.2.1.map rcPair)∧All2 (CellR g) i.2.2.1 i.2.1∧(∀ c∈i.2.2.1,c∈B)) (fun i=>rs.length - i.2.1.length)
  ([],[],[],.slice none 0 0) sB rfl rfl ⟨RVis.nil _ _,trivial,by simp⟩ ?_
 rintro ⟨vis,acc,vc,ov⟩ ⟨hrv,hacc,hvs⟩;dsimp only at hrv hacc hvs ⊢;have hvle:=hrv.len hmi;simp only[List.length_map] at hvle;have hal:=hacc.length;refine SC.sR (lW (SO.nextP 1 I I hes hmi hrv) ?_);rintro _ _ _ ⟨rfl,hcase⟩
 rcases hcase with ⟨rfl,rfl,hperm⟩ | ⟨e,pr,he,hp1,hk1,hv1,hrv2,rfl,rfl⟩
 ·have hpv:vc.Perm B:=visited_perm (by rw[List.map_map,all2_ids hacc]; rfl) hvs hn hall hperm;have hcn:canonC vc=canonC B:=canonC_permE hpv ((hpv.map Cl.id).symm.nodup hn);have hvf:Fits vc:=⟨by have:=hpv.length_eq; omega,fun c hc=>hf.2 c (hvs c hc)⟩;refine lU (xT I I) (SL.nT (sQ (cF I (xI (tX (tX (bX (tN (sQ (fS fun g2 hle2 hs2=>?_))))))))));obtain ⟨q2,d2,rfl⟩:=Sl.form hs2;refine rG (lK (qV 1 iT29 zT29 I I I) (lW (SO.call call50 I (canon_spec E g2 _ _ vc ⟨acc,hs2,hacc.mono fun _ _=>CellR.mono hle2⟩ hvf)) ?_));rintro _ g3 _ ⟨rfl,hle3,u3,rfl,hu3⟩;rw[hcn] at hu3;obtain ⟨q3,d3,rfl⟩:=hu3.form;refine SL.O2 (sK 2 zT29 I I I I I sB) ?_;refine SL.nT (rE ?_);exact ST.retCD 2 s (.inl I) results75 I iT29 zT29 I I (.cons _ (.cons _ (.cons _ (.refl _)))) ⟨I,hle2.trans hle3,_,I,hu3⟩
 ·obtain ⟨x,hx,rfl⟩:=List.mem_map.1 hp1;obtain ⟨cx,hcm,hcx⟩:=all2_mem hall hx;refine lU (xT I I) (SL.nT (sQ (cT I (kP (tN (bK (SC.sR (lK (SQ.entryP 1 I I hes hmi he hk1 hv1) (lU (xT I I) (SL.bx (aL zeroValue54) fun b5=>?_))))))))));refine SL.O2 (sK 0 zT54 I I I I I sB) ?_;refine SL.nT ?_;refine SC.to (g':=g) (s':=pt b5 (.cells #[vi x.id,vi x.dim,.slice x.sv.p x.sv.n x.sv.c] 54 (0,0))::rowA encCell 54 ov acc::iter it mb es clk (vis++[e])::pt b3 (.cells #[ov] 29 (0,0))::pt b2 (.cells #[.slice none 0 0] 29 (0,0))::s) (fun w hw=>hw) ?_;refine rG (lU (fA uT29 I zT27 I) (lK (qL iT27 I (cO 3 I I)) (lK (qV 0 iT54 zT54 I I I) (lW (SO.buildSlice sty27 I I I (szs_mk sB) dC) ?_))));rintro _ _ _ ⟨b18,rfl,rfl,rfl⟩;refine lW (aP (e:=encCell) 1 x sty27 I I I I I oM oM) ?_;rintro ov' _ _ ⟨rfl,rfl⟩;refine SL.facts fun ⟨w0,hw0⟩=>?_;obtain ⟨q',d',rfl⟩:=rowA_form (e:=encCell) (l:=acc++[x]) (i:=1) hw0 rfl;clear hw0 w0;refine lU (fA uT29 I zT27 I) (SL.O2 (sK 3 zT27 I I I I I sB) ?_);refine nL (bN (dR (.cons _ (.refl _)) ?_));exact ST.again (vis++[e],acc++[x],vc++[cx],_) sB I I ⟨by dsimp only; rw[List.map_append]; exact hrv2,hacc.append ⟨hcx,trivial⟩,fun c hc=>by
   rcases List.mem_append.1 hc with h | h
   ·exact hvs c h
   ·simp at h; rw[h]; exact hcm⟩ (by
   have:=hrv2.len hmi;simp only[List.length_map,List.length_append,List.length_singleton] at this ⊢;omega)
abbrev Tm:=Int×Int
def wneg (n:Int):Bool:=decide (n<0)&&decide (magB n.natAbs≠[])
theorem wideN_eq (n:Int):wideN n = .agg #[vb (wneg n),txt (magB n.natAbs)]:=rfl
def encTm:Enc Tm 3:=⟨fun p=>[vi p.1,vb (wneg p.2),txt (magB p.2.natAbs)],fun _=>rfl,fun _ u hu=>by simp at hu; rcases hu with rfl | rfl | rfl <;> rfl,by decide⟩
structure Im where
 cell:Int
 sv:Sv
def encIm:Enc Im 2:=⟨fun r=>[vi r.cell,.slice r.sv.p r.sv.n r.sv.c],fun _=>rfl,fun _ u hu=>by simp at hu; rcases hu with rfl | rfl <;> rfl,by decide⟩
def ImR (g:PH)(c:Int×List Tm)(r:Im):Prop:=r.cell=c.1∧SlA encTm g (.slice r.sv.p r.sv.n r.sv.c) c.2
theorem ImR.mono {g g':PH}(hl:Le g g'){c:Int×List Tm}{r:Im}(h:ImR g c r):ImR g' c r:=⟨h.1,SlA.mono h.2 hl⟩
def Ims (g:PH)(v:Value)(l:List (Int×List Tm)):Prop:=∃ rs,SlA encIm g v rs∧All2 (ImR g) l rs
theorem Ims.mono {g g':PH}{v:Value}{l:List (Int×List Tm)}(h:Ims g v l)(hl:Le g g'):Ims g' v l:=by
 obtain ⟨rs,h1,h2⟩:=h;exact⟨rs,SlA.mono h1 hl,h2.mono fun _ _=>ImR.mono hl⟩
theorem Tryz.build156 (x:Int)(b:Bool)(l:List UInt8)(w:World):(Instr.build 156 #[(0,vi x),(1,.agg #[vb b,txt l])]).run Tryz.prog w = .ok (.agg #[vi x,vb b,txt l]) w:=by
 have h1:(vi x).cells = #[vi x]:=rfl;have h2:(Value.agg #[vb b,txt l]).cells = #[vb b,txt l]:=rfl;simp[Instr.build,Instr.fill,h1,h2];rfl
theorem Tryz.build162 (x:Int)(p:Option Addr)(n c:Nat)(w:World):(Instr.build 162 #[(0,vi x),(1,.slice p n c)]).run Tryz.prog w = .ok (.agg #[vi x,.slice p n c]) w:=by
 have h1:(vi x).cells = #[vi x]:=rfl;have h2:(Value.slice p n c).cells = #[.slice p n c]:=rfl;simp[Instr.build,Instr.fill,h1,h2];rfl
theorem Tryz.buildB89 (b:Bool)(w:World):(Instr.build 89 #[(1,vb b)]).run Tryz.prog w = .ok (.agg #[.slice none 0 0,vb b]) w:=by
 have h1:(vb b).cells = #[vb b]:=rfl;simp[Instr.build,Instr.fill,h1];rfl
theorem Tryz.mty148:MTy Tryz.prog 148 3 151 (.slice none 0 0):=⟨underlying148,underlying3,zeroValue151⟩
theorem Tryz.sty151:STy Tryz.prog 151 156 3 32 (.agg #[vi 0,vb false,txt []]):=⟨underlying151,⟨t156,by kernel_rfl,by kernel_rfl,by kernel_rfl,by kernel_rfl⟩,rfl,by decide⟩
theorem Tryz.sty85:STy Tryz.prog 85 162 2 32 (.agg #[vi 0,.slice none 0 0]):=⟨underlying85,⟨t162,by kernel_rfl,by kernel_rfl,by kernel_rfl,by kernel_rfl⟩,rfl,by decide⟩
theorem term_spec (E:World)(g:PH)(s:Own)(c n:Int)(h0 : -9223372036854775808≤n)(h1:n<9223372036854775808) :
  Ctr Tryz.prog E 112 #[vi c,vi n] g s (fun r g' s'=>r = .agg (encTm.enc (c,n)).toArray∧s=s'∧Le g g'):=by
 refine Ctr.of (args:=[vi c,vi n]) func112 I ntmps112 (bE I) ?_;refine SC.sR (SL.bx (aL zeroValue156) fun b4=>?_);refine SL.nT (SC.sR (lM I (lM I (lW (SO.call call143 I (from_spec E g _ n h0 h1)) ?_))));rintro _ g1 _ ⟨rfl,rfl,hle1⟩;refine lU (SU.build I (build156 _ _ _)) (SL.O2 (sK 0 sizeOf156 I I I I I sB) ?_);refine SL.nT (rE ?_);exact ST.retCD 0 s (.inl I) results112 I isAgg156 sizeOf156 I I (.cons _ (.refl _)) ⟨I,I,hle1⟩
theorem image_none (E:World)(g:PH)(s:Own)(b2 bx mb ms:Nat)(u:Value)(bk:Bool)(k:Int)(i j q:Nat)(hq:s[q]?=some (pt b2 (.cells #[pp bx 0] 122 (0,0))))(hi:s[i]?=some (edP bx u mb ms bk))(hj:s[j]?=some (mp ms [])) :
  CallV Tryz.prog E (.func (.func 111) #[] #[pp b2 0]) [vi k] g s (fun r g' s'=>s=s'∧Le g g'∧SlA encTm g' r [(k,1)]):=by
 refine CallV.mk (args:=[_]) (cap:=[pp b2 0]) call111 ?_;refine Ctr.of (args:=[vi k,pp b2 0]) func111 I ntmps111 (bE I) ?_;refine SC.sR (lA I (SL.nT (SC.sR (lK (qL (v:=pp bx 0) isAgg122 I (cO q hq I)) (lU (nC I) (lU (fA uT150 I sizeOf148 I) (lK (qL (v:=.map (some ms)) isAgg148 I (cO i hi I)) (lM I (lK (SQ.eq (v':=.tuple #[.slice none 0 0,vb false]) (SQ.lookupOk mty148 I I (MapAt.own j hj)) I) (lM I (lU (xT I I) (lU (xT I I) (lA I (lA I (SL.nT (sQ (SC.sR (lM I (lU (SU.not I) (SL.nT (cT I (SC.sR ?_))))))))))))))))))))));refine lM I (lW (SO.call call112 I (term_spec E g _ k 1 dC dC)) ?_);rintro _ g1 _ ⟨rfl,rfl,hle1⟩;refine lW (SO.buildSlice sty151 I I I (szs_mk ⟨I,trivial⟩) dC) ?_;rintro _ _ _ ⟨b19,rfl,rfl,rfl⟩;refine SL.freeze fun g2 hle2 hb2=>?_;refine lA I (SL.nT (rE (tR ?_)));exact ST.ret1 (.inl I) results111 I ⟨I,hle1.trans hle2,SlA.lit hb2 I I⟩
def selfT (c:Cl):Int×List Tm:=(c.id,[(c.id,1)])
theorem step_none (E:World)(g:PH)(s:Own)(bx mb ms:Nat)(u v:Value)(bk:Bool)(A D:List Cl)(hu:Cells g u A)(hv:Cells g v D)(hA:A.length<1099511627776)(hD:D.length<1099511627776)(i j:Nat)(hi:s[i]?=some (edP bx u mb ms bk))(hj:s[j]?=some (mp ms [])) :
  Ctr Tryz.prog E 76 #[pp bx 0,.agg #[v]] g s (fun r g' s'=>s=s'∧Le g g'∧∃ iv,r = .agg #[iv,vb bk]∧Ims g' iv ((if bk then D else A).map selfT)):=by
 obtain ⟨pu,cu,rfl⟩:=hu.form;obtain ⟨pv,cv,rfl⟩:=hv.form;refine Ctr.of (args:=[pp bx 0,.agg #[.slice pv D.length cv]]) func76 I ntmps76 (bE I) ?_;refine SC.sR (SL.bx (bO I) fun b2=>?_);refine SL.bx (bO I) fun b3=>?_;refine SL.bx (aL zeroValue89) fun b4=>?_;refine SL.nT (SC.sR (lK (qL isAgg122 I (cO 2 I I)) (lU (nC I) (lU (fA uT150 I zT29 I) (lK (SQ.loadOne iT29 zT29 I (cO (v:=.slice pu A.length cu) (i+3) hi I)) (SL.bx (aL zeroValue29) fun b5=>?_))))));refine SL.O2 (sK 0 zT29 I I I I I sB) ?_;refine SL.nT ?_;refine SC.cut (ι:=Unit) (fun _=>[(2,pp b2 0),(3,pp b3 0),(4,pp b4 0),(5,pp b5 0)]) (fun _=>g) (fun _=>pt b5 (.cells #[if bk then .slice pv D.length cv else .slice pu A.length cu] 29 (0,0))::pt b4 (.cells #[.slice none 0 0,vb false] 89 (0,0))::pt b3 (.cells #[.slice pv D.length cv] 29 (0,0))::pt b2 (.cells #[pp bx 0] 122 (0,0))::s) (fun _=>True) ?_ ?_
 ·refine SC.sR (lK (qL isAgg122 I (cO 3 I I)) (lU (nC I) (lU (fA uT150 I zT4 I) (lK (qL (v:=vb bk) isAgg4 I (cO (i+4) hi I)) (SL.nT ?_)))));cases bk with
  | true =>
   refine cT I (rG (lK (qV 2 iT29 zT29 I I I) (SL.O2 (sK 0 zT29 I I I I I sB) ?_)));refine nL ?_;exact ST.mid () sB I I trivial
  | false =>
   refine cF I (kP ?_);exact ST.mid () sB I I trivial
 rintro _ -;try dsimp only
 have hF:Cells g (if bk then .slice pv D.length cv else .slice pu A.length cu) (if bk then D else A):=by cases bk <;> assumption
 have hFl:(if bk then D else A).length<1099511627776:=by cases bk <;> assumption
 generalize (if bk=true then D else A)=F at *;generalize (if bk=true then Value.slice pv D.length cv else Value.slice pu A.length cu)=w at *;obtain ⟨rs,hrs,hall⟩:=hF;have hrl:=hall.length;obtain ⟨p,c,rfl⟩:=SlA.form hrs;refine SC.sR (lK (qL isAgg122 I (cO 3 I I)) (lU (nC I) (lU (fA uT150 I zT4 I) (lK (qL (v:=vb bk) isAgg4 I (cO (i+4) hi I)) (lU (SU.build I (buildB89 _)) (SL.bx (aL zeroValue89) fun b6=>?_))))));refine SL.O2 (sK 0 zT89 I I I I I sB) ?_;refine SL.nT (SC.sR (lU (SU.mkFunc I) (lA I (SL.nT (sQ (SC.sR (lU (fA uT29 I zT27 I) (lK (qL iT27 I (cO 1 I I)) (lU (eN uT27 I) (lM I (SL.nT (bK (SC.nilRow 162 2 ?_)))))))))))));refine oP (ι:=Nat×PH×Value×List Im) (fun i=>[(2,pp b2 0),(4,pp b4 0),(6,pp b6 0),(7,.func (.func 111) #[] #[pp b2 0]),(26,.slice p rs.length c),(27,vi rs.length),(28,vi i.1)]) (fun i=>i.2.1)
  (fun i=>rowA encIm 162 i.2.2.1 i.2.2.2::pt b6 (.cells #[i.2.2.1,vb bk] 89 (0,0))::pt b5 (.cells #[.slice p rs.length c] 29 (0,0))::pt b4 (.cells #[.slice none 0 0,vb false] 89 (0,0))::pt b3 (.cells #[.slice pv D.length cv] 29 (0,0))::pt b2 (.cells #[pp bx 0] 122 (0,0))::s)
  (fun i=>i.1≤rs.length∧Le g i.2.1∧All2 (ImR i.2.1) ((F.take i.1).map selfT) i.2.2.2) (fun i=>rs.length - i.1) (0,g,.slice none 0 0,[])
  sB rfl rfl ⟨Nat.zero_le _,Le.refl g,by simp[All2]⟩ ?_
 rintro ⟨k,g1,ov,acc⟩ ⟨hk,hle,hacc⟩;dsimp only at hk hle hacc ⊢;have hal:=hacc.length;rw[List.length_map,List.length_take] at hal;refine SC.sR (lU (lS I I) (SL.nT (sQ ?_)));refine iP I (fun hlt=>?_) (fun hlt=>?_)
 ·have hkr:k<rs.length:=oM;have hkl:k<F.length:=oM;have hb1:=SlA.based hrs oM;have hcr:=hall.get (gE hkl) (gE hkr);have hgx:rs[((k:Nat):Int).toNat]?=some rs[k]:=gE hkr;have htk:F.take (k+1)=F.take k++[F[k]]:=tS hkl;generalize rs[k]=x at *;generalize F[k]=cx at *;obtain ⟨xi,xd,xp,xn,xc⟩:=x;obtain ⟨e1,e2,-⟩:=hcr;dsimp only at e1 e2;subst e1 e2;refine kP (tN (sQ (bK (SC.sR (lU (iA uT27 zT54 I I hb1 oM (show (k:Int)<((rs.length:Nat):Int) by omega)) ?_)))));refine lK (eA iT54 zT54 I (SlA.rd (SlA.mono hrs hle)) hgx) (SL.bx (aL zeroValue54) fun b9=>?_);refine SL.O2 (sK 0 zT54 I I I I I sB) ?_;refine SL.nT ?_;refine dW [11,14] [(0,2),(1,2),(2,1),(3,2),(4,1),(5,2),(6,2),(7,1),(8,0),(9,2),(10,0),(11,0),(12,2),(13,2),(14,0)] Tryz.mixed (by kernel_rfl) ?_;refine pU rfl (fA underlying89 rfl sizeOf87 rfl) (pU rfl (fA underlying87 rfl sizeOf85 rfl) (pK rfl (qL isAgg85 rfl (cO 2 rfl rfl)) (pU rfl (fA uT54 rfl zT3 rfl) (pK rfl (qL iT3 rfl (cO 0 rfl rfl)) (pU rfl (mV rfl) (pU rfl (fA uT54 rfl zT3 rfl) (pK rfl (qL iT3 rfl (cO 0 rfl rfl)) (SP.o rfl (SO.callV rfl rfl (image_none E g1 _ b2 bx mb ms _ bk cx.id (i+7) (j+7) 6 rfl hi hj)) dC (.inr (by rintro v40 g2 _ ⟨rfl,hle2,hch⟩; exact⟨by assumption,(by exact .refl _)⟩)) ?_))))))));rintro v40 g2 _ ⟨rfl,hle2,hch⟩;obtain ⟨q2,d2,rfl⟩:=SlA.form hch;refine pU rfl (SU.build rfl (build162 _ _ _ _)) (SP.o rfl (SO.buildSlice sty85 rfl rfl rfl (szs_mk sB) dC) dC (.inr (by rintro _ _ _ ⟨b42,rfl,rfl,rfl⟩; exact⟨by assumption,(by exact .cons _ (.refl _))⟩)) ?_);rintro _ _ _ ⟨b42,rfl,rfl,rfl⟩;refine SP.o I (aP (e:=encIm) 1 ⟨cx.id,⟨q2,1,d2⟩⟩ sty85 I I I I I oM oM) dC (.inl dC) ?_;rintro ov' _ _ ⟨rfl,rfl⟩;refine SP.facts fun ⟨w0,hw0⟩=>?_;obtain ⟨q',d',rfl⟩:=rowA_form (e:=encIm) (l:=acc++[⟨cx.id,⟨q2,1,d2⟩⟩]) (i:=1) hw0 rfl;clear hw0 w0;refine pU rfl (fA underlying89 rfl sizeOf87 rfl) (pU rfl (fA underlying87 rfl sizeOf85 rfl) (SP.on rfl (SO.store1 2 sizeOf85 rfl rfl rfl rfl (bE rfl) (by rfl)) (.inl dC) ?_));rintro _ _ _ ⟨rfl,rfl⟩;refine pN (bN (tN (rG (lU (aD I I oM) (lM I (nL (dR (.cons _ (.refl _)) ?_)))))));exact ST.again (k+1,g2,_,acc++[⟨cx.id,⟨q2,1,d2⟩⟩]) sB I I ⟨by dsimp only; omega,hle.trans hle2,by
   dsimp only;rw[htk,List.map_append];exact (hacc.mono fun _ _=>ImR.mono hle2).append ⟨⟨I,hch⟩,trivial⟩⟩ (by dsimp only; omega)
 ·have hkk:F.take k=F:=tL oM;rw[hkk] at hacc;refine xI (tX (tX (bX (tN (sQ (fS fun g2 hle2 hs2=>?_))))));obtain ⟨q2,d2,rfl⟩:=Sl.form hs2;refine rG (lK (qV 0 isAgg89 zT89 I I I) (SL.O2 (sK 2 zT89 I I I I I sB) ?_));refine SL.nT (rE ?_);exact ST.retCD 2 s (.inl I) results76 I isAgg89 zT89 I I (.cons _ (.cons _ (.cons _ (.cons _ (.cons _ (.refl _)))))) ⟨I,hle.trans hle2,_,I,acc,hs2,hacc.mono fun _ _=>ImR.mono hle2⟩
set_option maxHeartbeats 2000000
theorem Ctr.freezeO {P:Program}{E:World}{n:FuncId}{args:Array Value}{g:PH}{L s:Own}{R:Value→PH→Own→Prop}{A:List Cl}{rs:List Rc}(hO:All2 CellO A rs)
  (h:∀ g1,Le g g1→All2 (CellR g1) A rs→Ctr P E n args g1 (L++s) R):Ctr P E n args g (L++(ownS A rs++s)) R:=fun w hw=>by
 have h1:(L++(ownS A rs++s)).Perm (ownS A rs++(L++s)):=by
  rw[← List.append_assoc,← List.append_assoc];exact List.perm_append_comm.append_right s
 obtain ⟨g1,h2,h3,h4⟩:=Go.Proofs.YteahknngoogpaaaGreatDoor.freezeO hO (hw.perm h1);exact h g1 h2 h4 w h3
def KindRun (fv:Value)(e:Ed)(A:List Cl)(code:Int)(B:List Cl)(bk:Bool):Prop :=
 ∀ (E:World) (g:PH) (s:Own) (bx mb ms:Nat) (u v:Value) (rs:List Rc),Cells g u A→All2 CellO A rs→EdR g v e →
  CallV Tryz.prog E fv [pp bx 0,v] g (edP bx u mb ms false::mp mb (rs.map rcPair)::mp ms []::(ownS A rs++s)) (fun r g' s'=>Le g g'∧r=vi code∧(if code=0 then ∃ rs',All2 (CellR g') B rs'∧s'=edP bx u mb ms bk::mp mb (rs'.map rcPair)::mp ms []::s else ∃ h,s'=h++s))
def attachCode (A:List Cl)(e:Ed):Int:=if (findT A e.cell).isSome then 54 else 0
def removeCode (A:List Cl)(e:Ed):Int:=if (findT A e.cell).isSome then (if 0<(aboveC A e.cell).length then 31 else 0) else 30
theorem attach_run (A:List Cl)(e:Ed)(he:e.sides.length<1099511627776):KindRun (.func (.func 105) #[] #[]) e A (attachCode A e) (putC A ⟨e.cell,e.dim,e.sides⟩) false:=by
 intro E g s bx mb ms u v rs hu hO hv;refine CallV.mk (args:=[_,_]) (cap:=[]) call105 ?_;refine Ctr.freezeO (L:=[edP bx u mb ms false,mp mb (rs.map rcPair),mp ms []]) hO fun g1 hle1 hall=>?_;refine (attach_spec E g1 _ bx mb ms u v false e A rs hall 0 1 I I (hv.mono hle1) he).mono ?_;rintro r g' s' ⟨hle,h⟩;refine⟨hle1.trans hle,?_⟩;unfold attachCode
 rcases h with ⟨rfl,h1,rfl⟩ | ⟨rfl,h1,rs',h2,rfl⟩
 ·rw[h1];exact⟨I,[edP bx u mb ms false,mp mb (rs.map rcPair),mp ms []],I⟩
 ·rw[h1];exact⟨I,rs',h2,I⟩
theorem remove_run (A:List Cl)(hf:Fits A)(e:Ed):KindRun (.func (.func 106) #[] #[]) e A (removeCode A e) (delC A e.cell) true:=by
 intro E g s bx mb ms u v rs hu hO hv;refine CallV.mk (args:=[_,_]) (cap:=[]) call106 ?_;refine Ctr.freezeO (L:=[edP bx u mb ms false,mp mb (rs.map rcPair),mp ms []]) hO fun g1 hle1 hall=>?_;refine (remove_spec E g1 _ bx mb ms u v false e A A rs (hu.mono hle1) hf hall 0 1 I I dC (hv.mono hle1)).mono ?_;rintro r g' s' ⟨hle,h⟩;refine⟨hle1.trans hle,?_⟩;unfold removeCode
 rcases h with ⟨rfl,h1,rfl⟩ | ⟨rfl,h1,h2,rfl⟩ | ⟨rfl,h1,h2,rfl⟩
 ·rw[h1];exact⟨I,[edP bx u mb ms false,mp mb (rs.map rcPair),mp ms []],I⟩
 ·rw[h1,if_pos rfl,if_pos h2];exact⟨I,[edP bx u mb ms false,mp mb (rs.map rcPair),mp ms []],I⟩
 ·rw[h1,h2];exact⟨I,delR rs e.cell,(all2_del (fun _ _ h=>h.1) e.cell hall).mono fun _ _=>CellR.mono hle,I⟩
theorem get_after {α:Type}(L r:List α)(k:Nat):(L++r)[L.length+k]?=r[k]?:=by
 rw[List.getElem?_append_right oM,Nat.add_sub_cancel_left]
def applyOut (code:Int)(B:List Cl):Int×List Cl :=
 if code≠0 then (code,[]) else if (checkC (canonC B)).2≠0 then ((checkC (canonC B)).2,[]) else (0,canonC B)
theorem Tryz.buildZ89 (w:World):(Instr.build 89 #[]).run Tryz.prog w = .ok (.agg #[.slice none 0 0,vb false]) w:=by
 simp[Instr.build,Instr.fill];rfl
theorem Cells.nil (g:PH):Cells g (.slice none 0 0) []:=⟨[],Sl.nil g _,trivial⟩
theorem edRight_B (E:World)(g:PH)(s:Own)(v:Value)(l:List Cl)(hv:Cells g v l)(hf:Fits l)(b:Bool)(hb:decide ((checkC l).2=0)=b) :
  Ctr Tryz.prog E 73 #[.agg #[v]] g s (fun r g' s'=>r=vb b∧g=g'∧s=s'):=by
 subst hb;exact edRight_spec E g s v l hv hf
def ApplyR (code:Int)(D:List Cl)(r:Value)(g':PH):Prop:=∃ u p n c b,r = .tuple #[.agg #[u],.agg #[.slice p n c,vb b],vi code]∧Cells g' u D
theorem apply_bad (E:World)(g:PH)(s:Own)(v ev:Value)(l:List Cl)(e:Ed)(hv:Cells g v l)(hf:Fits l)(he:EdR g ev e)(hbad:mget kindsM e.kind=none∨(checkC l).2≠0) :
  Ctr Tryz.prog E 43 #[.agg #[v],ev] g s (fun r g' s'=>s=s'∧Le g g'∧ApplyR 1 [] r g'):=by
 obtain ⟨z,hz⟩:=Tryz.mtyKinds;obtain ⟨sv,pv,rfl,hsv,hpv⟩:=he;obtain ⟨sp,sc,rfl⟩:=SlA.form hsv;obtain ⟨pq,pc,rfl⟩:=SlA.form hpv;obtain ⟨p,c,rfl⟩:=hv.form;refine Ctr.of (args:=[.agg #[.slice p l.length c],.agg #[vi e.kind,vi e.cell,vi e.dim,vi e.new,vi e.other,.slice sp e.sides.length sc,.slice pq e.pairs.length pc]]) func43 I ntmps43 (bE I) ?_;cases hg:mget kindsM e.kind with
 | none =>
  refine SC.sR (SL.bx (bO I) fun b2=>?_);refine SL.bx (bO I) fun b3=>?_;refine SL.bx (aL zeroValue29) fun b4=>?_;refine SL.bx (aL zeroValue89) fun b5=>?_;refine lA I (SL.nT (sQ ?_));refine dW [] [(1,2),(2,1),(0,0),(3,0),(4,2),(5,2),(6,2),(7,2),(8,2)] Tryz.mixed (by kernel_rfl) ?_;refine pU rfl (fA uT39 rfl zT3 rfl) (pK rfl (qL iT3 rfl (cO 2 rfl rfl)) (SP.o rfl (SO.call call72 rfl (kinds_spec E g _)) dC (.inr (by rintro _ g1 _ ⟨rfl,hle1,bk,rfl,hk⟩; exact⟨by assumption,(by exact .refl _)⟩)) ?_));rintro _ g1 _ ⟨rfl,hle1,bk,rfl,hk⟩;refine oQ rfl (SQ.eq (v':=.tuple #[z,vb false]) (SQ.lookupOk hz rfl rfl (MapAt.known hk)) (by rw[hg]; rfl)) dC (.inr ⟨by assumption,(by exact .refl _)⟩) ?_;refine pU I (mV I) (pU I (xT I I) (pU I (xT I I) (pU I (aS I) (pU I (aS I) (pN (tN (sQ (SC.sR (lM I (lU (SU.not I) (lM I (lZ I I I (lZ I I I (lZ I I I (lU (pT I I) (SL.nT (cT I (SC.sR (lU (SU.build I buildE29) (lU (SU.build I buildZ89) (SL.O2 (sK 1 zT29 I I I I I sB) ?_)))))))))))))))))))));refine SL.O2 (sK 0 zT89 I I I I I sB) ?_;refine lA I (SL.nT (rE (tR ?_)));exact ST.retCCT 1 0 s (.inl I) results43 I I I iT29 zT29 isAgg89 zT89 I I I I (.cons _ (.cons _ (.cons _ (.cons _ (.refl _))))) ⟨I,hle1,_,_,_,_,_,I,Cells.nil _⟩
 | some fv =>
  have hc:decide ((checkC l).2=0)=false:=decide_eq_false (by
   rcases hbad with h | h
   ·rw[hg] at h; cases h
   ·exact h)
  refine SC.sR (SL.bx (bO I) fun b2=>?_);refine SL.bx (bO I) fun b3=>?_;refine SL.bx (aL zeroValue29) fun b4=>?_;refine SL.bx (aL zeroValue89) fun b5=>?_;refine lA I (SL.nT (sQ ?_));refine dW [] [(1,2),(2,1),(0,0),(3,0),(4,2),(5,2),(6,2),(7,2),(8,2)] Tryz.mixed (by kernel_rfl) ?_;refine pU rfl (fA uT39 rfl zT3 rfl) (pK rfl (qL iT3 rfl (cO 2 rfl rfl)) (SP.o rfl (SO.call call72 rfl (kinds_spec E g _)) dC (.inr (by rintro _ g1 _ ⟨rfl,hle1,bk,rfl,hk⟩; exact⟨by assumption,(by exact .refl _)⟩)) ?_));rintro _ g1 _ ⟨rfl,hle1,bk,rfl,hk⟩;refine oQ rfl (SQ.eq (v':=.tuple #[fv,vb true]) (SQ.lookupOk hz rfl rfl (MapAt.known hk)) (by rw[hg]; rfl)) dC (.inr ⟨by assumption,(by exact .refl _)⟩) ?_;refine pU I (mV I) (pU I (xT I I) (pU I (xT I I) (pU I (aS I) (pU I (aS I) (pN (tN (sQ (SC.sR (lM I (lU (SU.not I) (lM I (SL.gq (gT I I I dC) (qV 3 iT29 zT29 I I I) dC (SL.go (gT I I I dC) (SO.call call73 I (edRight_B E g1 _ _ l (hv.mono hle1) hf false hc)) dC ?_)))))))))))));rintro _ _ _ ⟨rfl,rfl,rfl⟩;refine lY I I I (SU.not I) (lU (pF I I) (SL.nT (cT I (SC.sR (lU (SU.build I buildE29) (lU (SU.build I buildZ89) (SL.O2 (sK 1 zT29 I I I I I sB) ?_)))))));refine SL.O2 (sK 0 zT89 I I I I I sB) ?_;refine lA I (SL.nT (rE (tR ?_)));exact ST.retCCT 1 0 s (.inl I) results43 I I I iT29 zT29 isAgg89 zT89 I I I I (.cons _ (.cons _ (.cons _ (.cons _ (.refl _))))) ⟨I,hle1,_,_,_,_,_,I,Cells.nil _⟩
theorem apply_run (E:World)(g:PH)(s:Own)(v ev:Value)(l:List Cl)(e:Ed)(hv:Cells g v l)(hf:Fits l)(he:EdR g ev e)(hr:(checkC l).2=0)(fv:Value)(code:Int)(B:List Cl)(bk:Bool)(hg:mget kindsM e.kind=some fv)(hrun:KindRun fv e (canonC l) code B bk)(hB:code=0→Fits B∧(B.map Cl.id).Nodup) :
  Ctr Tryz.prog E 43 #[.agg #[v],ev] g s (fun r g' s'=>s=s'∧Le g g'∧ApplyR (applyOut code B).1 (applyOut code B).2 r g'):=by
 obtain ⟨z,hz⟩:=Tryz.mtyKinds;have he0:=he;obtain ⟨sv,pv,rfl,hsv,hpv⟩:=he;obtain ⟨sp,sc,rfl⟩:=SlA.form hsv;obtain ⟨pq,pc,rfl⟩:=SlA.form hpv;obtain ⟨p,c,rfl⟩:=hv.form;have hc:decide ((checkC l).2=0)=true:=decide_eq_true hr;have hnd:((canonC l).map Cl.id).Nodup:=by
  rw[List.Nodup,List.pairwise_map];exact (rt_of hr).asc.imp fun h=>by omega
 have hAf:=canonC_fits hf;refine Ctr.of (args:=[.agg #[.slice p l.length c],.agg #[vi e.kind,vi e.cell,vi e.dim,vi e.new,vi e.other,.slice sp e.sides.length sc,.slice pq e.pairs.length pc]]) func43 I ntmps43 (bE I) ?_;refine SC.sR (SL.bx (bO I) fun b2=>?_);refine SL.bx (bO I) fun b3=>?_;refine SL.bx (aL zeroValue29) fun b4=>?_;refine SL.bx (aL zeroValue89) fun b5=>?_;refine lA I (SL.nT (sQ ?_));refine dW [] [(1,2),(2,1),(0,0),(3,0),(4,2),(5,2),(6,2),(7,2),(8,2)] Tryz.mixed (by kernel_rfl) ?_;refine pU rfl (fA uT39 rfl zT3 rfl) (pK rfl (qL iT3 rfl (cO 2 rfl rfl)) (SP.o rfl (SO.call call72 rfl (kinds_spec E g _)) dC (.inr (by rintro _ g1 _ ⟨rfl,hle1,bq,rfl,hk⟩; exact⟨by assumption,(by exact .refl _)⟩)) ?_));rintro _ g1 _ ⟨rfl,hle1,bq,rfl,hk⟩;refine oQ rfl (SQ.eq (v':=.tuple #[fv,vb true]) (SQ.lookupOk hz rfl rfl (MapAt.known hk)) (by rw[hg]; rfl)) dC (.inr ⟨by assumption,(by exact .refl _)⟩) ?_;refine pU I (mV I) (pU I (xT I I) (pU I (xT I I) (pU I (aS I) (pU I (aS I) (pN (tN (sQ (SC.sR (lM I (lU (SU.not I) (lM I (SL.gq (gT I I I dC) (qV 3 iT29 zT29 I I I) dC (SL.go (gT I I I dC) (SO.call call73 I (edRight_B E g1 _ _ l (hv.mono hle1) hf true hc)) dC ?_)))))))))))));rintro _ _ _ ⟨rfl,rfl,rfl⟩;refine lY I I I (SU.not I) (lU (pF I I) (SL.nT (cF I (kP (tN (SC.sR (lK (qV 3 iT29 zT29 I I I) (lW (SO.call call74 I (open_own E g1 _ _ l (hv.mono hle1) hf hnd)) ?_))))))));rintro _ g2 _ ⟨hle2,bx,u,mb,ms,rs,rfl,hu,hO,rfl⟩;refine lA I (SL.nT (SC.sR (lM I (lM I (lK (qV ((ownS (canonC l) rs).length+2+3) isAgg39 sizeOf39 I (by exact (get_after (ownS (canonC l) rs) _ 2).trans I) I) ?_)))));refine lW (SO.callV I I (hrun E g2 _ bx mb ms u _ rs hu hO (he0.mono (hle1.trans hle2)))) ?_;rintro _ g3 _ ⟨hle3,rfl,hcase⟩;by_cases hc0:code=0
 ·obtain ⟨hBf,hBn⟩:=hB hc0;subst hc0;rw[if_pos rfl] at hcase;obtain ⟨rs',hall,rfl⟩:=hcase;have hcB:=canonC_fits hBf;have hout:applyOut 0 B=if (checkC (canonC B)).2≠0 then ((checkC (canonC B)).2,[]) else (0,canonC B):=rfl
  rw[hout];refine lA I (SL.nT (SC.sR (SL.bx (aL zeroValue29) fun b11=>?_)));refine SL.nT (sQ (SC.sR (lM I (lU (eQ I I) (SL.nT (cT I (sQ (cP (List.perm_middle (l₁:=[pt b11 (.cells #[.slice none 0 0] 29 (0,0)),edP bx u mb ms bk])) (SC.freezeMap fun g4 hle4 hm4=>?_)))))))));refine rG (lM I (lW (SO.call call75 I (result_spec E g4 _ bx mb ms u bk B rs' (hall.mono fun _ _=>CellR.mono hle4) hBn hBf hm4 1 I)) ?_));rintro _ g5 _ ⟨rfl,hle5,u5,rfl,hu5⟩;obtain ⟨p5,c5,rfl⟩:=hu5.form;refine SL.O2 (sK 0 zT29 I I I I I sB) ?_;refine SL.nT (rG (lK (qV 0 iT29 zT29 I I I) (lW (SO.call call24 I (check_spec E g5 _ _ (canonC B) hu5 hcB)) ?_)));rintro _ _ _ ⟨rfl,rfl,rfl⟩;refine lM I (lU (xT I I) (lU (xT I I) (lA I (SL.nT (sQ (SC.sR (lM I (lU (nQ I I) (SL.nT ?_)))))))));refine iP I (fun h2=>?_) (fun h2=>?_)
  ·have he2:(if (checkC (canonC B)).2≠0 then ((checkC (canonC B)).2,[]) else ((0:Int),canonC B))=((checkC (canonC B)).2,[]):=if_pos h2;rw[he2];refine SC.sR (lU (SU.build I buildE29) (lU (SU.build I buildZ89) (lM I (SL.O2 (sK 4 zT29 I I I I I sB) ?_))));refine SL.O2 (sK 3 zT89 I I I I I sB) ?_;refine lA I (SL.nT (rE (tR ?_)));exact ST.retCCT 4 3 s (.inl I) results43 I I I iT29 zT29 isAgg89 zT89 I I I I (.cons _ (.cons _ (.cons _ (.cons _ (.cons _ (.cons _ (.cons _ (.refl _)))))))) ⟨I,hle1.trans (hle2.trans (hle3.trans (hle4.trans hle5))),_,_,_,_,_,I,Cells.nil _⟩
  ·have he2:(if (checkC (canonC B)).2≠0 then ((checkC (canonC B)).2,[]) else ((0:Int),canonC B))=(0,canonC B):=if_neg h2;rw[he2];refine kP (tN (sQ ?_));refine dW [4,5] [(0,1),(1,2),(2,1),(3,0),(4,0),(5,0),(6,2)] Tryz.mixed (by kernel_rfl) ?_;refine pK rfl (qV 0 iT29 zT29 rfl rfl rfl) (pU rfl (mV rfl) (pK rfl (qV 0 iT29 zT29 rfl rfl rfl) (SP.o rfl (SO.call call76 rfl (step_none E g5 _ bx mb ms u _ bk (canonC l) (canonC B) (hu.mono (hle3.trans (hle4.trans hle5))) hu5 hAf.1 hcB.1 1 2 rfl rfl)) dC (.inr (by rintro _ g6 _ ⟨rfl,hle6,iv,rfl,him⟩; exact⟨by assumption,(by exact .refl _)⟩)) ?_)));rintro _ g6 _ ⟨rfl,hle6,iv,rfl,him⟩;obtain ⟨im,him1,him2⟩:=him;obtain ⟨p6,c6,rfl⟩:=SlA.form him1;refine SP.on I (sK 4 zT29 I I I I I sB) (.inl dC) ?_;rintro _ _ _ ⟨rfl,rfl⟩;refine SP.on I (sK 3 zT89 I I I I I sB) (.inl dC) ?_;rintro _ _ _ ⟨rfl,rfl⟩;refine pU I (aS I) (pN (tN (rE ?_)));exact ST.retCCT 4 3 s (.inl I) results43 I I I iT29 zT29 isAgg89 zT89 I I I I (.cons _ (.cons _ (.cons _ (.cons _ (.cons _ (.cons _ (.cons _ (.refl _)))))))) ⟨I,hle1.trans (hle2.trans (hle3.trans (hle4.trans (hle5.trans hle6)))),_,_,_,_,_,I,hu5.mono hle6⟩
 ·rw[if_neg hc0] at hcase;obtain ⟨h,rfl⟩:=hcase;have hout:applyOut code B=(code,[]):=if_pos hc0;rw[hout];refine SL.drop (List.sublist_append_right _ _) (lA I (SL.nT (SC.sR (SL.bx (aL zeroValue29) fun b11=>?_))));refine SL.nT (sQ (SC.sR (lM I (lU (eQ I I) (SL.nT ?_)))));refine iP I (fun h0=>?_) (fun h0=>?_)
  ·exact absurd h0 hc0
  ·refine kP (tN (sQ (SC.sR (lM I (lU (nQ I I) (SL.nT ?_))))));refine iP I (fun h2=>?_) (fun h2=>?_)
   ·refine SC.sR (lU (SU.build I buildE29) (lU (SU.build I buildZ89) (lM I (SL.O2 (sK 2 zT29 I I I I I sB) ?_))));refine SL.O2 (sK 1 zT89 I I I I I sB) ?_;refine lA I (SL.nT (rE (tR ?_)));exact ST.retCCT 2 1 s (.inl I) results43 I I I iT29 zT29 isAgg89 zT89 I I I I (.cons _ (.cons _ (.cons _ (.cons _ (.cons _ (.refl _)))))) ⟨I,hle1.trans (hle2.trans hle3),_,_,_,_,_,I,Cells.nil _⟩
   ·exact absurd hc0 h2
def ApplyTo (l:List Cl)(e:Ed)(code:Int)(D:List Cl):Prop:=∀ (E:World) (g:PH) (s:Own) (v ev:Value),Cells g v l→EdR g ev e →
 Ctr Tryz.prog E 43 #[.agg #[v],ev] g s (fun r g' s'=>s=s'∧Le g g'∧ApplyR code D r g')
def nowC (e:Ed)(id:Int):Int:=if e.kind=4 then match e.pairs.find? (fun p=>decide (p.2=id)) with
  | some p=>p.1
  | none=>id
 else id
def repairOut (m:List Pr)(e:Ed)(code:Int)(D:List Cl):Int×List Cl×List Pr :=
 if code≠0 then (code,[],[]) else (0,D,extendR D (m.map fun p=>(nowC e p.1,nowC e p.2)))
def RepairR (o:Int×List Cl×List Pr)(r:Value)(g':PH):Prop:=∃ u pv,r = .tuple #[.agg #[u],pv,vi o.1]∧Cells g' u o.2.1∧SlA encPr g' pv o.2.2
theorem now_found {e:Ed}{id:Int}(h4:e.kind=4){k:Nat}(hk:k<e.pairs.length)(h:e.pairs[k].2=id)(hn:∀ j (hj:j<k),(e.pairs[j]'oM).2≠id):nowC e id=e.pairs[k].1:=by
 have hf:e.pairs.find? (fun p=>decide (p.2=id))=some e.pairs[k]:=List.find?_eq_some_iff_getElem.2 ⟨by simpa using h,k,hk,rfl,fun j hj=>by simpa using hn j hj⟩;unfold nowC;rw[if_pos h4,hf]
theorem now_none {e:Ed}{id:Int}(hn:e.kind=4→∀ p∈e.pairs,p.2≠id):nowC e id=id:=by
 unfold nowC;split
 ·rename_i h4;have hf:e.pairs.find? (fun p=>decide (p.2=id))=none:=List.find?_eq_none.2 fun p hp=>by simpa using hn h4 p hp
  rw[hf]
 ·rfl
theorem now_spec (E:World)(g:PH)(s:Own)(b5:Nat)(sv pv:Value)(e:Ed)(id:Int)(q:Nat)(hq:s[q]?=some (pt b5 (.cells #[vi e.kind,vi e.cell,vi e.dim,vi e.new,vi e.other,sv,pv] 39 (0,0))))(hpv:SlA encPr g pv e.pairs)(hpl:e.pairs.length<1099511627776) :
  CallV Tryz.prog E (.func (.func 44) #[] #[pp b5 0]) [vi id] g s (fun r g' s'=>r=vi (nowC e id)∧g=g'∧s=s'):=by
 obtain ⟨p,c,rfl⟩:=SlA.form hpv;refine CallV.mk (args:=[_]) (cap:=[pp b5 0]) call44 ?_;refine Ctr.of (args:=[vi id,pp b5 0]) func44 I ntmps44 (bE I) ?_;refine SC.sR (lA I (SL.nT (sQ (SC.sR (lU (fA uT39 I sizeOf31 I) (lK (qL (v:=.slice p e.pairs.length c) isAgg31 I (cO q hq I)) (lU (eN uT31 I) (lM I (SL.nT (bK ?_))))))))));refine oP (ι:=Nat) (fun k=>[(0,vi id),(1,pp b5 0),(7,.slice p e.pairs.length c),(8,vi e.pairs.length),(9,vi k)]) (fun _=>g) (fun _=>s)
  (fun k=>k≤e.pairs.length∧(e.kind=4→∀ j (hj:j<k) (hl:j<e.pairs.length),e.pairs[j].2≠id)) (fun k=>e.pairs.length - k) 0 sB rfl rfl ⟨Nat.zero_le _,fun _ j hj=>absurd hj oM⟩ ?_
 rintro k ⟨hk,hno⟩;try dsimp only at hk hno ⊢
 refine SC.sR (lU (lS I I) (SL.nT (sQ ?_)));refine iP I (fun hlt=>?_) (fun hlt=>?_)
 ·have hkl:k<e.pairs.length:=oM;have hb1:=SlA.based hpv oM;have hgk:e.pairs[((k:Nat):Int).toNat]?=some e.pairs[k]:=gE hkl;have hfound:=fun h4 h=>now_found (e:=e) (id:=id) h4 hkl h (fun j hj=>hno h4 j hj oM);have hsucc:(e.kind=4→e.pairs[k].2≠id)→e.kind=4→∀ j (hj:j<k+1) (hl:j<e.pairs.length),e.pairs[j].2≠id:=fun h h4 j hj hl=>by
   by_cases hjk:j=k
   ·subst hjk; exact h h4
   ·exact hno h4 j oM hl
  generalize e.pairs[k]=x at *;obtain ⟨x1,x2⟩:=x;dsimp only at hfound hsucc;by_cases h4:e.kind=4
  ·refine kP (tN (sQ (bK (SC.sR (lU (iA uT31 zT44 I I hb1 oM sL) (lK (eA iT44 zT44 I (SlA.rd hpv) hgk) (SL.bx (aL zeroValue44) fun b5=>?_)))))));refine SL.O2 (sK 0 zT44 I I I I I sB) ?_;refine SL.nT (SC.sR (lU (fA uT39 I zT3 I) (lK (qL (v:=vi e.kind) iT3 I (cO (q+1) hq I)) (lU (SU.eq (v':=vb true) (eQ I I) (congrArg vb (decide_eq_true h4))) (lM I (lY I I I (iB uT44 zT3 I I dC dC) (SL.gq (gT I I I dC) (qL (v:=vi x2) iT3 I (cO 0 I I)) dC (lY I I I (mV I) (lY I I I (eQ I I) (lU (pT I I) (SL.nT ?_)))))))))));refine iP I (fun hx=>?_) (fun hx=>?_)
   ·refine SC.sR (lU (iB uT44 zT3 I I dC dC) (lK (qL (v:=vi x1) iT3 I (cO 0 I I)) (lA I (SL.nT (rE (bR (tR (tR (bR (tR (dR (s':=s) (.cons _ (.refl _)) ?_)))))))))));exact ST.ret1 (.inl I) results44 I ⟨by rw[hfound h4 hx],I,I⟩
   ·refine kP (bN (tN (rG (lU (aD I I oM) (lM I (nL (dR (s':=s) (.cons _ (.refl _)) ?_)))))));exact ST.again (k+1) sB I I ⟨oM,hsucc fun _=>hx⟩ oM
  ·refine kP (tN (sQ (bK (SC.sR (lU (iA uT31 zT44 I I hb1 oM sL) (lK (eA iT44 zT44 I (SlA.rd hpv) hgk) (SL.bx (aL zeroValue44) fun b5=>?_)))))));refine SL.O2 (sK 0 zT44 I I I I I sB) ?_;refine SL.nT (SC.sR (lU (fA uT39 I zT3 I) (lK (qL (v:=vi e.kind) iT3 I (cO (q+1) hq I)) (lU (SU.eq (v':=vb false) (eQ I I) (congrArg vb (decide_eq_false h4))) (lM I (lZ I I I (lZ I I I (lZ I I I (lZ I I I (lU (pF I I) (SL.nT (cF I (kP (bN (tN (rG (lU (aD I I oM) (lM I (nL (dR (s':=s) (.cons _ (.refl _)) ?_))))))))))))))))))));exact ST.again (k+1) sB I I ⟨oM,hsucc fun h=>absurd h h4⟩ oM
 ·refine xI (tX (tX (bX (tN (SC.sR (lM I (lA I (SL.nT (rE ?_)))))))));exact ST.ret1 (.inl I) results44 I ⟨by
   rw[now_none fun h4 x hx=>?_];obtain ⟨j,hj,rfl⟩:=List.getElem_of_mem hx;exact hno h4 j oM hj,I,I⟩
theorem repairProg_spec (E:World)(g:PH)(s:Own)(v mv ev:Value)(l:List Cl)(m:List Pr)(e:Ed)(code:Int)(D:List Cl)(hv:Cells g v l)(hm:SlA encPr g mv m)(he:EdR g ev e)(hml:m.length<499999999999)(hpl:e.pairs.length<1099511627776)(ha:ApplyTo l e code D)(hD:code=0→Fits D∧D.length≤100000) :
  Ctr Tryz.prog E 20 #[.agg #[v],mv,ev] g s (fun r g' s'=>s=s'∧Le g g'∧RepairR (repairOut m e code D) r g'):=by
 have he0:=he;obtain ⟨sv,pv,rfl,hsv,hpv⟩:=he;obtain ⟨sp,sc,rfl⟩:=SlA.form hsv;obtain ⟨pq,pc,rfl⟩:=SlA.form hpv;obtain ⟨p,c,rfl⟩:=hv.form;obtain ⟨q,d,rfl⟩:=SlA.form hm;refine Ctr.of (args:=[.agg #[.slice p l.length c],.slice q m.length d,.agg #[vi e.kind,vi e.cell,vi e.dim,vi e.new,vi e.other,.slice sp e.sides.length sc,.slice pq e.pairs.length pc]]) func20 I ntmps20 (bE I) ?_;refine SC.sR (SL.bx (bO I) fun b3=>?_);refine SL.bx (bO I) fun b5=>?_;refine SL.bx (aL zeroValue29) fun b6=>?_;refine lA I (lA I (SL.nT (SC.sR (lK (qV 2 iT29 zT29 I I I) (lK (qV 1 isAgg39 sizeOf39 I I I) (lW (SO.call call43 I (ha E g _ _ _ hv he0)) ?_))))));rintro _ g1 _ ⟨rfl,hle1,u1,p1,n1,c1,k1,rfl,hu1⟩;obtain ⟨pu,cu,rfl⟩:=hu1.form;refine lM I (lU (xT I I) (lU (xT I I) (lU (xT I I) (SL.bx (aL zeroValue29) fun b9=>?_))));refine SL.bx (aL zeroValue89) fun b10=>?_;refine SL.O2 (sK 1 zT29 I I I I I sB) ?_;refine SL.O2 (sK 0 zT89 I I I I I sB) ?_;refine lA I (SL.nT (sQ (SC.sR (lM I (lU (nQ I I) (SL.nT ?_))))));refine iP I (fun hc0=>?_) (fun hc0=>?_)
 ·have ho:repairOut m e code D=(code,[],[]):=if_pos hc0;rw[ho];refine SC.sR (lU (SU.build I buildE29) (lM I (SL.O2 (sK 2 zT29 I I I I I sB) ?_)));refine lA I (lA I (SL.nT (rE (tR ?_))));exact ST.retCTT 2 s (.inl I) results20 I I I iT29 zT29 I I (.cons _ (.cons _ (.cons _ (.cons _ (.cons _ (.refl _)))))) ⟨I,hle1,_,_,I,Cells.nil _,Sl.nil _ _⟩
 ·have hc:code=0:=Decidable.not_not.1 hc0;subst hc;obtain ⟨hDf,hDl⟩:=hD rfl;have ho:repairOut m e 0 D=(0,D,extendR D (m.map fun p=>(nowC e p.1,nowC e p.2))):=rfl;rw[ho];have hm1:=SlA.mono hm hle1;have hpv1:=SlA.mono hpv hle1;refine kP (tN (SC.sR (lU (SU.mkFunc I) (lA I (SL.nT (SC.sR (lA I (SL.nT (sQ (SC.sR (lM I (lU (eN uT31 I) (lM I (SL.nT (bK (SC.nilRow 44 2 ?_))))))))))))))));refine oP (ι:=Nat×Value) (fun i=>[(6,pp b6 0),(9,pp b9 0),(12,.func (.func 44) #[] #[pp b5 0]),(13,i.2),(28,.slice q m.length d),(29,vi m.length),(30,vi i.1)]) (fun _=>g1)
   (fun i=>rowA encPr 44 i.2 ((m.take i.1).map fun p=>(nowC e p.1,nowC e p.2))::pt b10 (.cells #[.slice p1 n1 c1,vb k1] 89 (0,0))::pt b9 (.cells #[.slice pu D.length cu] 29 (0,0))::pt b6 (.cells #[.slice none 0 0] 29 (0,0))::pt b5 (.cells #[vi e.kind,vi e.cell,vi e.dim,vi e.new,vi e.other,.slice sp e.sides.length sc,.slice pq e.pairs.length pc] 39 (0,0))::pt b3 (.cells #[.slice p l.length c] 29 (0,0))::s)
   (fun i=>i.1≤m.length) (fun i=>m.length - i.1) (0,.slice none 0 0) sB rfl rfl (Nat.zero_le _) ?_
  rintro ⟨k,lv⟩ hk;dsimp only at hk ⊢;refine SC.sR (lU (lS I I) (SL.nT (sQ ?_)));refine iP I (fun hlt=>?_) (fun hlt=>?_)
  ·have hkl:k<m.length:=oM;have hb1:=SlA.based hm1 oM;have hgk:m[((k:Nat):Int).toNat]?=some m[k]:=gE hkl;have htk:(m.take (k+1)).map (fun p=>(nowC e p.1,nowC e p.2))=(m.take k).map (fun p=>(nowC e p.1,nowC e p.2))++[(nowC e m[k].1,nowC e m[k].2)]:=by rw[tS hkl,List.map_append]; rfl
   have hll:((m.take k).map fun p=>(nowC e p.1,nowC e p.2)).length=k:=by rw[List.length_map,List.length_take]; omega
   generalize m[k]=x at *;obtain ⟨x1,x2⟩:=x;dsimp only at htk;refine kP (tN (sQ (bK (SC.sR (lU (iA uT31 zT44 I I hb1 oM sL) (lK (eA iT44 zT44 I (SlA.rd hm1) hgk) (SL.bx (aL zeroValue44) fun b15=>?_)))))));refine SL.O2 (sK 0 zT44 I I I I I sB) ?_;refine SL.nT ?_;refine dW [11] [(0,2),(1,2),(2,2),(3,1),(5,2),(6,2),(7,1),(4,0),(8,0),(9,2),(10,0),(11,0),(12,2)] Tryz.mixed (by kernel_rfl) ?_;refine pU rfl (mV rfl) (pU rfl (mV rfl) (pU rfl (iB uT44 zT3 rfl rfl dC dC) (pK rfl (qL (v:=vi x1) iT3 rfl (cO 0 rfl rfl)) (pU rfl (mV rfl) (pU rfl (iB uT44 zT3 rfl rfl dC dC) (pK rfl (qL (v:=vi x2) iT3 rfl (cO 0 rfl rfl)) (SP.o rfl (SO.callV rfl rfl (now_spec E g1 _ b5 _ _ e x1 5 rfl hpv1 hpl)) dC (.inr (by rintro _ _ _ ⟨rfl,rfl,rfl⟩; exact⟨by exact Le.refl _,(by exact .refl _)⟩)) ?_)))))));rintro _ _ _ ⟨rfl,rfl,rfl⟩;refine SP.o rfl (SO.callV rfl rfl (now_spec E g1 _ b5 _ _ e x2 5 rfl hpv1 hpl)) dC (.inr (by rintro _ _ _ ⟨rfl,rfl,rfl⟩; exact⟨by exact Le.refl _,(by exact .refl _)⟩)) ?_;rintro _ _ _ ⟨rfl,rfl,rfl⟩;refine pU rfl (SU.build rfl (build44 _ _)) (SP.o rfl (SO.buildSlice sty31 rfl rfl rfl (szs_mk sB) dC) dC (.inr (by rintro _ _ _ ⟨b44,rfl,rfl,rfl⟩; exact⟨by exact Le.refl _,(by exact .cons _ (.refl _))⟩)) ?_);rintro _ _ _ ⟨b44,rfl,rfl,rfl⟩;refine SP.o I (aP (e:=encPr) 1 (nowC e x1,nowC e x2) sty31 I I I I I oM oM) dC (.inl dC) ?_;rintro lv' _ _ ⟨rfl,rfl⟩;refine pU I (aS I) (pN (bN (tN (rG (lU (aD I I oM) (lM I (nL (dR (.cons _ (.refl _)) ?_))))))));exact ST.again (k+1,lv') sB rfl (by dsimp only; rw[htk]; rfl) (by dsimp only; omega) (by dsimp only; omega)
  ·have hkk:m.take k=m:=tL oM;rw[hkk];refine xI (tX (tX (bX (tN (sQ (fS fun g2 hle2 hs2=>?_))))));refine dW [4] [(0,1),(1,1),(2,2),(3,0),(4,0),(5,2),(6,2)] Tryz.mixed (by kernel_rfl) ?_;refine pK rfl (qV 1 iT29 zT29 rfl rfl rfl) (pK rfl (qV 1 iT29 zT29 rfl rfl rfl) (pU rfl (mV rfl) (SP.o rfl (SO.call call15 rfl (extendProg_spec E g2 _ _ _ D _ (hu1.mono hle2) hDf hDl hs2 (by rw[List.length_map]; omega))) dC (.inr (by rintro v50 g3 _ ⟨rfl,hle3,hx3⟩; exact⟨by assumption,(by exact .refl _)⟩)) ?_)));rintro v50 g3 _ ⟨rfl,hle3,hx3⟩;refine SP.on I (sK 2 zT29 I I I I I sB) (.inl dC) ?_;rintro _ _ _ ⟨rfl,rfl⟩;refine pU I (aS I) (pU I (aS I) (pN (tN (rE ?_))));exact ST.retCTT 2 s (.inl I) results20 I I I iT29 zT29 I I (.cons _ (.cons _ (.cons _ (.cons _ (.cons _ (.refl _)))))) ⟨I,hle1.trans (hle2.trans hle3),_,_,I,hu1.mono (hle2.trans hle3),hx3⟩
def sanM:List Pr:=[(1,4),(2,6),(5,7)]
def remE:Ed:=⟨2,7,0,0,0,[],[]⟩
def attE:Ed:=⟨1,8,0,0,0,[],[]⟩
def remL:List Cl:=canonC (delC triL 7)
def attL:List Cl:=canonC (putC triL ⟨8,0,[]⟩)
theorem tri_canon:canonC triL=triL:=by kernel_rfl
theorem tri_keep:keepR triL [(1,4),(1,5),(2,6)]=[(1,4),(2,6)]:=by kernel_rfl
theorem tri_extend:extendR triL [(3,5)]=[(3,5),(1,4),(6,7)]:=by kernel_rfl
theorem rem_out:applyOut (removeCode triL remE) (delC triL 7)=(0,remL):=by kernel_rfl
theorem att_out:applyOut (attachCode triL attE) (putC triL ⟨8,0,[]⟩)=(0,attL):=by kernel_rfl
theorem rem_pairs:repairOut sanM remE 0 remL=(0,remL,[(1,4),(2,6)]):=by kernel_rfl
theorem att_pairs:repairOut sanM attE 0 attL=(0,attL,sanM):=by kernel_rfl
theorem rem_len:((remL.length:Nat):Int)=6:=by kernel_rfl
theorem rem_fits:Fits remL:=fits_dec (by kernel_rfl) (by decide +kernel)
theorem att_fits:Fits attL:=fits_dec (by kernel_rfl) (by decide +kernel)
theorem rem_few:remL.length≤100000:=by decide +kernel
theorem att_few:attL.length≤100000:=by decide +kernel
theorem tri_okC:(checkC triL).2=0:=by rw[tri_check]
theorem rem_apply:ApplyTo triL remE 0 remL:=fun E g s v ev hv he=>by
 have h:=apply_run E g s v ev triL remE hv tri_fits he tri_okC _ _ _ true rfl (remove_run (canonC triL) (canonC_fits tri_fits) remE) (fun _=>by rw[tri_canon]; exact⟨fits_dec (by decide +kernel) (by decide +kernel),by decide +kernel⟩);rw[tri_canon,show remE.cell=7 from rfl,rem_out] at h;exact h
theorem att_apply:ApplyTo triL attE 0 attL:=fun E g s v ev hv he=>by
 have h:=apply_run E g s v ev triL attE hv tri_fits he tri_okC _ _ _ false rfl (attach_run (canonC triL) attE dC) (fun _=>by rw[tri_canon]; exact⟨fits_dec (by decide +kernel) (by decide +kernel),by decide +kernel⟩);rw[tri_canon,show (⟨attE.cell,attE.dim,attE.sides⟩:Cl)=⟨8,0,[]⟩ from rfl,att_out] at h;exact h
theorem Tryz.build39 (a b:Int)(w:World):(Instr.build 39 #[(0,vi a),(1,vi b)]).run Tryz.prog w = .ok (.agg #[vi a,vi b,vi 0,vi 0,vi 0,.slice none 0 0,.slice none 0 0]) w:=by
 have h1:(vi a).cells = #[vi a]:=rfl;have h2:(vi b).cells = #[vi b]:=rfl;simp[Instr.build,Instr.fill,h1,h2];rfl
theorem sane14:Sane14:=by
 intro E g s;refine Ctr.of (args:=[]) func9 I ntmps9 (bE I) ?_;refine SC.sR (lA I (SL.nT (SC.sR (lW (SO.call call28 I (triangle14_spec E g _)) ?_))));rintro _ g1 _ ⟨rfl,hle1,u1,rfl,hv1⟩;obtain ⟨q1,d1,rfl⟩:=hv1.form;refine SL.bx (aL zeroValue29) fun b1=>?_;refine SL.O2 (sK 0 zT29 I I I I I sB) ?_;refine SL.nT (SC.sR (lU (SU.build I (build44 _ _)) (lU (SU.build I (build44 _ _)) (lU (SU.build I (build44 _ _)) (lW (SO.buildSlice sty31 I I I (szs_mk sB) dC) ?_)))));rintro _ _ _ ⟨b16,rfl,rfl,rfl⟩;refine SL.freeze fun g2 hle2 hb2=>?_;have hm2:SlA encPr g2 (.slice (some ⟨b16,0,none⟩) 3 3) sanM:=SlA.lit hb2 rfl rfl;have hv2:=hv1.mono hle2;refine lA I (SL.nT (SC.sR (lK (qV 0 iT29 zT29 I I I) (lU (SU.build I (build44 _ _)) (lU (SU.build I (build44 _ _)) (lU (SU.build I (build44 _ _)) (lW (SO.buildSlice sty31 I I I (szs_mk sB) dC) ?_)))))));rintro _ _ _ ⟨b21,rfl,rfl,rfl⟩;refine SL.freeze fun g3 hle3 hb3=>?_;have hk3:SlA encPr g3 (.slice (some ⟨b21,0,none⟩) 3 3) [(1,4),(1,5),(2,6)]:=SlA.lit hb3 rfl rfl;have hv3:=hv2.mono hle3;refine lW (SO.call call13 I (keepProg_spec E g3 _ _ _ triL _ hv3 tri_fits hk3 dC)) ?_;rintro v22 g4 _ ⟨rfl,hle4,hk4⟩;rw[tri_keep] at hk4;have hv4:=hv3.mono hle4;refine lA I (SL.nT (SC.sR (lK (qV 0 iT29 zT29 I I I) (lU (SU.build I (build44 _ _)) (lW (SO.buildSlice sty31 I I I (szs_mk ⟨I,trivial⟩) dC) ?_)))));rintro _ _ _ ⟨b25,rfl,rfl,rfl⟩;refine SL.freeze fun g5 hle5 hb5=>?_;have hk5:SlA encPr g5 (.slice (some ⟨b25,0,none⟩) 1 1) [(3,5)]:=SlA.lit hb5 rfl rfl;have hv5:=hv4.mono hle5;refine lW (SO.call call15 I (extendProg_spec E g5 _ _ _ triL _ hv5 tri_fits dC hk5 dC)) ?_;rintro v26 g6 _ ⟨rfl,hle6,hx6⟩;rw[tri_extend] at hx6;have hv6:=hv5.mono hle6;have hm6:=SlA.mono hm2 (hle3.trans (hle4.trans (hle5.trans hle6)));refine lA I (SL.nT (SC.sR (lK (qV 0 iT29 zT29 I I I) (lM I (lU (SU.build I (build39 _ _)) (lW (SO.call call20 I (repairProg_spec E g6 _ _ _ _ triL sanM remE 0 remL hv6 hm6 ⟨_,_,I,Sl.nil _ _,Sl.nil _ _⟩ dC dC rem_apply (fun _=>⟨rem_fits,rem_few⟩))) ?_))))));rintro _ g7 _ ⟨rfl,hle7,hr7⟩;rw[rem_pairs] at hr7;obtain ⟨u7,pv7,rfl,hu7,hp7⟩:=hr7;obtain ⟨q7,d7,rfl⟩:=hu7.form;have hv7:=hv6.mono hle7;have hm7:=SlA.mono hm6 hle7;refine lM I (lU (xT I I) (lU (xT I I) (lU (xT I I) (SL.bx (aL zeroValue29) fun b5=>?_))));refine SL.O2 (sK 0 zT29 I I I I I sB) ?_;refine lA I (lA I (SL.nT (SC.sR (lK (qV 1 iT29 zT29 I I I) (lM I (lU (SU.build I (build39 _ _)) (lW (SO.call call20 I (repairProg_spec E g7 _ _ _ _ triL sanM attE 0 attL hv7 hm7 ⟨_,_,I,Sl.nil _ _,Sl.nil _ _⟩ dC dC att_apply (fun _=>⟨att_fits,att_few⟩))) ?_)))))));rintro _ g8 _ ⟨rfl,hle8,hr8⟩;rw[att_pairs] at hr8;obtain ⟨u8,pv8,rfl,hu8,hp8⟩:=hr8;obtain ⟨q8,d8,rfl⟩:=hu8.form;have hm8:=SlA.mono hm7 hle8;have hle18:=hle1.trans (hle2.trans (hle3.trans (hle4.trans (hle5.trans (hle6.trans (hle7.trans hle8))))));refine lM I (lU (xT I I) (lU (xT I I) (lU (xT I I) (SL.bx (aL zeroValue29) fun b8=>?_))));refine SL.O2 (sK 0 zT29 I I I I I sB) ?_;refine lA I (lA I (SL.nT (SC.sR (lM I (lU (SU.build I (build44 _ _)) (lU (SU.build I (build44 _ _)) (lW (SO.buildSlice sty31 I I I (szs_mk sB) dC) ?_)))))));rintro _ _ _ ⟨b46,rfl,rfl,rfl⟩;refine SL.freeze fun g9 hle9 hb9=>?_;have hk9:SlA encPr g9 (.slice (some ⟨b46,0,none⟩) 2 2) [(1,4),(2,6)]:=SlA.lit hb9 rfl rfl;have hle49:=hle5.trans (hle6.trans (hle7.trans (hle8.trans hle9)));refine lW (SO.call call12 I (same13_refl E g9 _ _ _ _ (SlA.mono hk4 hle49) hk9 dC)) ?_;rintro _ _ _ ⟨rfl,rfl,rfl⟩;refine lM I (lY I I I (mV I) (lY I I I (SU.build I (build44 _ _)) (lY I I I (SU.build I (build44 _ _)) (lY I I I (SU.build I (build44 _ _)) (SL.go (gT I I I dC) (SO.buildSlice sty31 I I I (szs_mk sB) dC) dC ?_)))));rintro _ _ _ ⟨b53,rfl,rfl,rfl⟩;refine SL.freeze fun gA hleA hbA=>?_;have hkA:SlA encPr gA (.slice (some ⟨b53,0,none⟩) 3 3) [(3,5),(1,4),(6,7)]:=SlA.lit hbA rfl rfl;refine SL.go (gT I I I dC) (SO.call call12 I (same13_refl E gA _ _ _ _ (SlA.mono hx6 (hle7.trans (hle8.trans (hle9.trans hleA)))) hkA dC)) dC ?_;rintro _ _ _ ⟨rfl,rfl,rfl⟩;refine lU (pT I I) (lA I (SL.nT (SC.sR (lM I (lM I (lY I I I (mV I) (lY I I I (eQ I I) (lU (pT I I) (lM I (lY I I I (fA uT29 I zT27 I) (SL.gq (gT I I I dC) (qL iT27 I (cO 1 I I)) dC (lY I I I (eN uT27 I) (lY I I I (SU.eq (v':=vb true) (eQ I I) (congrArg vb (decide_eq_true rem_len))) (lU (pT I I) (lM I (lY I I I (mV I) (lY I I I (SU.build I (build44 _ _)) (lY I I I (SU.build I (build44 _ _)) (SL.go (gT I I I dC) (SO.buildSlice sty31 I I I (szs_mk sB) dC) dC ?_)))))))))))))))))));rintro _ _ _ ⟨b71,rfl,rfl,rfl⟩;refine SL.freeze fun gB hleB hbB=>?_;have hkB:SlA encPr gB (.slice (some ⟨b71,0,none⟩) 2 2) [(1,4),(2,6)]:=SlA.lit hbB rfl rfl;have hle8B:=hle9.trans (hleA.trans hleB);refine SL.go (gT I I I dC) (SO.call call12 I (same13_refl E gB _ _ _ _ (SlA.mono hp7 (hle8.trans hle8B)) hkB dC)) dC ?_;rintro _ _ _ ⟨rfl,rfl,rfl⟩;refine lU (pT I I) (lM I (lY I I I (mV I) (lY I I I (eQ I I) (lU (pT I I) (lM I (lY I I I (mV I) (lY I I I (mV I) (SL.go (gT I I I dC) (SO.call call12 I (same13_refl E gB _ _ _ _ (SlA.mono hp8 hle8B) (SlA.mono hm8 hle8B) dC)) dC ?_))))))));rintro _ _ _ ⟨rfl,rfl,rfl⟩;refine lU (pT I I) (lA I (SL.nT (rE (dR (s':=s) (.cons _ (.cons _ (.cons _ (.refl _)))) ?_))));exact ST.ret1 (.inl I) results9 I ⟨I,I,hle18.trans hle8B⟩
theorem keeps_done (E:World)(g:PH)(s:Own)(sp bs:Nat)(vL vG:Value)(L:List Int)(G:List Nat)(vn:Value)(ns:List Int)(hL:Ints g vL L)(hG:SlA encB g vG (G.map fun x:Nat=>(x:Int)))(hsp:sp<256)(hbs:bs<256)(hGb:∀ x∈G,x<256)(hn:Ints g vn ns) :
  Ctr Tryz.prog E 3 #[.agg #[.int .u8 (sp:Int),vL,vG,.int .u8 (bs:Int)],vn] g s (fun r g' s'=>r=vb true∧s=s'∧Le g g') :=
 keeps_law sane14 E g s sp bs vL vG vn L ns G hL hG hn hsp hbs hGb
open Go.ChangeShapes Go.WideShapes Go.ChangeAt Go.RowKit
set_option maxRecDepth 100000
section
variable {H:Type}{enc:TypeId×Value→H}{W:World}{base:Nat}{spare:Nat→Bool}{hd:Bool}
theorem Tryz.cells5:Tryz.prog.cellsOf 5=1:=by kernel_rfl
theorem Tryz.cells25:Tryz.prog.cellsOf 25=4:=by kernel_rfl
theorem u8_wf {n:Int}(h:(Lit.int .u8 n).wf=true):∃ k:Nat,n=(k:Int)∧k<256:=by
 have h2:IntKind.u8.min≤n∧n≤IntKind.u8.max:=by simpa [Lit.wf] using h
 have e1:IntKind.u8.min=0:=by decide
 have e2:IntKind.u8.max=255:=by decide
 exact⟨n.toNat,oM,oM⟩
theorem byte_of {fuel:Nat}{v:Value}{x:DataW H×List MemPlace}(h:DataW.trod enc Tryz.prog W base spare hd fuel 5 [v]=some x):∃ k:Nat,v = .int .u8 (k:Int)∧k<256:=by
 obtain ⟨a,e,_,w⟩:=DataW.trod_int uT5 h;obtain ⟨k,rfl,hk⟩:=u8_wf w;simp at e;exact⟨k,e,hk⟩
theorem bytes_of {fuel:Nat}{v:Value}{x:DataW H×List MemPlace}(h:DataW.trod enc Tryz.prog W base spare hd fuel 23 [v]=some x):∃ l:List Nat,SlA encB (held W) v (l.map fun k:Nat=>(k:Int))∧∀ k∈l,k<256:=by
 rcases Go.Deep.open_slice1 underlying23 cells5 h with ⟨hcs,_⟩ | ⟨a,len,cap,m,n,V,D,Pl,hcs,_,hl,_,hmm,_,hx⟩
 ·simp at hcs;subst hcs;exact⟨[],Sl.nil _ _,by simp⟩
 ·simp at hcs;subst hcs;have hlm:len≤m:=by rw[hmm]; split <;> omega
  obtain ⟨f,hf⟩:=Go.Deep.choose_lt (α:=Nat) (n:=len) (p:=fun i k=>V i = .int .u8 (k:Int)∧k<256) fun i hi=>byte_of (hx i oM).2;refine⟨(List.range len).map f,?_,fun k hk=>?_⟩
  ·show Sl (held W) 1 _ (((List.range len).map f).map fun k:Nat=>(k:Int)).length ((((List.range len).map f).map fun k:Nat=>(k:Int)).flatMap encB.enc);have he:(((List.range len).map f).map fun k:Nat=>(k:Int)).flatMap encB.enc=(List.range len).map fun i=>V i:=by
    have:∀ l:List Nat,(∀ i∈l,i<len)→((l.map f).map fun k:Nat=>(k:Int)).flatMap encB.enc=l.map fun i=>V i:=by
     intro l;induction l with
     | nil=>intro _; rfl
     | cons y t ih =>
      intro hy;rw[List.map_cons,List.map_cons,List.flatMap_cons,ih fun i hi=>hy i (by simp[hi]),List.map_cons,(hf y (hy y (by simp))).1];rfl
    exact this _ fun i hi=>List.mem_range.1 hi
   rw[he,List.length_map,List.length_map,List.length_range];refine row_sl hl (by simp) fun i y hi=>?_;rw[List.getElem?_map] at hi;cases hc:(List.range len)[i]? with
   | none=>rw[hc] at hi; cases hi
   | some z =>
    rw[hc] at hi;cases hi;obtain ⟨h1,h2⟩:=List.getElem?_eq_some_iff.1 hc;simp at h1 h2;subst h2;exact (hx i oM).1
  ·obtain ⟨i,hi,rfl⟩:=List.mem_map.1 hk;exact (hf i (List.mem_range.1 hi)).2
theorem shape8_of {r:Reach}{b0:Nat}{v:Value}{d:DataW H}{p:List MemPlace}(hv:Value.okWide Tryz.prog W r b0 25 v)(h:DataW.Trod enc Tryz.prog W base spare hd 25 v d p) :
  ∃ (sp bs:Nat) (vL vG:Value) (L:List Int) (G:List Nat),v = .agg #[.int .u8 (sp:Int),vL,vG,.int .u8 (bs:Int)]∧Ints (held W) vL L∧SlA encB (held W) vG (G.map fun k:Nat=>(k:Int))∧sp<256∧bs<256∧∀ x∈G,x<256:=by
 obtain ⟨c0,c1,c2,c3,y0,y1,y2,y3,n,rfl,_,_,h0,h1,h2,h3⟩:=Go.Joins.open_agg4 uT25 (by kernel_rfl) cells25 hv h;obtain ⟨sp,rfl,hsp⟩:=byte_of h0;obtain ⟨bs,rfl,hbs⟩:=byte_of h3;obtain ⟨L,rL,-,hL⟩:=ints_of h1;obtain ⟨G,hG,hGb⟩:=bytes_of h2;exact⟨sp,bs,c1,c2,L,G,I,hL,hG,hsp,hbs,hGb⟩
theorem arr3_of {r:Reach}{b0:Nat}{v:Value}{d:DataW H}{p:List MemPlace}(hv:Value.okWide Tryz.prog W r b0 41 v)(h:DataW.Trod enc Tryz.prog W base spare hd 41 v d p) :
  ∃ a b c:Int,v = .agg #[vi a,vi b,vi c]∧inI64 a∧inI64 b∧inI64 c:=by
 obtain ⟨cs,rfl,hsz⟩:=okWide_array underlying41 hv;rw[cells41] at hsz;obtain ⟨l⟩:=cs
 match l,hsz with
 | [c0,c1,c2],_ =>
  obtain ⟨fuel,hf⟩:=h;obtain ⟨a,b,c,rfl,rfl,rfl,w0,w1,w2⟩:=three_wf (c0:=c0) (c1:=c1) (c2:=c2) (show DataW.trod enc Tryz.prog W base spare hd fuel 41 [c0,c1,c2]=some (d,p) by simpa [Value.cells] using hf);exact⟨a,b,c,I,w0,w1,w2⟩
theorem ints_arg {v:Value}{d:DataW H}{p:List MemPlace}(h:DataW.Trod enc Tryz.prog W base spare hd 22 v d p)(hv:v.cells = #[v]):∃ l:List Int,Ints (held W) v l:=by
 obtain ⟨fuel,hf⟩:=h;rw[hv] at hf;obtain ⟨l,r,-,hl⟩:=ints_of hf;exact⟨l,hl⟩
end
def SucM (S:Int→List Int)(m:List Pr)(a y:Int):Prop:=∃ h,highT m a=some h∧y∈S h∧y≠a∧(highT m y).isSome=true
inductive WayM (S:Int→List Int)(m:List Pr):Int→Int→Prop
 | one (a y:Int) (h:SucM S m a y):WayM S m a y
 | cons (a y z:Int) (h:SucM S m a y) (h2:WayM S m y z):WayM S m a z
def VisM (S:Int→List Int)(m:List Pr)(low a:Int)(v:List Int)(b:Bool)(v':List Int):Prop :=
 (b=true→WayM S m a low)∧(b=false→(∀ z∈v,z∈v')∧low ∉ v'∧(∀ y,SucM S m a y→y∈v')∧∀ z∈v',z ∉ v→∀ y,SucM S m z y→y∈v')
def MidM (S:Int→List Int)(m:List Pr)(low a:Int)(v:List Int)(met w:List Int):Prop :=
 (∀ z∈v,z∈w)∧low ∉ w∧(∀ y∈met,SucM S m a y→y∈w)∧∀ z∈w,z ∉ v→∀ y,SucM S m z y→y∈w
section
variable {S:Int→List Int}{m:List Pr}{low a:Int}{v w met:List Int}
theorem MidM.start (h:low ∉ v):MidM S m low a v [] v:=⟨fun _ h=>h,h,by simp,fun z h1 h2=>absurd h1 h2⟩
theorem MidM.skip (h:MidM S m low a v met w){y:Int}(hy:SucM S m a y→y∈w):MidM S m low a v (met++[y]) w :=
 ⟨h.1,h.2.1,fun z hz hs=>by
  rcases List.mem_append.1 hz with hz | hz
  ·exact h.2.2.1 z hz hs
  ·simp at hz; subst hz; exact hy hs,h.2.2.2⟩
theorem MidM.step (h:MidM S m low a v met w){y:Int}{w':List Int}(hne:y≠low)(hy:VisM S m low y (w++[y]) false w'):MidM S m low a v (met++[y]) w':=by
 obtain ⟨h1,h2,h3,h4⟩:=hy.2 rfl;refine⟨fun z hz=>h1 z (by simp[h.1 z hz]),h2,fun z hz hs=>?_,fun z hz hzv x hx=>?_⟩
 ·rcases List.mem_append.1 hz with hz | hz
  ·exact h1 z (by simp[h.2.2.1 z hz hs])
  ·simp at hz; subst hz; exact h1 z (by simp)
 ·by_cases hw:z∈w
  ·exact h1 x (by simp[h.2.2.2 z hw hzv x hx])
  ·by_cases hzy:z=y
   ·subst hzy; exact h3 x hx
   ·exact h4 z hz (by simp[hw,hzy]) x hx
theorem MidM.stop (h:MidM S m low a v met w)(hall:∀ y,SucM S m a y→y∈met):VisM S m low a v false w :=
 ⟨fun e=>(by cases e),fun _=>⟨h.1,h.2.1,fun y hy=>h.2.2.1 y (hall y hy) hy,h.2.2.2⟩⟩
theorem VisM.here (hs:SucM S m a low):VisM S m low a v true w:=⟨fun _=>.one a low hs,fun e=>by cases e⟩
theorem VisM.found {y:Int}{u:List Int}(hs:SucM S m a y)(hy:VisM S m low y u true w):VisM S m low a v true w:=⟨fun _=>.cons a y low hs (hy.1 rfl),fun e=>by cases e⟩
theorem VisM.shut {v':List Int}(h:VisM S m low low [] false v'):¬ WayM S m low low:=fun hw=>by
 obtain ⟨_,h2,h3,h4⟩:=h.2 rfl;have hcl:∀ z∈v',∀ y,SucM S m z y→y∈v':=fun z hz y hy=>h4 z hz (by simp) y hy;have hgo:∀ x y,WayM S m x y→(∀ z,SucM S m x z→z∈v')→y∈v':=by
  intro x y hxy;induction hxy with
  | one a y h=>exact fun hs=>hs y h
  | cons a y z h _ ih=>exact fun hs=>ih fun u hu=>hcl y (hs y h) u hu
 exact h2 (hgo low low hw h3)
theorem VisM.iff {b:Bool}{v':List Int}(h:VisM S m low low [] b v'):b=true↔WayM S m low low:=by
 cases b with
 | true=>exact⟨fun _=>h.1 rfl,fun _=>rfl⟩
 | false=>exact⟨fun e=>(by cases e),fun hw=>absurd hw h.shut⟩
end
section
variable {S:Int→List Int}{m:List Pr}(hm:(m.map Prod.fst).Nodup)
include hm
theorem way_pth {a z:Int}(h:WayM S m a z):∀ ha hz,(a,ha)∈m→(z,hz)∈m→Pth (adjS S) m (a,ha) (z,hz):=by
 have hsuc:∀ {a y ha hy},SucM S m a y→(a,ha)∈m→(y,hy)∈m→(y,hy)≠(a,ha)∧adjS S (a,ha) (y,hy)=true:=by
  rintro a y ha hy ⟨h,h1,h2,h3,_⟩ ham hym;have h4:=highT_of hm ham;dsimp only at h4;rw[h4] at h1;injection h1 with h1
  subst h1;exact⟨fun e=>h3 (by injection e),by unfold adjS; rw[List.contains_iff_mem]; exact h2⟩
 induction h with
 | one a y h =>
  intro ha hy ham hym;obtain ⟨h1,h2⟩:=hsuc h ham hym;exact .one _ _ hym h1 h2
 | cons a y z h _ ih =>
  intro ha hz ham hzm;obtain ⟨_,_,_,_,h4⟩:=id h;obtain ⟨hy,h5⟩:=Option.isSome_iff_exists.1 h4;have hym:=highT_mem h5;obtain ⟨h1,h2⟩:=hsuc h ham hym;exact .cons _ (y,hy) _ hym h1 h2 (ih hy hz hym hzm)
theorem pth_way {x z:Pr}(h:Pth (adjS S) m x z):x∈m→WayM S m x.1 z.1:=by
 have hsuc:∀ {x y:Pr},x∈m→y∈m→y≠x→adjS S x y=true→SucM S m x.1 y.1:=fun {x y} hx hy hne ha=>by
  refine⟨x.2,highT_of hm hx,by unfold adjS at ha; rwa [List.contains_iff_mem] at ha,fun e=>hne ?_,by rw[highT_of hm hy]; rfl⟩;have h1:=highT_of hm hx;have h2:=highT_of hm hy;rw[e,h1] at h2;injection h2 with h2
  exact Prod.ext e h2.symm
 induction h with
 | one x y hy hne ha=>exact fun hx=>.one _ _ (hsuc hx hy hne ha)
 | cons x y z hy hne ha _ ih=>exact fun hx=>.cons _ _ _ (hsuc hx hy hne ha) (ih hy)
end
theorem Pth.mono {adj:Pr→Pr→Bool}{m m':List Pr}(hs:∀ x∈m,x∈m'){x y:Pr}(h:Pth adj m x y):Pth adj m' x y:=by
 induction h with
 | one x y hy h1 h2=>exact .one x y (hs y hy) h1 h2
 | cons x y w hy h1 h2 _ ih=>exact .cons x y w (hs y hy) h1 h2 ih
theorem cyc_pth {adj:Pr→Pr→Bool}:∀ n (m:List Pr),m.length=n→Cyc adj m→∃ p∈m,Pth adj m p p
 | 0,m,hn,⟨L,hL,hsub⟩=>by
  obtain ⟨x,hx⟩:=List.exists_mem_of_ne_nil _ hL.1;have:=hsub x hx;rw[List.eq_nil_of_length_eq_zero hn] at this;simp at this
 | n+1,m,hn,h=>by
  have hne:m≠[]:=fun e=>by rw[e] at hn; simp at hn
  obtain ⟨T,p,rfl⟩:∃ T p,m=T++[p]:=⟨m.dropLast,m.getLast hne,(List.dropLast_concat_getLast hne).symm⟩;by_cases hT:Cyc adj T
  ·obtain ⟨q,h1,h2⟩:=cyc_pth n T (by simpa using hn) hT;exact⟨q,by simp[h1],h2.mono fun x hx=>by simp[hx]⟩
  ·exact⟨p,by simp,(cyc_iff hT).1 h⟩
theorem pth_cyc {adj:Pr→Pr→Bool}{m:List Pr}{p:Pr}(hp:p∈m)(h:Pth adj m p p):Cyc adj m:=by
 classical
 refine⟨m.filter fun y=>decide (Pth adj m p y∧Pth adj m y p),⟨fun e=>?_,fun x hx=>?_⟩,fun x hx=>(List.mem_filter.1 hx).1⟩
 ·have:p∈m.filter fun y=>decide (Pth adj m p y∧Pth adj m y p):=List.mem_filter.2 ⟨hp,by simpa using h⟩;rw[e] at this;simp at this
 ·obtain ⟨h1,h2⟩:=List.mem_filter.1 hx;obtain ⟨h3,h4⟩:=of_decide_eq_true h2;cases h4 with
  | one _ _ hy hne ha=>exact⟨p,List.mem_filter.2 ⟨hp,by simpa using h⟩,hne,ha⟩
  | cons _ y _ hy hne ha h5=>exact⟨y,List.mem_filter.2 ⟨hy,by simpa using ⟨h3.snoc hy hne ha,h5⟩⟩,hne,ha⟩
theorem nodup_of_fst {m:List Pr}(hm:(m.map Prod.fst).Nodup):m.Nodup:=List.Pairwise.of_map Prod.fst (fun a b hab hne=>hab (by rw[hne])) hm
theorem ring_way {S:Int→List Int}{m:List Pr}(hm:(m.map Prod.fst).Nodup):ringR (adjS S) m=true↔∃ p∈m,WayM S m p.1 p.1:=by
 rw[ringR_iff (nodup_of_fst hm)];constructor
 ·intro h;obtain ⟨p,h1,h2⟩:=cyc_pth _ m rfl h;exact⟨p,h1,pth_way hm h2 h1⟩
 ·rintro ⟨p,h1,h2⟩;exact pth_cyc h1 (way_pth hm h2 p.2 p.2 h1 h1)
end Go.Proofs.YteahknngoogpaaaGreatDoor
namespace Go.Sy
open Go Go.MapKept
theorem run_lookup_nil {P:Program}{w:World}{t kt et:TypeId}{z:Value}(hT:MTy P t kt et z)(k:Int) :
  (Instr.lookup t (.map none) (vi k) false).run P w = .ok z w:=by
 have h1:=MapKept.run_findKey (w:=w) hT.key (findNow_eq k [] [] 0 rfl);have h2:=MapKept.run_checkKey (P:=P) (w:=w) hT.key (k:=vi k) rfl true 9999;unfold Instr.lookup;simp only[Sem.run_bind,run_underlying hT.und,Result.andThen_ok,Sem.run_pure];rw[show (#[]:Array MapEntry).isEmpty=true from rfl,h2];simp only[Result.andThen_ok];rw[h1];simp[fnd,hT.zero w]
section
variable {P:Program}{N:Nat}{E:World}{f:Fr}{g:PH}{s:Own}{dst:Option Tmp}{ty:TypeId}{pos:String}{af:Array Edge}{gd:Option (Nat×Bool)}
theorem SQ.lookupNil {t kt et:TypeId}{z:Value}{x y:Operand}{k:Int}(hT:MTy P t kt et z)(hx:ev f x=some (.map none))(hy:ev f y=some (vi k)):SQ P N E ⟨dst,.lookup t x y false,ty,pos,af,gd⟩ f g s z:=fun a w ha _=>by
 simp[execOp,ha.ev hx,ha.ev hy,run_lookup_nil hT]
end
end Go.Sy
namespace Go.Proofs.YteahknngoogpaaaGreatDoor
open _root_.Go.Proofs.Tryz _root_.Go.Proofs.YteahknngoogpaaaGreatDoor.Tryz
open Go Go.Sy Go.Pl Go.Proofs
set_option maxRecDepth 100000
set_option maxHeartbeats 2000000
theorem Tryz.mty70m:MTy Tryz.prog 70 3 3 (vi 0):=⟨underlying70,underlying3,zeroValue3⟩
theorem Tryz.mty102:MTy Tryz.prog 102 3 70 (.map none):=⟨underlying102,underlying3,zeroValue70⟩
def innC (ss:List Side):List (Int×Value):=ss.map fun s=>(s.cell,vi s.sign)
def SdM (g:PH)(out:List (Int×Value))(A:List Cl):Prop:=All2 (fun (c:Cl) (p:Int×Value)=>p.1=c.id∧∃ b,p.2 = .map (some b)∧Mp g b (innC c.sides)) A out
theorem SdM.mono {g g':PH}{out:List (Int×Value)}{A:List Cl}(h:SdM g out A)(hl:Le g g'):SdM g' out A:=All2.mono (fun _ _ ⟨h1,b,h2,h3⟩=>⟨h1,b,h2,h3.mono hl⟩) h
theorem SdM.look {g:PH}:∀ {A:List Cl} {out:List (Int×Value)},SdM g out A→∀ id,(findT A id=none∧mget out id=none)∨∃ c b,findT A id=some c∧mget out id=some (.map (some b))∧Mp g b (innC c.sides)
 | [],[],_,_=>.inl ⟨rfl,rfl⟩
 | c::A,(k,v)::out,h,id=>by
  obtain ⟨h1,b,h2,h3⟩:=h.1;dsimp only at h1 h2;subst h1;unfold findT;rw[List.find?_cons,mget_cons];by_cases e:id=c.id
  ·have:decide (c.id=id)=true:=decide_eq_true e.symm;rw[this,if_pos e];exact .inr ⟨c,b,I,by rw[h2],h3⟩
  ·have:decide (c.id=id)=false:=decide_eq_false fun e2=>e e2.symm;rw[this,if_neg e];exact SdM.look h.2 id
 | [],_::_,h,_=>h.elim
 | _::_,[],h,_=>h.elim
theorem mget_inn (k:Int):∀ ss:List Side,mget (innC ss) k=(ss.find? fun s=>decide (s.cell=k)).map fun s=>vi s.sign
 | []=>rfl
 | s::ss=>by
  unfold innC;rw[List.map_cons,mget_cons,List.find?_cons];by_cases e:k=s.cell
  ·rw[if_pos e,decide_eq_true e.symm];rfl
  ·rw[if_neg e,decide_eq_false (fun e2=>e e2.symm)];exact mget_inn k ss
theorem mput_new {l:List (Int×Value)}{k:Int}(v:Value)(h:∀ p∈l,p.1≠k):mput l k v=l++[(k,v)]:=mput_none k v l h
theorem inn_new {ss:List Side}{i:Nat}(h:(ss.map Side.cell).Nodup)(hi:i<ss.length):∀ p∈innC (ss.take i),p.1≠ss[i].cell:=by
 intro p hp;unfold innC at hp;obtain ⟨s,hs,rfl⟩:=List.mem_map.1 hp;obtain ⟨j,hj,rfl⟩:=List.getElem_of_mem hs;rw[List.length_take] at hj;rw[List.getElem_take];have h2:=List.pairwise_iff_getElem.1 (List.nodup_iff_pairwise_ne.1 h) j i (by rw[List.length_map]; omega) (by rw[List.length_map]; omega) oM;simp only[List.getElem_map] at h2;exact h2
theorem SdM.keys {g:PH}:∀ {A:List Cl} {out:List (Int×Value)},SdM g out A→out.map Prod.fst=A.map Cl.id
 | [],[],_=>rfl
 | c::A,p::out,h=>by rw[List.map_cons,List.map_cons,h.1.1,SdM.keys h.2]
 | [],_::_,h=>h.elim
 | _::_,[],h=>h.elim
theorem signs_spec (E:World)(g:PH)(s:Own)(v:Value)(A:List Cl)(hv:Cells g v A)(hf:Fits A)(hn:(A.map Cl.id).Nodup)(hs:∀ c∈A,(c.sides.map Side.cell).Nodup) :
  Ctr Tryz.prog E 129 #[.agg #[v]] g s (fun r g' s'=>s=s'∧Le g g'∧∃ bo out,r = .map (some bo)∧Mp g' bo out∧SdM g' out A):=by
 obtain ⟨rs,hrs,hall⟩:=hv;have hrl:=hall.length;obtain ⟨p,c,rfl⟩:=SlA.form hrs;have hAl:=hf.1;refine Ctr.of (args:=[.agg #[.slice p rs.length c]]) func129 I ntmps129 (bE I) ?_;refine SC.sR (SL.bx (bO I) fun b1=>?_);refine lA I (SL.nT (SC.sR (lW (SO.mkMap) ?_)));rintro _ _ _ ⟨b8,rfl,rfl,rfl⟩;refine lA I (SL.nT (sQ (SC.sR (lU (fA uT29 I zT27 I) (lK (qL iT27 I (cO 1 I I)) (lU (eN uT27 I) (lM I (SL.nT (bK ?_)))))))));refine oP (ι:=Nat×PH×List (Int×Value)) (fun i=>[(3,.map (some b8)),(10,.slice p rs.length c),(11,vi rs.length),(12,vi i.1)]) (fun i=>i.2.1) (fun i=>mp b8 i.2.2::pt b1 (.cells #[.slice p rs.length c] 29 (0,0))::s)
  (fun i=>i.1≤rs.length∧Le g i.2.1∧SdM i.2.1 i.2.2 (A.take i.1)) (fun i=>rs.length - i.1) (0,g,[]) sB rfl rfl ⟨Nat.zero_le _,Le.refl _,by simp[SdM,All2]⟩ ?_
 rintro ⟨k,g1,out⟩ ⟨hk,hle1,hS⟩;dsimp only at hk hle1 hS ⊢;refine SC.sR (lU (lS I I) (SL.nT (sQ ?_)));refine iP I (fun hlt=>?_) (fun hlt=>?_)
 ·have hkr:k<rs.length:=oM;have hkl:k<A.length:=oM;have hb1:=SlA.based hrs oM;have hcr:=CellR.mono hle1 (hall.get (gE hkl) (gE hkr));have hgx:rs[((k:Nat):Int).toNat]?=some rs[k]:=gE hkr;have htk:A.take (k+1)=A.take k++[A[k]]:=tS hkl;have hxl:=hf.2 _ (gM hkl);have hxs:=hs _ (gM hkl);have hnew:∀ q∈out,q.1≠A[k].id:=fun q hq=>by
   have h1:q.1∈out.map Prod.fst:=List.mem_map.2 ⟨q,hq,rfl⟩;rw[hS.keys] at h1;obtain ⟨x,hx,he⟩:=List.mem_map.1 h1;obtain ⟨j,hj,rfl⟩:=List.getElem_of_mem hx;rw[List.length_take] at hj;rw[List.getElem_take] at he;rw[← he];have h2:=List.pairwise_iff_getElem.1 (List.nodup_iff_pairwise_ne.1 hn) j k (by rw[List.length_map]; omega) (by rw[List.length_map]; omega) oM;simp only[List.getElem_map] at h2;exact h2
  generalize rs[k]=x at *;generalize A[k]=cx at *;obtain ⟨xi,xd,xp,xn,xc⟩:=x;obtain ⟨e1,e2,hsl⟩:=hcr;dsimp only at e1 e2 hsl;have hxn:xn=cx.sides.length:=Sl.slen hsl;subst hxn e1 e2;refine kP (tN (sQ (bK (SC.sR (lU (iA uT27 zT54 I I hb1 oM (show (k:Int)<((rs.length:Nat):Int) by omega)) ?_)))));refine lK (eA iT54 zT54 I (SlA.rd (SlA.mono hrs hle1)) hgx) (SL.bx (aL zeroValue54) fun b5=>?_);refine SL.O2 (sK 0 zT54 I I I I I sB) ?_;refine SL.nT (SC.sR (lM I (lU (fA uT54 I zT3 I) (lK (qL (v:=vi cx.id) iT3 I (cO 0 I I)) (lW (SO.mkMap) ?_)))));rintro _ _ _ ⟨b19,rfl,rfl,rfl⟩;refine lO (SO.mapUpdate 2 mty102 I I I I) ?_;rintro _ _ _ ⟨rfl,rfl⟩;rw[mput_new _ hnew];refine SL.nT (SC.sR (lU (fA uT54 I zT37 I) (lK (qL (v:=.slice xp cx.sides.length xc) iT37 I (cO 1 I I)) (lU (eN uT37 I) (lM I (SL.nT (bK ?_)))))));refine SC.to (g':=g1) (s':=mp b19 []::pt b5 (.cells #[vi cx.id,vi cx.dim,.slice xp cx.sides.length xc] 54 (0,0))::mp b8 (out++[(cx.id,Value.map (some b19))])::pt b1 (.cells #[.slice p rs.length c] 29 (0,0))::s) (fun w hw=>hw) ?_;refine oP (ι:=Nat) (fun j=>[(3,.map (some b8)),(5,pp b5 0),(10,.slice p rs.length c),(11,vi rs.length),(12,vi k),(21,.slice xp cx.sides.length xc),(22,vi cx.sides.length),(23,vi j)]) (fun _=>g1)
   (fun j=>mp b19 (innC (cx.sides.take j))::pt b5 (.cells #[vi cx.id,vi cx.dim,.slice xp cx.sides.length xc] 54 (0,0))::mp b8 (out++[(cx.id,Value.map (some b19))])::pt b1 (.cells #[.slice p rs.length c] 29 (0,0))::s)
   (fun j=>j≤cx.sides.length) (fun j=>cx.sides.length - j) 0 sB rfl rfl (Nat.zero_le _) ?_
  rintro j hj;try dsimp only at hj ⊢
  refine SC.sR (lU (lS I I) (SL.nT (sQ ?_)));refine iP I (fun hjl=>?_) (fun hjl=>?_)
  ·have hjs:j<cx.sides.length:=oM;have hb2:=SlA.based hsl oM;have hgj:cx.sides[((j:Nat):Int).toNat]?=some cx.sides[j]:=gE hjs;have hin:=inn_new hxs hjs;have htj:innC (cx.sides.take (j+1))=innC (cx.sides.take j)++[(cx.sides[j].cell,vi cx.sides[j].sign)]:=by unfold innC; rw[tS hjs,List.map_append]; rfl
   generalize cx.sides[j]=y at *;obtain ⟨yc,ys⟩:=y;dsimp only at hin htj;refine kP (tN (sQ (bK (SC.sR (lU (iA uT37 zT56 I I hb2 oM sL) (lK (eA iT56 zT56 I (SlA.rd hsl) hgj) (SL.bx (aL zeroValue56) fun b7=>?_)))))));refine SL.O2 (sK 0 zT56 I I I I I sB) ?_;refine SL.nT (rG (lM rfl (lU (fA uT54 rfl zT3 rfl) (lK (qL (v:=vi cx.id) iT3 rfl (cO 2 rfl rfl)) (lK (SQ.eq (v':=.map (some b19)) (SQ.lookup mty102 rfl rfl (MapAt.own 3 rfl)) (by rw[← mput_new _ hnew,mget_mput,if_pos rfl]; rfl)) ?_)))));refine lU (fA uT56 I zT3 I) (lK (qL (v:=vi yc) iT3 I (cO 0 I I)) (lU (fA uT56 I zT3 I) (lK (qL (v:=vi ys) iT3 I (cO 0 I I)) (lO (SO.mapUpdate 1 mty70m I I I I) ?_))));rintro _ _ _ ⟨rfl,rfl⟩;rw[mput_new _ hin];refine nL (bN (tN (rG (lU (aD I I oM) (lM I (nL (dR (.cons _ (.refl _)) ?_)))))));exact ST.again (j+1) sB rfl (by dsimp only; rw[htj]; rfl) oM oM
  ·have hjj:cx.sides.take j=cx.sides:=tL oM;rw[hjj];refine xI (tX (tX (bX (bN (tN (rG (lU (aD I I oM) (lM I (nL (ST.freezeMap fun g2 hle2 hm2=>?_))))))))));refine dR (.cons _ (.refl _)) ?_;exact ST.again (k+1,g2,out++[(cx.id,Value.map (some b19))]) sB I I ⟨by dsimp only; omega,hle1.trans hle2,by dsimp only; rw[htk]; exact All2.append (hS.mono hle2) ⟨⟨I,b19,I,hm2⟩,trivial⟩⟩ (by dsimp only; omega)
 ·have hkk:A.take k=A:=tL oM;rw[hkk] at hS;refine xI (tX (tX (bX (tN (SC.sR (lM I (lA I (SL.nT (rE (ST.freezeMap fun g2 hle2 hm2=>?_))))))))));refine dR (s':=s) (.cons _ (.refl _)) ?_;exact ST.ret1 (.inl I) results129 I ⟨I,hle1.trans hle2,b8,out,I,hm2,hS.mono hle2⟩
abbrev fdP (bf:Nat)(u:Value)(mo mh ml:Nat):Ent:=pt bf (.cells #[u,.map (some mo),.map (some mh),.map (some ml)] 104 (0,0))
theorem Tryz.build104 (u:Value)(x y z:Option Nat)(w:World):(Instr.build 104 #[(0,.agg #[u]),(1,.map x),(2,.map y),(3,.map z)]).run Tryz.prog w = .ok (.agg #[u,.map x,.map y,.map z]) w:=by
 have h2:∀ x,(Value.map x).cells = #[.map x]:=fun _=>rfl;have h3:(Value.agg #[u]).cells = #[u]:=rfl;simp[Instr.build,Instr.fill,h2,h3];rfl
theorem newField_spec (E:World)(g:PH)(s:Own)(v:Value)(A:List Cl)(hv:Cells g v A)(hf:Fits A)(hn:(A.map Cl.id).Nodup)(hs:∀ c∈A,(c.sides.map Side.cell).Nodup) :
  Ctr Tryz.prog E 87 #[.agg #[v]] g s (fun r g' s'=>Le g g'∧∃ bf mo mh ml out,r=pp bf 0∧Mp g' mo out∧SdM g' out A∧s'=fdP bf v mo mh ml::mp mh []::mp ml []::s):=by
 obtain ⟨p,c,rfl⟩:=hv.form;refine Ctr.of (args:=[.agg #[.slice p A.length c]]) func87 I ntmps87 (bE I) ?_;refine SC.sR (SL.bx (bO I) fun b1=>?_);refine lA I (SL.nT ?_);refine SC.cut (ι:=Nat×Nat×Nat×Nat×List (Int×Value)×PH) (fun i=>[(2,pp i.1 0)]) (fun i=>i.2.2.2.2.2) (fun i=>fdP i.1 (.slice p A.length c) i.2.1 i.2.2.1 i.2.2.2.1::mp i.2.2.1 []::mp i.2.2.2.1 []::pt b1 (.cells #[.slice p A.length c] 29 (0,0))::s)
  (fun i=>Le g i.2.2.2.2.2∧Mp i.2.2.2.2.2 i.2.1 i.2.2.2.2.1∧SdM i.2.2.2.2.2 i.2.2.2.2.1 A) ?_ ?_
 ·refine SC.drawX [] Tryz.mixed (by kernel_rfl) ?_;refine SX.q (i:=0) I (by kernel_rfl) (qV 0 iT29 zT29 I I I) dC (SX.q (i:=1) I (by kernel_rfl) (qV 0 iT29 zT29 I I I) dC ?_);refine SX.br3 2 3 4 (by kernel_rfl) ?_ ?_ ?_
  ·refine SB.o (i:=2) rfl (SO.call call129 rfl (signs_spec E g _ _ A hv hf hn hs)) dC (.inr (by rintro _ g1 _ ⟨rfl,hle1,mo,out,rfl,hmo,hS⟩; exact⟨by assumption,(by exact .refl _)⟩)) ?_;rintro _ g1 _ ⟨rfl,hle1,mo,out,rfl,hmo,hS⟩;refine SX.br2 3 4 (by kernel_rfl) ?_ ?_
   ·refine SB.o (i:=3) rfl (SO.mkMap) dC (.inr (by rintro _ _ _ ⟨b6,rfl,rfl,rfl⟩; exact⟨by assumption,(by exact .cons _ (.refl _))⟩)) ?_;rintro _ _ _ ⟨b6,rfl,rfl,rfl⟩;refine SX.br1 4 (by kernel_rfl) ?_
    ·refine SB.o (i:=4) rfl (SO.mkMap) dC (.inr (by rintro _ _ _ ⟨b7,rfl,rfl,rfl⟩; exact⟨by assumption,(by exact .cons _ (.cons _ (.refl _)))⟩)) ?_;rintro _ _ _ ⟨b7,rfl,rfl,rfl⟩;refine SX.u (i:=5) I (by kernel_rfl) (SU.build I (build104 _ _ _ _)) dC ?_;refine SX.br1 6 (by kernel_rfl) ?_
     ·refine SB.o (i:=6) rfl (bO rfl) dC (.inr (by rintro _ _ _ ⟨b9,rfl,rfl,rfl⟩; exact⟨by assumption,(by exact .cons _ (.cons _ (.cons _ (.refl _))))⟩)) ?_;rintro _ _ _ ⟨b9,rfl,rfl,rfl⟩;refine SX.u (i:=7) I (by kernel_rfl) (aS I) dC (SX.nil (by kernel_rfl) ?_)
      first | exact ST.mid (b9,mo,b6,b7,out,g1) ⟨rfl,trivial⟩ rfl rfl ⟨hle1,hmo,hS⟩ | (refine ST.perm (List.Perm.cons _ (List.Perm.swap _ _ _)) ?_; exact ST.mid (b9,mo,b6,b7,out,g1) ⟨rfl,trivial⟩ rfl rfl ⟨hle1,hmo,hS⟩)
   ·refine SB.o (i:=4) rfl (SO.mkMap) dC (.inr (by rintro _ _ _ ⟨b7,rfl,rfl,rfl⟩; exact⟨by assumption,(by exact .cons _ (.refl _))⟩)) ?_;rintro _ _ _ ⟨b7,rfl,rfl,rfl⟩;refine SX.br1 3 (by kernel_rfl) ?_
    ·refine SB.o (i:=3) rfl (SO.mkMap) dC (.inr (by rintro _ _ _ ⟨b6,rfl,rfl,rfl⟩; exact⟨by assumption,(by exact .cons _ (.cons _ (.refl _)))⟩)) ?_;rintro _ _ _ ⟨b6,rfl,rfl,rfl⟩;refine SX.u (i:=5) I (by kernel_rfl) (SU.build I (build104 _ _ _ _)) dC ?_;refine SX.br1 6 (by kernel_rfl) ?_
     ·refine SB.o (i:=6) rfl (bO rfl) dC (.inr (by rintro _ _ _ ⟨b9,rfl,rfl,rfl⟩; exact⟨by assumption,(by exact .cons _ (.cons _ (.cons _ (.refl _))))⟩)) ?_;rintro _ _ _ ⟨b9,rfl,rfl,rfl⟩;refine SX.u (i:=7) I (by kernel_rfl) (aS I) dC (SX.nil (by kernel_rfl) ?_)
      first | exact ST.mid (b9,mo,b6,b7,out,g1) ⟨rfl,trivial⟩ rfl rfl ⟨hle1,hmo,hS⟩ | (refine ST.perm (List.Perm.cons _ (List.Perm.swap _ _ _)) ?_; exact ST.mid (b9,mo,b6,b7,out,g1) ⟨rfl,trivial⟩ rfl rfl ⟨hle1,hmo,hS⟩)
  ·refine SB.o (i:=3) rfl (SO.mkMap) dC (.inr (by rintro _ _ _ ⟨b6,rfl,rfl,rfl⟩; exact⟨by exact Le.refl _,(by exact .cons _ (.refl _))⟩)) ?_;rintro _ _ _ ⟨b6,rfl,rfl,rfl⟩;refine SX.br2 2 4 (by kernel_rfl) ?_ ?_
   ·refine SB.o (i:=2) rfl (SO.call call129 rfl (signs_spec E g _ _ A hv hf hn hs)) dC (.inr (by rintro _ g1 _ ⟨rfl,hle1,mo,out,rfl,hmo,hS⟩; exact⟨by assumption,(by exact .cons _ (.refl _))⟩)) ?_;rintro _ g1 _ ⟨rfl,hle1,mo,out,rfl,hmo,hS⟩;refine SX.br1 4 (by kernel_rfl) ?_
    ·refine SB.o (i:=4) rfl (SO.mkMap) dC (.inr (by rintro _ _ _ ⟨b7,rfl,rfl,rfl⟩; exact⟨by assumption,(by exact .cons _ (.cons _ (.refl _)))⟩)) ?_;rintro _ _ _ ⟨b7,rfl,rfl,rfl⟩;refine SX.u (i:=5) I (by kernel_rfl) (SU.build I (build104 _ _ _ _)) dC ?_;refine SX.br1 6 (by kernel_rfl) ?_
     ·refine SB.o (i:=6) rfl (bO rfl) dC (.inr (by rintro _ _ _ ⟨b9,rfl,rfl,rfl⟩; exact⟨by assumption,(by exact .cons _ (.cons _ (.cons _ (.refl _))))⟩)) ?_;rintro _ _ _ ⟨b9,rfl,rfl,rfl⟩;refine SX.u (i:=7) I (by kernel_rfl) (aS I) dC (SX.nil (by kernel_rfl) ?_)
      first | exact ST.mid (b9,mo,b6,b7,out,g1) ⟨rfl,trivial⟩ rfl rfl ⟨hle1,hmo,hS⟩ | (refine ST.perm (List.Perm.cons _ (List.Perm.swap _ _ _)) ?_; exact ST.mid (b9,mo,b6,b7,out,g1) ⟨rfl,trivial⟩ rfl rfl ⟨hle1,hmo,hS⟩)
   ·refine SB.o (i:=4) rfl (SO.mkMap) dC (.inr (by rintro _ _ _ ⟨b7,rfl,rfl,rfl⟩; exact⟨by exact Le.refl _,(by exact .cons _ (.cons _ (.refl _)))⟩)) ?_;rintro _ _ _ ⟨b7,rfl,rfl,rfl⟩;refine SX.br1 2 (by kernel_rfl) ?_
    ·refine SB.o (i:=2) rfl (SO.call call129 rfl (signs_spec E g _ _ A hv hf hn hs)) dC (.inr (by rintro _ g1 _ ⟨rfl,hle1,mo,out,rfl,hmo,hS⟩; exact⟨by assumption,(by exact .cons _ (.cons _ (.refl _)))⟩)) ?_;rintro _ g1 _ ⟨rfl,hle1,mo,out,rfl,hmo,hS⟩;refine SX.u (i:=5) I (by kernel_rfl) (SU.build I (build104 _ _ _ _)) dC ?_;refine SX.br1 6 (by kernel_rfl) ?_
     ·refine SB.o (i:=6) rfl (bO rfl) dC (.inr (by rintro _ _ _ ⟨b9,rfl,rfl,rfl⟩; exact⟨by assumption,(by exact .cons _ (.cons _ (.cons _ (.refl _))))⟩)) ?_;rintro _ _ _ ⟨b9,rfl,rfl,rfl⟩;refine SX.u (i:=7) I (by kernel_rfl) (aS I) dC (SX.nil (by kernel_rfl) ?_)
      first | exact ST.mid (b9,mo,b6,b7,out,g1) ⟨rfl,trivial⟩ rfl rfl ⟨hle1,hmo,hS⟩ | (refine ST.perm (List.Perm.cons _ (List.Perm.swap _ _ _)) ?_; exact ST.mid (b9,mo,b6,b7,out,g1) ⟨rfl,trivial⟩ rfl rfl ⟨hle1,hmo,hS⟩)
  ·refine SB.o (i:=4) rfl (SO.mkMap) dC (.inr (by rintro _ _ _ ⟨b7,rfl,rfl,rfl⟩; exact⟨by exact Le.refl _,(by exact .cons _ (.refl _))⟩)) ?_;rintro _ _ _ ⟨b7,rfl,rfl,rfl⟩;refine SX.br2 2 3 (by kernel_rfl) ?_ ?_
   ·refine SB.o (i:=2) rfl (SO.call call129 rfl (signs_spec E g _ _ A hv hf hn hs)) dC (.inr (by rintro _ g1 _ ⟨rfl,hle1,mo,out,rfl,hmo,hS⟩; exact⟨by assumption,(by exact .cons _ (.refl _))⟩)) ?_;rintro _ g1 _ ⟨rfl,hle1,mo,out,rfl,hmo,hS⟩;refine SX.br1 3 (by kernel_rfl) ?_
    ·refine SB.o (i:=3) rfl (SO.mkMap) dC (.inr (by rintro _ _ _ ⟨b6,rfl,rfl,rfl⟩; exact⟨by assumption,(by exact .cons _ (.cons _ (.refl _)))⟩)) ?_;rintro _ _ _ ⟨b6,rfl,rfl,rfl⟩;refine SX.u (i:=5) I (by kernel_rfl) (SU.build I (build104 _ _ _ _)) dC ?_;refine SX.br1 6 (by kernel_rfl) ?_
     ·refine SB.o (i:=6) rfl (bO rfl) dC (.inr (by rintro _ _ _ ⟨b9,rfl,rfl,rfl⟩; exact⟨by assumption,(by exact .cons _ (.cons _ (.cons _ (.refl _))))⟩)) ?_;rintro _ _ _ ⟨b9,rfl,rfl,rfl⟩;refine SX.u (i:=7) I (by kernel_rfl) (aS I) dC (SX.nil (by kernel_rfl) ?_)
      first | exact ST.mid (b9,mo,b6,b7,out,g1) ⟨rfl,trivial⟩ rfl rfl ⟨hle1,hmo,hS⟩ | (refine ST.perm (List.Perm.cons _ (List.Perm.swap _ _ _)) ?_; exact ST.mid (b9,mo,b6,b7,out,g1) ⟨rfl,trivial⟩ rfl rfl ⟨hle1,hmo,hS⟩)
   ·refine SB.o (i:=3) rfl (SO.mkMap) dC (.inr (by rintro _ _ _ ⟨b6,rfl,rfl,rfl⟩; exact⟨by exact Le.refl _,(by exact .cons _ (.cons _ (.refl _)))⟩)) ?_;rintro _ _ _ ⟨b6,rfl,rfl,rfl⟩;refine SX.br1 2 (by kernel_rfl) ?_
    ·refine SB.o (i:=2) rfl (SO.call call129 rfl (signs_spec E g _ _ A hv hf hn hs)) dC (.inr (by rintro _ g1 _ ⟨rfl,hle1,mo,out,rfl,hmo,hS⟩; exact⟨by assumption,(by exact .cons _ (.cons _ (.refl _)))⟩)) ?_;rintro _ g1 _ ⟨rfl,hle1,mo,out,rfl,hmo,hS⟩;refine SX.u (i:=5) I (by kernel_rfl) (SU.build I (build104 _ _ _ _)) dC ?_;refine SX.br1 6 (by kernel_rfl) ?_
     ·refine SB.o (i:=6) rfl (bO rfl) dC (.inr (by rintro _ _ _ ⟨b9,rfl,rfl,rfl⟩; exact⟨by assumption,(by exact .cons _ (.cons _ (.cons _ (.refl _))))⟩)) ?_;rintro _ _ _ ⟨b9,rfl,rfl,rfl⟩;refine SX.u (i:=7) I (by kernel_rfl) (aS I) dC (SX.nil (by kernel_rfl) ?_)
      first | exact ST.mid (b9,mo,b6,b7,out,g1) ⟨rfl,trivial⟩ rfl rfl ⟨hle1,hmo,hS⟩ | (refine ST.perm (List.Perm.cons _ (List.Perm.swap _ _ _)) ?_; exact ST.mid (b9,mo,b6,b7,out,g1) ⟨rfl,trivial⟩ rfl rfl ⟨hle1,hmo,hS⟩)
 rintro ⟨bf,mo,mh,ml,out,g1⟩ ⟨hle1,hmo,hS⟩;dsimp only at hle1 hmo hS ⊢;refine rE (dR (.cons_cons _ (.cons_cons _ (.cons_cons _ (.cons _ (.refl _))))) ?_);exact ST.ret1 (.inl I) results87 I ⟨hle1,bf,mo,mh,ml,out,I,hmo,hS,I⟩
def lowT (T:List Pr)(high:Int):Option Int:=(T.find? fun q=>decide (q.2=high)).map Prod.fst
def LoM (m:List (Int×Value))(T:List Pr):Prop:=∀ k,mget m k=(lowT T k).map vi
def PosT (T:List Pr):Prop:=∀ q∈T,q.1≠0∧q.2≠0
theorem high_any (T:List Pr)(id:Int):(T.any fun q=>decide (q.1=id))=(highT T id).isSome:=by
 unfold highT;rw[Option.isSome_map,Bool.eq_iff_iff,List.any_eq_true,List.find?_isSome]
theorem low_any (T:List Pr)(id:Int):(T.any fun q=>decide (q.2=id))=(lowT T id).isSome:=by
 unfold lowT;rw[Option.isSome_map,Bool.eq_iff_iff,List.any_eq_true,List.find?_isSome]
theorem lowT_mem {T:List Pr}{high lo:Int}(h:lowT T high=some lo):(lo,high)∈T:=by
 unfold lowT at h;rw[Option.map_eq_some_iff] at h;obtain ⟨q,hq,rfl⟩:=h;have h1:=List.find?_some hq;have h2:=List.mem_of_find?_eq_some hq;simp only[decide_eq_true_eq] at h1;rw[← h1];exact h2
theorem high_zero {T:List Pr}(hp:PosT T)(id:Int):decide ((highT T id).getD 0≠0)=(highT T id).isSome:=by
 cases h:highT T id with
 | none=>rfl
 | some x =>
  have:=(hp _ (highT_mem h)).2;simpa using this
theorem low_zero {T:List Pr}(hp:PosT T)(id:Int):decide ((lowT T id).getD 0≠0)=(lowT T id).isSome:=by
 cases h:lowT T id with
 | none=>rfl
 | some x =>
  have:=(hp _ (lowT_mem h)).1;simpa using this
theorem mapD (o:Option Int):(o.map vi).getD (vi 0)=vi (o.getD 0):=by cases o <;> rfl
theorem pairedM_spec (E:World)(g:PH)(s:Own)(bf mo mh ml:Nat)(u:Value)(hm lm:List (Int×Value))(T:List Pr)(id:Int)(i j k:Nat)(hi:s[i]?=some (fdP bf u mo mh ml))(hj:s[j]?=some (mp mh hm))(hk:s[k]?=some (mp ml lm))(hH:HiM hm T)(hL:LoM lm T)(hp:PosT T) :
  Ctr Tryz.prog E 92 #[pp bf 0,vi id] g s (fun r g' s'=>r=vb (usedR T id)∧g=g'∧s=s'):=by
 have hu:usedR T id=((highT T id).isSome||(lowT T id).isSome):=by unfold usedR; rw[high_any,low_any]
 rw[hu];have hz1:=high_zero hp id;have hz2:=low_zero hp id;refine Ctr.of (args:=[pp bf 0,vi id]) func92 I ntmps92 (bE I) ?_;cases hc:(highT T id).isSome with
 | true =>
  rw[hc] at hz1;refine SC.sR (lA I (SL.nT (SC.sR (lM I (lU (nC I) (lU (fA uT104 I sizeOf70 I) (lK (qL (v:=.map (some mh)) isAgg70 I (cO i hi I)) (lM I (lK (SQ.eq (v':=vi ((highT T id).getD 0)) (SQ.lookup mty70m I I (MapAt.own j hj)) (by rw[hH,mapD])) ?_)))))))));refine lU (SU.eq (v':=vb true) (nQ I I) (congrArg vb hz1)) (lM I (lZ I I I (lZ I I I (lZ I I I (lZ I I I (lZ I I I (lZ I I I (lZ I I I (lU (pT I I) (lA I (SL.nT (rE ?_))))))))))));exact ST.ret1 (.inl I) results92 I ⟨I,I,I⟩
 | false =>
  rw[hc] at hz1;refine SC.sR (lA I (SL.nT (SC.sR (lM I (lU (nC I) (lU (fA uT104 I sizeOf70 I) (lK (qL (v:=.map (some mh)) isAgg70 I (cO i hi I)) (lM I (lK (SQ.eq (v':=vi ((highT T id).getD 0)) (SQ.lookup mty70m I I (MapAt.own j hj)) (by rw[hH,mapD])) ?_)))))))));refine lU (SU.eq (v':=vb false) (nQ I I) (congrArg vb hz1)) (lM I (lY I I I (mV I) (lY I I I (nC I) (lY I I I (fA uT104 I sizeOf70 I) (SL.gq (gT I I I dC) (qL (v:=.map (some ml)) isAgg70 I (cO i hi I)) dC (lY I I I (mV I) (SL.gq (gT I I I dC) (SQ.eq (v':=vi ((lowT T id).getD 0)) (SQ.lookup mty70m I I (MapAt.own k hk)) (by rw[hL,mapD])) dC ?_)))))));refine lY I I I (SU.eq (v':=vb (lowT T id).isSome) (nQ I I) (congrArg vb hz2)) (lU (pF I I) (lA I (SL.nT (rE ?_))));exact ST.ret1 (.inl I) results92 I ⟨I,I,I⟩
theorem fitsM_spec (E:World)(g:PH)(s:Own)(bf mo mh ml:Nat)(u:Value)(A:List Cl)(out hm lm:List (Int×Value))(T:List Pr)(low high:Int)(i j k:Nat)(hi:s[i]?=some (fdP bf u mo mh ml))(hj:s[j]?=some (mp mh hm))(hk:s[k]?=some (mp ml lm))(hmo:Mp g mo out)(hS:SdM g out A)(hH:HiM hm T)(hL:LoM lm T)(hp:PosT T) :
  Ctr Tryz.prog E 56 #[pp bf 0,vi low,vi high] g s (fun r g' s'=>r=vb (!(usedR T low||usedR T high||decide ((((findT A high).getD zeroC).sides.find? fun s=>decide (s.cell=low)).elim 0 Side.sign=0)))∧g=g'∧s=s'):=by
 refine Ctr.of (args:=[pp bf 0,vi low,vi high]) func56 I ntmps56 (bE I) ?_;have hgl:∃ mv:Value,(mget out high).getD (.map none)=mv∧((mv = .map none∧findT A high=none)∨∃ c b,mv = .map (some b)∧findT A high=some c∧Mp g b (innC c.sides)):=by
  rcases hS.look high with ⟨h1,h2⟩ | ⟨c,b,h1,h2,h3⟩
  ·exact⟨_,by rw[h2]; rfl,.inl ⟨rfl,h1⟩⟩
  ·exact⟨_,by rw[h2]; rfl,.inr ⟨c,b,rfl,h1,h3⟩⟩
 obtain ⟨mv,hmv,hcase⟩:=hgl;have hval:∀ sg:Int,(match (((findT A high).getD zeroC).sides.find? fun s=>decide (s.cell=low)) with | some s=>s.sign | none=>0)=sg→(((findT A high).getD zeroC).sides.find? fun s=>decide (s.cell=low)).elim 0 Side.sign=sg:=fun sg h=>by
  rw[← h];cases ((findT A high).getD zeroC).sides.find? fun s=>decide (s.cell=low)<;>rfl
 generalize hsg:(((findT A high).getD zeroC).sides.find? fun s=>decide (s.cell=low)).elim 0 Side.sign=sg at *
 rcases hcase with ⟨rfl,hf⟩ | ⟨c,b,rfl,hf,hb⟩
 ·have h0:sg=0:=by rw[← hsg,hf]; rfl
  refine SC.sR (lA I (SL.nT (SC.sR (lM I (lU (nC I) (lU (fA uT104 I sizeOf102 I) (lK (qL (v:=.map (some mo)) isAgg102 I (cO i hi I)) (lM I (lK (SQ.eq (v':=.map none) (SQ.lookup mty102 I I (MapAt.known hmo)) hmv) (lM I (lK (SQ.lookupNil mty70m I I) (lU (nQ I I) (lM I (lZ I I I (lZ I I I (lZ I I I (lZ I I I (lU (pF I I) (lM I (lZ I I I (lZ I I I (lZ I I I (lZ I I I (lU (pF I I) (lA I (nL ?_))))))))))))))))))))))))));refine tN (rE ?_);exact ST.ret1 (.inl I) results56 I ⟨by rw[h0]; simp,I,I⟩
 ·have h0:(mget (innC c.sides) low).getD (vi 0)=vi sg:=by
   rw[mget_inn,← hsg,hf];show ((c.sides.find? fun s=>decide (s.cell=low)).map fun s=>vi s.sign).getD (vi 0)=vi ((c.sides.find? fun s=>decide (s.cell=low)).elim 0 Side.sign);cases c.sides.find? fun s=>decide (s.cell=low)<;>rfl
  by_cases hz:sg=0
  ·refine SC.sR (lA I (SL.nT (SC.sR (lM I (lU (nC I) (lU (fA uT104 I sizeOf102 I) (lK (qL (v:=.map (some mo)) isAgg102 I (cO i hi I)) (lM I (lK (SQ.eq (v':=.map (some b)) (SQ.lookup mty102 I I (MapAt.known hmo)) hmv) (lM I (lK (SQ.eq (v':=vi sg) (SQ.lookup mty70m I I (MapAt.known hb)) h0) (lU (SU.eq (v':=vb false) (nQ I I) (congrArg vb (decide_eq_false (fun h=>h hz)))) ?_))))))))))));refine lM I (lZ I I I (lZ I I I (lZ I I I (lZ I I I (lU (pF I I) (lM I (lZ I I I (lZ I I I (lZ I I I (lZ I I I (lU (pF I I) (lA I (SL.nT (rE ?_))))))))))))));exact ST.ret1 (.inl I) results56 I ⟨by rw[hz]; simp,I,I⟩
  ·cases hu:usedR T low with
   | true =>
    refine SC.sR (lA I (SL.nT (SC.sR (lM I (lU (nC I) (lU (fA uT104 I sizeOf102 I) (lK (qL (v:=.map (some mo)) isAgg102 I (cO i hi I)) (lM I (lK (SQ.eq (v':=.map (some b)) (SQ.lookup mty102 I I (MapAt.known hmo)) hmv) (lM I (lK (SQ.eq (v':=vi sg) (SQ.lookup mty70m I I (MapAt.known hb)) h0) (lU (SU.eq (v':=vb true) (nQ I I) (congrArg vb (decide_eq_true hz))) (lM I (lY I I I (mV I) (lY I I I (mV I) (SL.go (gT I I I dC) (SO.call call92 I (pairedM_spec E g _ bf mo mh ml u hm lm T low i j k hi hj hk hH hL hp)) dC ?_))))))))))))))));rintro _ _ _ ⟨rfl,rfl,rfl⟩;refine lY rfl rfl rfl (SU.eq (v':=vb false) (SU.not rfl) (congrArg vb (by rw[hu]; rfl))) ?_;refine lU (pT I I) (lM I (lZ I I I (lZ I I I (lZ I I I (lZ I I I (lU (pF I I) (lA I (SL.nT (rE ?_)))))))));exact ST.ret1 (.inl I) results56 I ⟨by simp,I,I⟩
   | false =>
    refine SC.sR (lA I (SL.nT (SC.sR (lM I (lU (nC I) (lU (fA uT104 I sizeOf102 I) (lK (qL (v:=.map (some mo)) isAgg102 I (cO i hi I)) (lM I (lK (SQ.eq (v':=.map (some b)) (SQ.lookup mty102 I I (MapAt.known hmo)) hmv) (lM I (lK (SQ.eq (v':=vi sg) (SQ.lookup mty70m I I (MapAt.known hb)) h0) (lU (SU.eq (v':=vb true) (nQ I I) (congrArg vb (decide_eq_true hz))) (lM I (lY I I I (mV I) (lY I I I (mV I) (SL.go (gT I I I dC) (SO.call call92 I (pairedM_spec E g _ bf mo mh ml u hm lm T low i j k hi hj hk hH hL hp)) dC ?_))))))))))))))));rintro _ _ _ ⟨rfl,rfl,rfl⟩;refine lY rfl rfl rfl (SU.eq (v':=vb true) (SU.not rfl) (congrArg vb (by rw[hu]; rfl))) ?_;refine lU (pT I I) (lM I (lY I I I (mV I) (lY I I I (mV I) (SL.go (gT I I I dC) (SO.call call92 I (pairedM_spec E g _ bf mo mh ml u hm lm T high i j k hi hj hk hH hL hp)) dC ?_))));rintro _ _ _ ⟨rfl,rfl,rfl⟩;refine lY I I I (SU.not I) (lU (pT I I) (lA I (SL.nT (rE ?_))));exact ST.ret1 (.inl I) results56 I ⟨by simp[hz],I,I⟩
set_option maxHeartbeats 4000000
def cntL (m:List Pr)(v:List Int):Nat:=(m.filter fun q=>!v.contains q.1).length
theorem cntL_lt:∀ {m:List Pr} {v:List Int} {q:Pr},q∈m→v.contains q.1=false→cntL m (v++[q.1])<cntL m v
 | a::m,v,q,hq,hv=>by
  have hle:∀ m:List Pr,cntL m (v++[q.1])≤cntL m v:=by
   intro m;unfold cntL;rw[← List.countP_eq_length_filter,← List.countP_eq_length_filter];refine List.countP_mono_left fun x _ hx=>?_;simp at hx ⊢;exact hx.1
  unfold cntL;rw[List.filter_cons,List.filter_cons]
  rcases List.mem_cons.1 hq with rfl | hq
  ·have h1:(!v.contains q.1)=true:=by rw[hv]; rfl
   have h2:¬ (!(v++[q.1]).contains q.1)=true:=by simp
   rw[if_pos h1,if_neg h2];have:=hle m;unfold cntL at this;rw[List.length_cons];omega
  ·have ih:=cntL_lt hq hv;unfold cntL at ih;by_cases h1:(!(v++[q.1]).contains a.1)=true
   ·have h2:(!v.contains a.1)=true:=by simp at h1 ⊢; exact h1.1
    rw[if_pos h1,if_pos h2,List.length_cons,List.length_cons];omega
   ·rw[if_neg h1];split
    ·rw[List.length_cons]; omega
    ·exact ih
theorem cntL_mono {m:List Pr}{v w:List Int}(h:∀ z∈v,z∈w):cntL m w≤cntL m v:=by
 unfold cntL;rw[← List.countP_eq_length_filter,← List.countP_eq_length_filter];refine List.countP_mono_left fun x _ hx=>?_;simp at hx ⊢;exact fun hv=>hx (h _ hv)
theorem setI_snoc {l:List (Int×Value)}{w:List Int}(h:SetI l w.contains)(k:Int):SetI (mput l k (vb true)) (w++[k]).contains:=(h.put k).congr fun j=>by
 rw[Bool.eq_iff_iff,List.contains_iff_mem,List.mem_append,Bool.or_eq_true,decide_eq_true_iff,List.contains_iff_mem,List.mem_singleton];exact Or.comm
def sidA (A:List Cl)(h:Int):List Int:=((findT A h).getD zeroC).sides.map Side.cell
theorem visitM_spec (E:World)(g:PH)(bF bS bL bV bf mo mh ml msn:Nat)(u:Value)(A:List Cl)(out hm:List (Int×Value))(T:List Pr)(low:Int)
  (hF:g bF=some (.cells #[pp bf 0] 99 (0,0))) (hSn:g bS=some (.cells #[.map (some msn)] 71 (0,0))) (hLw:g bL=some (.cells #[vi low] 3 (0,0)))
  (hV:g bV=some (.cells #[.func (.func 93) #[] #[pp bF 0,pp bS 0,pp bL 0,pp bV 0]] 106 (0,0)))
  (hmo:Mp g mo out) (hS:SdM g out A) (hH:HiM hm T) (hp:PosT T) (hsd:∀ q∈T,q.1∈sidA A q.2) (hlowT:(highT T low).isSome=true) :
  ∀ (n:Nat) (a:Int) (v:List Int) (sl:List (Int×Value)) (s:Own) (i j k:Nat),cntL T v<n→(highT T a).isSome=true→low ∉ v→SetI sl v.contains→k≠i→k≠j→s[i]?=some (fdP bf u mo mh ml)→s[j]?=some (mp mh hm)→s[k]?=some (mp msn sl) →
  Ctr Tryz.prog E 93 #[vi a,pp bF 0,pp bS 0,pp bL 0,pp bV 0] g s (fun r g' s'=>g=g'∧∃ b v' sl',r=vb b∧SetI sl' v'.contains∧VisM (sidA A) T low a v b v'∧s'=s.set k (mp msn sl')):=by
 intro n;induction n with
 | zero=>intro a v sl s i j k h; omega
 | succ n ih =>
 intro a v sl s i j k hcnt hah hlv hsl hki hkj hi hj hk;obtain ⟨h,hh⟩:=Option.isSome_iff_exists.1 hah;have hh0:(highT T a).getD 0=h:=by rw[hh]; rfl
 have hmem:=hsd _ (highT_mem hh);dsimp only at hmem;obtain ⟨c,bi,hfc,hout,hbi⟩:∃ c b,findT A h=some c∧mget out h=some (.map (some b))∧Mp g b (innC c.sides):=by
  rcases hS.look h with ⟨h1,_⟩ | hx
  ·unfold sidA at hmem; rw[h1] at hmem; simp[zeroC] at hmem
  ·exact hx
 have hsid:sidA A h=c.sides.map Side.cell:=by unfold sidA; rw[hfc]; rfl
 obtain ⟨es,clk,hes,hmi⟩:=hbi;refine Ctr.of (args:=[vi a,pp bF 0,pp bS 0,pp bL 0,pp bV 0]) func93 I ntmps93 (bE I) ?_;refine SC.sR (lA I (SL.nT (sQ (sQ ?_))));refine dW [] [(0,1),(1,2),(2,2),(3,1),(4,1),(5,2),(6,2),(7,1),(8,2),(9,1),(10,1),(11,0)] Tryz.mixed (by kernel_rfl) ?_;refine pK I (qL (v:=pp bf 0) isAgg99 I (cK hF I)) (pU I (nC I) (pU I (fA uT104 I sizeOf102 I) (pK I (qL (v:=.map (some mo)) isAgg102 I (cO i hi I)) (pK I (qL (v:=pp bf 0) isAgg99 I (cK hF I)) (pU I (nC I) (pU I (fA uT104 I sizeOf70 I) (pK I (qL (v:=.map (some mh)) isAgg70 I (cO i hi I)) (pU I (mV I) (pK I (SQ.eq (v':=vi h) (SQ.lookup mty70m I I (MapAt.own j hj)) (by rw[hH,mapD,hh0])) ?_)))))))));refine pK rfl (SQ.eq (v':=.map (some bi)) (SQ.lookup mty102 rfl rfl (MapAt.known hmo)) (by rw[hout]; rfl)) ?_;refine SP.o rfl (SO.range underlying70 rfl hes) dC (.inr (by rintro _ _ _ ⟨it,rfl,rfl,rfl⟩; exact⟨by exact Le.refl _,(by exact .cons _ (.refl _))⟩)) ?_;rintro _ _ _ ⟨it,rfl,rfl,rfl⟩;refine pN (tN (bK ?_));refine oP (ι:=List MapEntry×List (Int×Value)×List Int×List (Int×Value)) (fun _=>[(0,vi a),(1,pp bF 0),(2,pp bS 0),(3,pp bL 0),(4,pp bV 0),(19,pp it 0)]) (fun _=>g) (fun z=>iter it bi es clk z.1::s.set k (mp msn z.2.2.2))
  (fun z=>RVis (innC c.sides) es z.1 z.2.1∧MidM (sidA A) T low a v (z.2.1.map Prod.fst) z.2.2.1∧SetI z.2.2.2 z.2.2.1.contains) (fun z=>c.sides.length - z.2.1.length) ([],[],v,sl)
  sB rfl (by dsimp only; rw[set_self hk]) ⟨RVis.nil _ _,MidM.start hlv,hsl⟩ ?_
 rintro ⟨vis,vl,w,wl⟩ ⟨hrv,hmid,hwl⟩;dsimp only at hrv hmid hwl ⊢;have hvle:=hrv.len hmi;have hi':=set_other (a:=mp msn wl) hki hi;have hj':=set_other (a:=mp msn wl) hkj hj;have hk':=get_set hk (mp msn wl);have hcw:cntL T w<n+1:=Nat.lt_of_le_of_lt (cntL_mono hmid.1) hcnt;refine SC.sR (lW (SO.nextP 0 I I hes hmi hrv) ?_);rintro _ _ _ ⟨rfl,hcase⟩
 rcases hcase with ⟨rfl,rfl,hperm⟩ | ⟨e,pr,he,hp1,hk1,hv1,hrv2,rfl,rfl⟩
 ·refine lU (xT I I) (SL.nT (sQ (cF I (xI (tX (tX (bX (tN (SC.sR (lA I (SL.nT (rE (dR (s':=s.set k (mp msn wl)) (.cons _ (.refl _)) ?_)))))))))))));exact ST.ret1 (.inl I) results93 I ⟨I,false,w,wl,I,hwl,hmid.stop fun y hy=>by
   obtain ⟨h',e1,e2,_,_⟩:=hy;rw[hh] at e1;injection e1 with e1
   subst e1;rw[hsid] at e2;have h3:y∈(innC c.sides).map Prod.fst:=by unfold innC; rw[List.map_map]; exact e2
   exact (hperm.map Prod.fst).symm.subset h3,I⟩
 ·have hyc:pr.1∈sidA A h:=by
   rw[hsid];unfold innC at hp1;obtain ⟨y,hy,rfl⟩:=List.mem_map.1 hp1;exact List.mem_map.2 ⟨y,hy,I⟩
  have hlen2:=hrv2.len hmi;have hil:(innC c.sides).length=c.sides.length:=by unfold innC; rw[List.length_map]
  rw[List.length_append,List.length_singleton,hil] at hlen2;have hmap2:(vl++[pr]).map Prod.fst=vl.map Prod.fst++[pr.1]:=by rw[List.map_append]; rfl
  obtain ⟨y,pv⟩:=pr;dsimp only at hk1 hv1 hyc hmap2;have hz1:=high_zero hp y;have hset2:∀ wl2,(s.set k (mp msn wl)).set k (mp msn wl2)=s.set k (mp msn wl2):=fun wl2=>List.set_set ..;have hagain:∀ w2 wl2,MidM (sidA A) T low a v (vl.map Prod.fst++[y]) w2→SetI wl2 w2.contains→_:=fun w2 wl2 h1 h2=>(show RVis (innC c.sides) es (vis++[e]) (vl++[(y,pv)])∧MidM (sidA A) T low a v ((vl++[(y,pv)]).map Prod.fst) w2∧SetI wl2 w2.contains from ⟨hrv2,by rw[hmap2]; exact h1,h2⟩);by_cases hya:y=a
  ·refine lU (xT I I) (SL.nT (sQ (cT I (kP (tN (bK (SC.sR (lK (SQ.entryP (p:=(y,pv)) 0 I I hes hmi he hk1 hv1) (lU (xT I I) (lA I (SL.nT (sQ (SC.sR (lM I (lM I (lU (SU.eq (v':=vb true) (eQ I I) (congrArg vb (decide_eq_true hya))) (lM I (lZ I I I (lZ I I I (lZ I I I (lZ I I I (lZ I I I (lZ I I I (lZ I I I (lU (pT I I) ?_)))))))))))))))))))))))));refine lM I (lZ I I I (lZ I I I (lZ I I I (lU (pT I I) (SL.nT (cT I (xI (tX (bX ?_)))))))));exact ST.again (vis++[e],vl++[(y,pv)],w,wl) sB rfl rfl (hagain w wl (hmid.skip fun ⟨_,_,_,h3,_⟩=>absurd hya h3) hwl) (by dsimp only; rw[List.length_append,List.length_singleton]; omega)
  ·cases hyh:(highT T y).isSome with
   | false =>
    have hy0:(highT T y).getD 0=0:=by
     rw[hyh] at hz1;simpa using hz1
    refine lU (xT I I) (SL.nT (sQ (cT I (kP (tN (bK (SC.sR (lK (SQ.entryP (p:=(y,pv)) 0 I I hes hmi he hk1 hv1) (lU (xT I I) (lA I (SL.nT (sQ (SC.sR (lM I (lM I (lU (SU.eq (v':=vb false) (eQ I I) (congrArg vb (decide_eq_false hya))) (lM I (SL.gq (gT I I I dC) (qL (v:=pp bf 0) isAgg99 I (cK hF I)) dC (lY I I I (nC I) (lY I I I (fA uT104 I sizeOf70 I) (SL.gq (gT I I I dC) (qL (v:=.map (some mh)) isAgg70 I (cO (i+1) hi' I)) dC (lY I I I (mV I) (SL.gq (gT I I I dC) (SQ.eq (v':=vi ((highT T y).getD 0)) (SQ.lookup mty70m I I (MapAt.own (j+1) hj')) (by rw[hH,mapD])) dC ?_)))))))))))))))))))))));refine lY I I I (SU.eq (v':=vb true) (eQ I I) (congrArg vb (decide_eq_true hy0))) (lU (pF I I) (lM I (lZ I I I (lZ I I I (lZ I I I (lU (pT I I) (SL.nT (cT I (xI (tX (bX ?_)))))))))));exact ST.again (vis++[e],vl++[(y,pv)],w,wl) sB rfl rfl (hagain w wl (hmid.skip fun ⟨_,_,_,_,h4⟩=>by rw[hyh] at h4; cases h4) hwl) (by dsimp only; rw[List.length_append,List.length_singleton]; omega)
   | true =>
    have hy0:(highT T y).getD 0≠0:=by
     rw[hyh] at hz1;simpa using hz1
    have hsuc:SucM (sidA A) T a y:=⟨h,hh,hyc,hya,hyh⟩;refine lU (xT I I) (SL.nT (sQ (cT I (kP (tN (bK (SC.sR (lK (SQ.entryP (p:=(y,pv)) 0 I I hes hmi he hk1 hv1) (lU (xT I I) (lA I (SL.nT (sQ (SC.sR (lM I (lM I (lU (SU.eq (v':=vb false) (eQ I I) (congrArg vb (decide_eq_false hya))) (lM I (SL.gq (gT I I I dC) (qL (v:=pp bf 0) isAgg99 I (cK hF I)) dC (lY I I I (nC I) (lY I I I (fA uT104 I sizeOf70 I) (SL.gq (gT I I I dC) (qL (v:=.map (some mh)) isAgg70 I (cO (i+1) hi' I)) dC (lY I I I (mV I) (SL.gq (gT I I I dC) (SQ.eq (v':=vi ((highT T y).getD 0)) (SQ.lookup mty70m I I (MapAt.own (j+1) hj')) (by rw[hH,mapD])) dC ?_)))))))))))))))))))))));refine lY I I I (SU.eq (v':=vb false) (eQ I I) (congrArg vb (decide_eq_false hy0))) (lU (pF I I) (lM I (SL.gq (gT I I I dC) (qL (v:=.map (some msn)) iT71 I (cK hSn I)) dC (lY I I I (mV I) (SL.gq (gT I I I dC) (SQ.eq (v':=vb (w.contains y)) (SQ.lookup mty71 I I (MapAt.own (k+1) hk')) (hwl.get y)) dC (lU (pF I I) (SL.nT ?_)))))));refine iQ I (fun hw=>?_) (fun hw=>?_)
    ·refine xI (tX (bX ?_));exact ST.again (vis++[e],vl++[(y,pv)],w,wl) sB I I (hagain w wl (hmid.skip fun _=>by rwa [List.contains_iff_mem] at hw) hwl) (by dsimp only; rw[List.length_append,List.length_singleton]; omega)
    ·have hq:(y,(highT T y).getD 0)∈T:=by
      obtain ⟨x,hx⟩:=Option.isSome_iff_exists.1 hyh;rw[hx];exact highT_mem hx
     have hc2:cntL T (w++[y])<n:=by
      have:=cntL_lt hq hw;dsimp only at this;omega
     by_cases hyl:y=low
     ·refine kP (tN (SC.sR (lK (qL (v:=.map (some msn)) iT71 I (cK hSn I)) (lM I (lO (SO.mapUpdate (k+1) mty71 I I I hk') ?_)))));rintro _ _ _ ⟨rfl,rfl⟩;refine SL.nT (SC.sR (lM I (lK (qL (v:=vi low) iT3 I (cK hLw I)) (lU (SU.eq (v':=vb true) (eQ I I) (congrArg vb (decide_eq_true hyl))) (lM I (lZ I I I (lZ I I I (lZ I I I (lU (pT I I) (SL.nT (cT I (SC.sR (lA I (SL.nT (rE (bR (tR (bR (tR ?_)))))))))))))))))));refine ST.to (g':=g) (s':=s.set k (mp msn (mput wl y (vb true)))) (fun w0 hw0=>?_) ?_
      ·rw[← hset2];exact hw0.sublist (.cons _ (.refl _))
      exact ST.ret1 (.inl I) results93 I ⟨I,true,w++[y],_,I,setI_snoc hwl y,VisM.here (by rw[← hyl]; exact hsuc),I⟩
     ·have hi2:=set_other (a:=mp msn (mput wl y (vb true))) hki hi;have hj2:=set_other (a:=mp msn (mput wl y (vb true))) hkj hj;have hk2:=get_set hk (mp msn (mput wl y (vb true)));have hrec:=ih y (w++[y]) (mput wl y (vb true)) (iter it bi es clk (vis++[e])::s.set k (mp msn (mput wl y (vb true)))) (i+1) (j+1) (k+1) hc2 hyh (by
       rw[List.mem_append,List.mem_singleton];rintro (h1 | h1)
       ·exact hmid.2.1 h1
       ·exact hyl h1.symm) (setI_snoc hwl y) oM oM hi2 hj2 hk2
      refine kP (tN (SC.sR (lK (qL (v:=.map (some msn)) iT71 I (cK hSn I)) (lM I (lO (SO.mapUpdate (k+1) mty71 I I I hk') ?_)))));rintro _ _ _ ⟨rfl,rfl⟩;refine SL.nT (sQ ?_);refine SC.to (g':=g) (s':=iter it bi es clk (vis++[e])::s.set k (mp msn (mput wl y (vb true)))) (fun w0 hw0=>by rw[← hset2]; exact hw0) ?_;refine rG (lM I (lK (qL (v:=vi low) iT3 I (cK hLw I)) (lU (SU.eq (v':=vb false) (eQ I I) (congrArg vb (decide_eq_false hyl))) (lM I (SL.gq (gT I I I dC) (qL (v:=.func (.func 93) #[] #[pp bF 0,pp bS 0,pp bL 0,pp bV 0]) isAgg106 I (cK hV I)) dC (lY I I I (mV I) (SL.go (gT I I I dC) (SO.callV I I (CallV.mk (args:=[_]) (cap:=[pp bF 0,pp bS 0,pp bL 0,pp bV 0]) call93 hrec)) dC ?_)))))));rintro _ _ _ ⟨rfl,b,v',sl',rfl,hsl',hvis',rfl⟩;refine lU (pF I I) (SL.nT ?_);have hset3:∀ wl2,(s.set k (mp msn (mput wl y (vb true)))).set k (mp msn wl2)=s.set k (mp msn wl2):=fun wl2=>List.set_set ..;cases b with
      | true =>
       refine cT I (SC.sR (lA I (SL.nT (rE (bR (tR (bR (tR ?_))))))));refine ST.to (g':=g) (s':=s.set k (mp msn sl')) (fun w0 hw0=>?_) ?_
       ·rw[← hset3];exact hw0.sublist (.cons _ (.refl _))
       exact ST.ret1 (.inl I) results93 I ⟨I,true,v',sl',I,hsl',VisM.found hsuc hvis',I⟩
      | false =>
       refine cF I (kP (bN ?_));refine ST.to (g':=g) (s':=iter it bi es clk (vis++[e])::s.set k (mp msn sl')) (fun w0 hw0=>?_) ?_
       ·rw[← hset3];exact hw0
       exact ST.again (vis++[e],vl++[(y,pv)],v',sl') sB I I (hagain v' sl' (hmid.step hyl hvis') hsl') (by dsimp only; rw[List.length_append,List.length_singleton]; omega)
theorem aroundM_spec (E:World)(g:PH)(s:Own)(bf mo mh ml:Nat)(u:Value)(A:List Cl)(out hm:List (Int×Value))(T:List Pr)(low:Int)(hmo:Mp g mo out)(hS:SdM g out A)(hH:HiM hm T)(hp:PosT T)(hsd:∀ q∈T,q.1∈sidA A q.2)(hlowT:(highT T low).isSome=true)(i j:Nat)(hi:s[i]?=some (fdP bf u mo mh ml))(hj:s[j]?=some (mp mh hm)) :
  Ctr Tryz.prog E 57 #[pp bf 0,vi low] g s (fun r g' s'=>(∃ b,r=vb b∧(b=true↔WayM (sidA A) T low low))∧s=s'∧Le g g'):=by
 refine Ctr.of (args:=[pp bf 0,vi low]) func57 I ntmps57 (bE I) ?_;refine SC.sR (SL.bx (bO I) fun b2=>?_);refine SL.bx (bO I) fun b3=>?_;refine lA I (SL.nT (SC.sR (lW (SO.mkMap) ?_)));rintro _ _ _ ⟨b7,rfl,rfl,rfl⟩;refine SL.bx (aL zeroValue71) fun b5=>?_;refine SL.O2 (sK 0 zT71 I I I I I sB) ?_;refine SL.nT (SC.sR (SL.bx (aL zeroValue106) fun b6=>?_));refine SL.nT (SC.sR (lU (SU.mkFunc I) (SL.O2 (sK 0 sizeOf106 I I I I I sB) ?_)));refine SL.nT (sQ (SC.freeze fun g1 hle1 hb6=>?_));refine SC.freeze fun g2 hle2 hb5=>?_;refine cP ((List.Perm.swap _ _ _).trans (List.Perm.cons _ (List.Perm.swap _ _ _))) (SC.freeze fun g3 hle3 hb3=>?_);refine SC.freeze fun g4 hle4 hb2=>?_;have hle24:=hle2.trans (hle3.trans hle4);have hle14:=hle1.trans hle24;refine rG (lK (qL (v:=.func (.func 93) #[] #[pp b2 0,pp b5 0,pp b3 0,pp b6 0]) isAgg106 I (cK (hle24 _ _ hb6) I)) (lK (qL (v:=vi low) iT3 I (cK (hle4 _ _ hb3) I)) (lW (SO.callV I I (CallV.mk (args:=[_]) (cap:=[pp b2 0,pp b5 0,pp b3 0,pp b6 0]) call93 (visitM_spec E g4 b2 b5 b3 b6 bf mo mh ml b7 u A out hm T low hb2 ((hle3.trans hle4) _ _ hb5) (hle4 _ _ hb3) (hle24 _ _ hb6) (hmo.mono hle14) (hS.mono hle14) hH hp hsd hlowT (cntL T []+1) low [] [] (mp b7 []::s) (i+1) (j+1) 0 oM hlowT (by simp) SetI.nil oM oM hi hj I))) ?_)));rintro _ _ _ ⟨rfl,b,v',sl',rfl,hsl',hvis,rfl⟩;refine lA I (SL.nT (rE (dR (s':=s) (.cons _ (.refl _)) ?_)));exact ST.ret1 (.inl I) results57 I ⟨⟨b,I,hvis.iff⟩,I,hle14⟩
theorem LoM.nil:LoM [] []:=fun _=>rfl
theorem LoM.snoc {lm:List (Int×Value)}{T:List Pr}(h:LoM lm T){p:Pr}(hu:usedR T p.2=false):LoM (mput lm p.2 (vi p.1)) (T++[p]):=fun k=>by
 have hn:(lowT T p.2)=none:=by
  have h1:=low_any T p.2;unfold usedR at hu;rw[Bool.or_eq_false_iff] at hu;rw[hu.2] at h1;simpa using h1.symm
 rw[mget_mput];unfold lowT at *;rw[List.find?_append];by_cases e:k=p.2
 ·subst e;rw[if_pos rfl];have h2:T.find? (fun q=>decide (q.2=p.2))=none:=by simpa using hn
  rw[h2];simp
 ·rw[if_neg e,h k];unfold lowT;have h3:¬ p.2=k:=fun h=>e h.symm;cases T.find? (fun q=>decide (q.2=k)) with
  | some x=>rfl
  | none=>simp[h3]
theorem usedR_fst {T:List Pr}{id:Int}(h:usedR T id=false):id ∉ T.map Prod.fst:=fun hm=>by
 have:usedR T id=true:=used_iff.2 (List.mem_append_left _ hm);rw[h] at this;cases this
section
variable {l:List Cl}(hl:(checkC l).2=0)
include hl
theorem sidA_eq:sidA (canonC l)=sidC l:=by
 have ht:tabC l=canonC l:=tabC_strict (rt_of hl).asc;funext k;unfold sidA sidC findC findT;rw[ht]
theorem rt_nodup:((canonC l).map Cl.id).Nodup∧∀ c∈canonC l,(c.sides.map Side.cell).Nodup:=by
 have hr:=rt_of hl;refine⟨?_,fun c hc=>?_⟩
 ·rw[List.Nodup,List.pairwise_map];exact hr.asc.imp fun h=>by omega
 ·rw[List.Nodup,List.pairwise_map];exact (hr.form c hc).asc.imp fun h=>by omega
theorem side_pos {low high:Int}(h:low∈sidC l high):low≠0∧high≠0:=by
 have hr:=rt_of hl;have ht:tabC l=canonC l:=tabC_strict hr.asc;unfold sidC at h;obtain ⟨s,hs,rfl⟩:=List.mem_map.1 h;obtain ⟨c,_,h2,h3,_,d,h5,_⟩:=rt_sides hl hs;have h6:findT (canonC l) s.cell=some d:=by rw[← ht]; exact h5
 obtain ⟨h7,h8⟩:=findT_mem h6;have h9:=hr.pos c h2;have h10:=hr.pos d h7;omega
end
theorem pairBad_at {l:List Cl}{m:List Pr}{k:Nat}(h:k<m.length):pairBad l m k=(usedR (m.take k) m[k].1||usedR (m.take k) m[k].2||decide (sgnP l m[k].1 m[k].2=0)):=by
 unfold pairBad;rw[List.getD_eq_getElem?_getD,gE h];rfl
theorem any_succ (p:Nat→Bool)(k:Nat):(List.range (k+1)).any p=((List.range k).any p||p k):=by
 rw[List.range_succ,List.any_append];simp
theorem openM_spec (E:World)(g:PH)(s:Own)(v mv:Value)(l:List Cl)(m:List Pr)(hv:Cells g v l)(hf:Fits l)(hm:SlA encPr g mv m)(hml:m.length<1099511627775) :
  Ctr Tryz.prog E 53 #[.agg #[v],mv] g s (fun r g' s'=>Le g g'∧∃ ptr,r = .tuple #[ptr,vi (mcheckR l m)]∧((mcheckR l m≠0∧s=s')∨(mcheckR l m=0∧∃ bf u mo mh ml out hi lo,ptr=pp bf 0∧Cells g' u (canonC l)∧Mp g' mo out∧SdM g' out (canonC l)∧HiM hi m∧LoM lo m∧s'=fdP bf u mo mh ml::mp mh hi::mp ml lo::s))):=by
 obtain ⟨p,c,rfl⟩:=hv.form;obtain ⟨q,d,rfl⟩:=SlA.form hm;have hAf:=canonC_fits hf;refine Ctr.of (args:=[.agg #[.slice p l.length c],.slice q m.length d]) func53 I ntmps53 (bE I) ?_;refine SC.sR (SL.bx (bO I) fun b2=>?_);refine lA I (lA I (SL.nT (sQ (SC.sR (lK (qV 0 iT29 zT29 I I I) (lW (SO.call call24 I (check_spec E g _ _ l hv hf)) ?_))))));rintro _ _ _ ⟨rfl,rfl,rfl⟩;refine lM I (lU (xT I I) (lU (xT I I) (lA I (lA I (SL.nT (SC.sR (lM I (lU (nQ I I) (SL.nT ?_)))))))));refine iP I (fun hc=>?_) (fun hc=>?_)
 ·have hmc:mcheckR l m=(checkC l).2:=by unfold mcheckR; rw[if_pos hc]
  rw[hmc];refine SC.sR (lM I (lA I (lA I (SL.nT (rE (tR (dR (s':=s) (.cons _ (.refl _)) ?_)))))));exact ST.ret2 (.inl I) results53 I I ⟨Le.refl _,_,I,.inl ⟨hc,I⟩⟩
 ·have hl:(checkC l).2=0:=Decidable.not_not.1 hc;have hmc:mcheckR l m=if (List.range m.length).any (pairBad l m) then 42 else if ringR (adjS (sidC l)) m then 43 else 0:=by unfold mcheckR; rw[if_neg hc,adjR_eq hl]
  rw[hmc];have hsA:=sidA_eq hl;obtain ⟨hnd,hsn⟩:=rt_nodup hl;have hpos:∀ {low high:Int},low∈sidA (canonC l) high→low≠0∧high≠0:=fun h=>side_pos hl (by rwa [hsA] at h);have hsg:∀ low high:Int,(((findT (canonC l) high).getD zeroC).sides.find? fun s=>decide (s.cell=low)).elim 0 Side.sign=sgnP l low high:=fun low high=>by
   have ht:tabC l=canonC l:=tabC_strict (rt_of hl).asc;unfold sgnP findC findT;rw[ht]
  have hside:∀ low high:Int,sgnP l low high≠0→low∈sidA (canonC l) high:=fun low high h=>by rw[hsA]; exact (sgn_side hl low high).1 h
  rw[← hsA];refine kP (tN (SC.sR (lK (qV 0 iT29 zT29 I I I) (lW (SO.call call50 I (canon_spec E g _ _ l hv hf)) ?_))));rintro _ g1 _ ⟨rfl,hle1,u,rfl,hu⟩;obtain ⟨pu,cu,rfl⟩:=hu.form;refine lW (SO.call call87 I (newField_spec E g1 _ _ (canonC l) hu hAf hnd hsn)) ?_;rintro _ g2 _ ⟨hle2,bf,mo,mh,ml,out,rfl,hmo,hS,rfl⟩;refine lA I (SL.nT (sQ (SC.sR (lM I (lU (eN uT31 I) (lM I (SL.nT (bK ?_))))))));generalize canonC l=A at *;have hm2:=SlA.mono hm (hle1.trans hle2);have hu2:=hu.mono hle2;refine oP (ι:=Nat×List (Int×Value)×List (Int×Value)) (fun i=>[(1,.slice q m.length d),(8,pp bf 0),(24,.slice q m.length d),(25,vi m.length),(26,vi i.1)]) (fun _=>g2) (fun i=>fdP bf (.slice pu A.length cu) mo mh ml::mp mh i.2.1::mp ml i.2.2::pt b2 (.cells #[.slice p l.length c] 29 (0,0))::s)
   (fun i=>i.1≤m.length∧HiM i.2.1 (m.take i.1)∧LoM i.2.2 (m.take i.1)∧PosT (m.take i.1)∧(∀ x∈m.take i.1,x.1∈sidA A x.2)∧((m.take i.1).map Prod.fst).Nodup∧(List.range i.1).any (pairBad l m)=false) (fun i=>m.length - i.1) (0,[],[])
   sB rfl rfl ⟨Nat.zero_le _,fun _=>rfl,LoM.nil,fun x hx=>by simp at hx,by simp,by simp,rfl⟩ ?_
  rintro ⟨k,hi,lo⟩ ⟨hk,hH,hL,hP,hSd,hNd,hok⟩;dsimp only at hk hH hL hP hSd hNd hok ⊢;refine SC.sR (lU (lS I I) (SL.nT (sQ ?_)));refine iP I (fun hlt=>?_) (fun hlt=>?_)
  ·have hkl:k<m.length:=oM;have hb1:=SlA.based hm2 oM;have hgk:m[((k:Nat):Int).toNat]?=some m[k]:=gE hkl;have htk:m.take (k+1)=m.take k++[m[k]]:=tS hkl;have hbad:=pairBad_at (l:=l) hkl;have hany:=any_succ (pairBad l m) k;have hbig:pairBad l m k=true→(List.range m.length).any (pairBad l m)=true:=fun h=>List.any_eq_true.2 ⟨k,List.mem_range.2 hkl,h⟩;generalize m[k]=x at *;obtain ⟨x1,x2⟩:=x;dsimp only at hbad;rw[← hsg] at hbad;refine kP (tN (sQ (bK (SC.sR (lU (iA uT31 zT44 I I hb1 oM sL) (lK (eA iT44 zT44 I (SlA.rd hm2) hgk) (SL.bx (aL zeroValue44) fun b10=>?_)))))));refine SL.O2 (sK 0 zT44 I I I I I sB) ?_;refine SL.nT (sQ (SC.sR (lM I (lU (iB uT44 zT3 I I dC dC) (lK (qL (v:=vi x1) iT3 I (cO 0 I I)) (lU (iB uT44 zT3 I I dC dC) (lK (qL (v:=vi x2) iT3 I (cO 0 I I)) (lW (SO.call call56 I (fitsM_spec E g2 _ bf mo mh ml _ A out hi lo (m.take k) x1 x2 1 2 3 I I I hmo hS hH hL hP)) ?_))))))));rintro _ _ _ ⟨rfl,rfl,rfl⟩;rw[← hbad];refine lU (SU.not I) (SL.nT ?_);refine iQ I (fun hb=>?_) (fun hb=>?_)
   ·rw[Bool.not_not] at hb;rw[if_pos (hbig hb)];refine SC.sR (lA I (lA I (SL.nT (rE (tR (bR (tR (tR (bR (tR (dR (s':=s) (.cons _ (.cons _ (.cons _ (.cons _ (.cons _ (.refl _)))))) ?_)))))))))));exact ST.ret2 (.inl I) results53 I I ⟨hle1.trans hle2,_,I,.inl ⟨by decide,I⟩⟩
   ·rw[Bool.not_not] at hb;have hb0:=hb;rw[hbad,hsg,Bool.or_eq_false_iff,Bool.or_eq_false_iff,decide_eq_false_iff_not] at hb;obtain ⟨⟨hu1,hu2'⟩,hs0⟩:=hb;have hsd:=hside _ _ hs0;refine kP (tN ?_);refine SC.drawT 2 [] [(0,2),(1,2),(2,2),(3,1),(4,2),(5,1),(6,2),(7,2),(8,2),(9,1),(10,2),(11,1),(12,2),(13,1),(14,2),(15,1),(16,0),(17,2),(18,0),(19,0),(20,2),(21,0)] Tryz.mixed (by kernel_rfl) ?_;refine pU rfl (mV rfl) (pU rfl (nC rfl) (pU rfl (fA uT104 rfl sizeOf70 rfl) (pK rfl (qL (v:=.map (some mh)) isAgg70 rfl (cO 1 rfl rfl)) (pU rfl (iB uT44 zT3 rfl rfl dC dC) (pK rfl (qL (v:=vi x1) iT3 rfl (cO 0 rfl rfl)) (pU rfl (mV rfl) (pU rfl (nC rfl) (pU rfl (fA uT104 rfl sizeOf70 rfl) (pK rfl (qL (v:=.map (some ml)) isAgg70 rfl (cO 1 rfl rfl)) (pU rfl (iB uT44 zT3 rfl rfl dC dC) (pK rfl (qL (v:=vi x2) iT3 rfl (cO 0 rfl rfl)) (pU rfl (iB uT44 zT3 rfl rfl dC dC) (pK rfl (qL (v:=vi x2) iT3 rfl (cO 0 rfl rfl)) (pU rfl (iB uT44 zT3 rfl rfl dC dC) (pK rfl (qL (v:=vi x1) iT3 rfl (cO 0 rfl rfl)) (SP.o rfl (SO.mapEntry 2 mty70m rfl rfl rfl) dC (.inr (by rintro _ _ _ ⟨st1,j1,l1,rfl,rfl,rfl,hk1,hp1⟩; exact⟨by exact Le.refl _,(by exact take_set_sub _ _ _ _)⟩)) ?_))))))))))))))));rintro _ _ _ ⟨st1,j1,l1,rfl,rfl,rfl,hk1,hp1⟩;refine pU rfl (xT rfl rfl) (SP.on rfl (SO.entryStore 2 rfl rfl rfl rfl hk1) (.inr (by rintro _ _ _ ⟨rfl,rfl⟩; exact⟨by exact Le.refl _,(by exact .cons_cons _ (.cons_cons _ (List.nil_sublist _)))⟩)) ?_);rintro _ _ _ ⟨rfl,rfl⟩;rw[← hp1];refine SP.o rfl (SO.mapEntry 3 mty70m rfl rfl rfl) dC (.inr (by rintro _ _ _ ⟨st2,j2,l2,rfl,rfl,rfl,hk2,hp2⟩; exact⟨by exact Le.refl _,(by exact .cons_cons _ (.cons_cons _ (List.nil_sublist _)))⟩)) ?_;rintro _ _ _ ⟨st2,j2,l2,rfl,rfl,rfl,hk2,hp2⟩;refine pU rfl (xT rfl rfl) (SP.on rfl (SO.entryStore 3 rfl rfl rfl rfl hk2) (.inr (by rintro _ _ _ ⟨rfl,rfl⟩; exact⟨by exact Le.refl _,(by exact .cons_cons _ (.cons_cons _ (List.nil_sublist _)))⟩)) ?_);rintro _ _ _ ⟨rfl,rfl⟩;rw[← hp2];refine pN (bN (tN (rG (lU (aD I I oM) (lM I (nL (dR (.cons _ (.refl _)) ?_)))))));exact ST.again (k+1,mput hi x1 (vi x2),mput lo x2 (vi x1)) sB I I ⟨by dsimp only; omega,by dsimp only; rw[htk]; exact hH.snoc (p:=(x1,x2)) hu1,by dsimp only; rw[htk]; exact hL.snoc (p:=(x1,x2)) hu2',by
     dsimp only;rw[htk];intro y hy
     rcases List.mem_append.1 hy with hy | hy
     ·exact hP y hy
     ·simp at hy; subst hy; exact hpos hsd,by
     dsimp only;rw[htk];intro y hy
     rcases List.mem_append.1 hy with hy | hy
     ·exact hSd y hy
     ·simp at hy; subst hy; exact hsd,by
     dsimp only;rw[htk,List.map_append,List.nodup_append];refine⟨hNd,by simp,fun a ha b hb'=>?_⟩;simp at hb';subst hb';exact fun e=>usedR_fst hu1 (e ▸ ha),by dsimp only; rw[hany,hok,hb0]; rfl⟩ (by dsimp only; omega)
  ·have hkk:m.take k=m:=tL oM;have hkm:k=m.length:=oM;rw[hkk] at hH hL hP hSd hNd;rw[hkm] at hok;rw[hok];have hring:=ring_way (S:=sidA A) hNd;have hif:(if false=true then (42:Int) else if ringR (adjS (sidA A)) m=true then 43 else 0)=if ringR (adjS (sidA A)) m=true then 43 else 0:=rfl
   rw[hif];refine xI (tX (tX (bX (tN (sQ (SC.sR (lM I (lU (eN uT31 I) (lM I (SL.nT (bK ?_)))))))))));refine oP (ι:=Nat×PH) (fun i=>[(8,pp bf 0),(58,.slice q m.length d),(59,vi m.length),(60,vi i.1)]) (fun i=>i.2) (fun _=>fdP bf (.slice pu A.length cu) mo mh ml::mp mh hi::mp ml lo::pt b2 (.cells #[.slice p l.length c] 29 (0,0))::s)
    (fun i=>i.1≤m.length∧Le g2 i.2∧∀ x∈m.take i.1,¬ WayM (sidA A) m x.1 x.1) (fun i=>m.length - i.1) (0,g2) sB rfl rfl ⟨Nat.zero_le _,Le.refl _,by simp⟩ ?_
   rintro ⟨j,g3⟩ ⟨hj,hle3,hno⟩;dsimp only at hj hle3 hno ⊢;refine SC.sR (lU (lS I I) (SL.nT (sQ ?_)));refine iP I (fun hjt=>?_) (fun hjt=>?_)
   ·have hjl:j<m.length:=oM;have hb1:=SlA.based hm2 oM;have hgj:m[((j:Nat):Int).toNat]?=some m[j]:=gE hjl;have htj:m.take (j+1)=m.take j++[m[j]]:=tS hjl;have hxm:m[j]∈m:=gM hjl;generalize m[j]=x at *;obtain ⟨x1,x2⟩:=x;have hxh:(highT m x1).isSome=true:=by rw[show highT m x1=some x2 from highT_of hNd hxm]; rfl
    refine kP (tN (sQ (bK (SC.sR (lU (iA uT31 zT44 I I hb1 oM sL) (lK (eA iT44 zT44 I (SlA.rd (SlA.mono hm2 hle3)) hgj) (SL.bx (aL zeroValue44) fun b12=>?_)))))));refine SL.O2 (sK 0 zT44 I I I I I sB) ?_;refine SL.nT (SC.sR (lM I (lU (iB uT44 zT3 I I dC dC) (lK (qL (v:=vi x1) iT3 I (cO 0 I I)) (lW (SO.call call57 I (aroundM_spec E g3 _ bf mo mh ml _ A out hi m x1 (hmo.mono hle3) (hS.mono hle3) hH hP hSd hxh 1 2 I I)) ?_)))));rintro _ g4 _ ⟨⟨b,rfl,hb⟩,rfl,hle4⟩;refine SL.nT ?_;refine iQ I (fun hbt=>?_) (fun hbt=>?_)
    ·have hr:ringR (adjS (sidA A)) m=true:=hring.2 ⟨(x1,x2),hxm,hb.1 hbt⟩;rw[if_pos hr];refine SC.sR (lA I (lA I (SL.nT (rE (bR (tR (tR (bR (tR (dR (s':=s) (.cons _ (.cons _ (.cons _ (.cons _ (.cons _ (.refl _)))))) ?_))))))))));exact ST.ret2 (.inl I) results53 I I ⟨hle1.trans (hle2.trans (hle3.trans hle4)),_,I,.inl ⟨by decide,I⟩⟩
    ·refine kP (bN (tN (rG (lU (aD I I oM) (lM I (nL (dR (.cons _ (.refl _)) ?_)))))));exact ST.again (j+1,g4) sB I I ⟨by dsimp only; omega,hle3.trans hle4,by
      dsimp only;rw[htj];intro y hy
      rcases List.mem_append.1 hy with hy | hy
      ·exact hno y hy
      ·simp at hy;subst hy;intro hw;have:=hb.2 hw;rw[hbt] at this;cases this⟩ (by dsimp only; omega)
   ·have hjj:m.take j=m:=tL oM;rw[hjj] at hno;have hr:¬ ringR (adjS (sidA A)) m=true:=fun h=>by
     obtain ⟨x,hx,hw⟩:=hring.1 h;exact hno x hx hw
    rw[if_neg hr];refine xI (tX (tX (bX (tN (SC.sR (lM I (lA I (lA I (SL.nT (rE (dR (s':=fdP bf (.slice pu A.length cu) mo mh ml::mp mh hi::mp ml lo::s) (.cons_cons _ (.cons_cons _ (.cons_cons _ (.cons _ (.refl _))))) ?_)))))))))));exact ST.ret2 (.inl I) results53 I I ⟨hle1.trans (hle2.trans hle3),_,I,.inr ⟨I,bf,_,mo,mh,ml,out,hi,lo,I,hu2.mono hle3,hmo.mono hle3,hS.mono hle3,hH,hL,I⟩⟩
theorem openM_code (E:World)(g:PH)(s:Own)(v mv:Value)(l:List Cl)(m:List Pr)(hv:Cells g v l)(hf:Fits l)(hm:SlA encPr g mv m)(hml:m.length<1099511627775) :
  Ctr Tryz.prog E 53 #[.agg #[v],mv] g s (fun r g' s'=>Le g g'∧s.Sublist s'∧∃ ptr,r = .tuple #[ptr,vi (mcheckR l m)]) :=
 (openM_spec E g s v mv l m hv hf hm hml).mono fun _ _ s' ⟨h1,ptr,h2,h3⟩=>⟨h1,by
  rcases h3 with ⟨_,rfl⟩ | ⟨_,_,_,_,_,_,_,_,_,_,_,_,_,_,_,rfl⟩
  ·exact .refl _
  ·exact .cons _ (.cons _ (.cons _ (.refl _))),ptr,h2⟩
theorem checkM_spec (E:World)(g:PH)(s:Own)(v mv:Value)(l:List Cl)(m:List Pr)(hv:Cells g v l)(hf:Fits l)(hm:SlA encPr g mv m)(hml:m.length<1099511627775) :
  Ctr Tryz.prog E 25 #[.agg #[v],mv] g s (fun r g' s'=>r=vi (mcheckR l m)∧s=s'∧Le g g'):=by
 refine Ctr.of (args:=[.agg #[v],mv]) func25 I ntmps25 (bE I) ?_;refine SC.sR (SL.bx (bO I) fun b2=>?_);refine lA I (SL.nT (SC.sR (lK (qV 0 iT29 zT29 I I I) (lM I (lW (SO.call call53 I (openM_code E g _ _ _ l m hv hf hm hml)) ?_)))));rintro _ g1 _ ⟨hle1,hsub,ptr,rfl⟩;refine SL.drop hsub (lM I (lU (xT I I) (lU (xT I I) (lA I (lA I (SL.nT (SC.sR (lM I (lA I (SL.nT (rE (dR (s':=s) (.cons _ (.refl _)) ?_))))))))))));exact ST.ret1 (.inl I) results25 I ⟨I,I,hle1⟩
end Go.Proofs.YteahknngoogpaaaGreatDoor
