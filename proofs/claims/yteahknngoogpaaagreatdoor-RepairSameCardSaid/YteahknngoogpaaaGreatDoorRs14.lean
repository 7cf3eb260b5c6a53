/-
  A right matching is kept as it is and cannot be extended, Match is what Extend adds to no pairs, and the order of the cells has no effect.
-/
import Derived.Test.YteahknngoogpaaaGreatDoorRs13
import Derived.Test.YteahknngoogpaaaGreatDoorRs11
import Derived.Test.YteahknngoogpaaaGreatDoorRs10
import Derived.Scope
import Derived.Test.YteahknngoogpaaaGreatDoorTie
import Derived.Test.YteahknngoogpaaaGreatDoorCards
import Derived.LaidMore
import Derived.Lay
import Derived.SevenTiedAt
import Derived.Stop.Joined
set_option linter.unusedSimpArgs false
set_option linter.unusedVariables false
namespace Go.Proofs.YteahknngoogpaaaGreatDoor
open _root_.Go.Proofs.Tryz _root_.Go.Proofs.YteahknngoogpaaaGreatDoor.Tryz
open Go Go.Sy Go.Pl Go.Proofs
set_option maxRecDepth 100000
set_option maxHeartbeats 2000000
theorem Tryz.mty70m:MTy Tryz.prog 70 3 3 (vi 0):=⟨underlying70,underlying3,zeroValue3⟩
theorem Tryz.mty102:MTy Tryz.prog 102 3 70 (.map none):=⟨underlying102,underlying3,zeroValue70⟩
def innC (ss:List Side):List (Int×Value):=ss.map fun s=>(s.cell,vi s.sign)
def SdM (g:PH)(out:List (Int×Value))(A:List Cl):Prop:=All2 (fun (c:Cl) (p:Int×Value)=>p.1=c.id∧∃ b,p.2 = .map (some b)∧Mp g b (innC c.sides)) A out
theorem SdM.mono {g g':PH}{out:List (Int×Value)}{A:List Cl}(h:SdM g out A)(hl:Le g g'):SdM g' out A:=All2.mono (fun _ _ ⟨h1,b,h2,h3⟩=>⟨h1,b,h2,h3.mono hl⟩) h
theorem SdM.look {g:PH}:∀ {A:List Cl} {out:List (Int×Value)},SdM g out A→∀ id,(findT A id=none∧mget out id=none)∨∃ c b,findT A id=some c∧mget out id=some (.map (some b))∧Mp g b (innC c.sides)
 | [],[],_,_=>.inl ⟨rfl,rfl⟩
 | c::A,(k,v)::out,h,id=>by
  obtain ⟨h1,b,h2,h3⟩:=h.1;dsimp only at h1 h2;subst h1;unfold findT;rw[List.find?_cons,mget_cons];by_cases e:id=c.id
  ·have:decide (c.id=id)=true:=decide_eq_true e.symm;rw[this,if_pos e];exact .inr ⟨c,b,I,by rw[h2],h3⟩
  ·have:decide (c.id=id)=false:=decide_eq_false fun e2=>e e2.symm;rw[this,if_neg e];exact SdM.look h.2 id
 | [],_::_,h,_=>h.elim
 | _::_,[],h,_=>h.elim
theorem mget_inn (k:Int):∀ ss:List Side,mget (innC ss) k=(ss.find? fun s=>decide (s.cell=k)).map fun s=>vi s.sign
 | []=>rfl
 | s::ss=>by
  unfold innC;rw[List.map_cons,mget_cons,List.find?_cons];by_cases e:k=s.cell
  ·rw[if_pos e,decide_eq_true e.symm];rfl
  ·rw[if_neg e,decide_eq_false (fun e2=>e e2.symm)];exact mget_inn k ss
theorem mput_new {l:List (Int×Value)}{k:Int}(v:Value)(h:∀ p∈l,p.1≠k):mput l k v=l++[(k,v)]:=mput_none k v l h
theorem inn_new {ss:List Side}{i:Nat}(h:(ss.map Side.cell).Nodup)(hi:i<ss.length):∀ p∈innC (ss.take i),p.1≠ss[i].cell:=by
 intro p hp;unfold innC at hp;obtain ⟨s,hs,rfl⟩:=List.mem_map.1 hp;obtain ⟨j,hj,rfl⟩:=List.getElem_of_mem hs;rw[List.length_take] at hj;rw[List.getElem_take];have h2:=List.pairwise_iff_getElem.1 (List.nodup_iff_pairwise_ne.1 h) j i (by rw[List.length_map]; omega) (by rw[List.length_map]; omega) oM;simp only[List.getElem_map] at h2;exact h2
theorem SdM.keys {g:PH}:∀ {A:List Cl} {out:List (Int×Value)},SdM g out A→out.map Prod.fst=A.map Cl.id
 | [],[],_=>rfl
 | c::A,p::out,h=>by rw[List.map_cons,List.map_cons,h.1.1,SdM.keys h.2]
 | [],_::_,h=>h.elim
 | _::_,[],h=>h.elim
theorem signs_spec (E:World)(g:PH)(s:Own)(v:Value)(A:List Cl)(hv:Cells g v A)(hf:Fits A)(hn:(A.map Cl.id).Nodup)(hs:∀ c∈A,(c.sides.map Side.cell).Nodup) :
  Ctr Tryz.prog E 129 #[.agg #[v]] g s (fun r g' s'=>s=s'∧Le g g'∧∃ bo out,r = .map (some bo)∧Mp g' bo out∧SdM g' out A):=by
 obtain ⟨rs,hrs,hall⟩:=hv;have hrl:=hall.length;obtain ⟨p,c,rfl⟩:=SlA.form hrs;have hAl:=hf.1;refine Ctr.of (args:=[.agg #[.slice p rs.length c]]) func129 I ntmps129 (bE I) ?_;refine SC.sR (SL.bx (bO I) fun b1=>?_);refine lA I (SL.nT (SC.sR (lW (SO.mkMap) ?_)));rintro _ _ _ ⟨b8,rfl,rfl,rfl⟩;refine lA I (SL.nT (sQ (SC.sR (lU (fA uT29 I zT27 I) (lK (qL iT27 I (cO 1 I I)) (lU (eN uT27 I) (lM I (SL.nT (bK ?_)))))))));refine oP (ι:=Nat×PH×List (Int×Value)) (fun i=>[(3,.map (some b8)),(10,.slice p rs.length c),(11,vi rs.length),(12,vi i.1)]) (fun i=>i.2.1) (fun i=>mp b8 i.2.2::pt b1 (.cells #[.slice p rs.length c] 29 (0,0))::s)
  (fun i=>i.1≤rs.length∧Le g i.2.1∧SdM i.2.1 i.2.2 (A.take i.1)) (fun i=>rs.length - i.1) (0,g,[]) sB rfl rfl ⟨Nat.zero_le _,Le.refl _,by simp[SdM,All2]⟩ ?_
 rintro ⟨k,g1,out⟩ ⟨hk,hle1,hS⟩;dsimp only at hk hle1 hS ⊢;refine SC.sR (lU (lS I I) (SL.nT (sQ ?_)));refine iP I (fun hlt=>?_) (fun hlt=>?_)
 ·have hkr:k<rs.length:=oM;have hkl:k<A.length:=oM;have hb1:=SlA.based hrs oM;have hcr:=CellR.mono hle1 (hall.get (gE hkl) (gE hkr));have hgx:rs[((k:Nat):Int).toNat]?=some rs[k]:=gE hkr;have htk:A.take (k+1)=A.take k++[A[k]]:=tS hkl;have hxl:=hf.2 _ (gM hkl);have hxs:=hs _ (gM hkl);have hnew:∀ q∈out,q.1≠A[k].id:=fun q hq=>by
   have h1:q.1∈out.map Prod.fst:=List.mem_map.2 ⟨q,hq,rfl⟩;rw[hS.keys] at h1;obtain ⟨x,hx,he⟩:=List.mem_map.1 h1;obtain ⟨j,hj,rfl⟩:=List.getElem_of_mem hx;rw[List.length_take] at hj;rw[List.getElem_take] at he;rw[← he];have h2:=List.pairwise_iff_getElem.1 (List.nodup_iff_pairwise_ne.1 hn) j k (by rw[List.length_map]; omega) (by rw[List.length_map]; omega) oM;simp only[List.getElem_map] at h2;exact h2
  generalize rs[k]=x at *;generalize A[k]=cx at *;obtain ⟨xi,xd,xp,xn,xc⟩:=x;obtain ⟨e1,e2,hsl⟩:=hcr;dsimp only at e1 e2 hsl;have hxn:xn=cx.sides.length:=Sl.slen hsl;subst hxn e1 e2;refine kP (tN (sQ (bK (SC.sR (lU (iA uT27 zT54 I I hb1 oM (show (k:Int)<((rs.length:Nat):Int) by omega)) ?_)))));refine lK (eA iT54 zT54 I (SlA.rd (SlA.mono hrs hle1)) hgx) (SL.bx (aL zeroValue54) fun b5=>?_);refine SL.O2 (sK 0 zT54 I I I I I sB) ?_;refine SL.nT (SC.sR (lM I (lU (fA uT54 I zT3 I) (lK (qL (v:=vi cx.id) iT3 I (cO 0 I I)) (lW (SO.mkMap) ?_)))));rintro _ _ _ ⟨b19,rfl,rfl,rfl⟩;refine lO (SO.mapUpdate 2 mty102 I I I I) ?_;rintro _ _ _ ⟨rfl,rfl⟩;rw[mput_new _ hnew];refine SL.nT (SC.sR (lU (fA uT54 I zT37 I) (lK (qL (v:=.slice xp cx.sides.length xc) iT37 I (cO 1 I I)) (lU (eN uT37 I) (lM I (SL.nT (bK ?_)))))));refine SC.to (g':=g1) (s':=mp b19 []::pt b5 (.cells #[vi cx.id,vi cx.dim,.slice xp cx.sides.length xc] 54 (0,0))::mp b8 (out++[(cx.id,Value.map (some b19))])::pt b1 (.cells #[.slice p rs.length c] 29 (0,0))::s) (fun w hw=>hw) ?_;refine oP (ι:=Nat) (fun j=>[(3,.map (some b8)),(5,pp b5 0),(10,.slice p rs.length c),(11,vi rs.length),(12,vi k),(21,.slice xp cx.sides.length xc),(22,vi cx.sides.length),(23,vi j)]) (fun _=>g1)
   (fun j=>mp b19 (innC (cx.sides.take j))::pt b5 (.cells #[vi cx.id,vi cx.dim,.slice xp cx.sides.length xc] 54 (0,0))::mp b8 (out++[(cx.id,Value.map (some b19))])::pt b1 (.cells #[.slice p rs.length c] 29 (0,0))::s)
   (fun j=>j≤cx.sides.length) (fun j=>cx.sides.length - j) 0 sB rfl rfl (Nat.zero_le _) ?_
  rintro j hj;try dsimp only at hj ⊢
  refine SC.sR (lU (lS I I) (SL.nT (sQ ?_)));refine iP I (fun hjl=>?_) (fun hjl=>?_)
  ·have hjs:j<cx.sides.length:=oM;have hb2:=SlA.based hsl oM;have hgj:cx.sides[((j:Nat):Int).toNat]?=some cx.sides[j]:=gE hjs;have hin:=inn_new hxs hjs;have htj:innC (cx.sides.take (j+1))=innC (cx.sides.take j)++[(cx.sides[j].cell,vi cx.sides[j].sign)]:=by unfold innC; rw[tS hjs,List.map_append]; rfl
   generalize cx.sides[j]=y at *;obtain ⟨yc,ys⟩:=y;dsimp only at hin htj;refine kP (tN (sQ (bK (SC.sR (lU (iA uT37 zT56 I I hb2 oM sL) (lK (eA iT56 zT56 I (SlA.rd hsl) hgj) (SL.bx (aL zeroValue56) fun b7=>?_)))))));refine SL.O2 (sK 0 zT56 I I I I I sB) ?_;refine SL.nT (rG (lM rfl (lU (fA uT54 rfl zT3 rfl) (lK (qL (v:=vi cx.id) iT3 rfl (cO 2 rfl rfl)) (lK (SQ.eq (v':=.map (some b19)) (SQ.lookup mty102 rfl rfl (MapAt.own 3 rfl)) (by rw[← mput_new _ hnew,mget_mput,if_pos rfl]; rfl)) ?_)))));refine lU (fA uT56 I zT3 I) (lK (qL (v:=vi yc) iT3 I (cO 0 I I)) (lU (fA uT56 I zT3 I) (lK (qL (v:=vi ys) iT3 I (cO 0 I I)) (lO (SO.mapUpdate 1 mty70m I I I I) ?_))));rintro _ _ _ ⟨rfl,rfl⟩;rw[mput_new _ hin];refine nL (bN (tN (rG (lU (aD I I oM) (lM I (nL (dR (.cons _ (.refl _)) ?_)))))));exact ST.again (j+1) sB rfl (by dsimp only; rw[htj]; rfl) oM oM
  ·have hjj:cx.sides.take j=cx.sides:=tL oM;rw[hjj];refine xI (tX (tX (bX (bN (tN (rG (lU (aD I I oM) (lM I (nL (ST.freezeMap fun g2 hle2 hm2=>?_))))))))));refine dR (.cons _ (.refl _)) ?_;exact ST.again (k+1,g2,out++[(cx.id,Value.map (some b19))]) sB I I ⟨by dsimp only; omega,hle1.trans hle2,by dsimp only; rw[htk]; exact All2.append (hS.mono hle2) ⟨⟨I,b19,I,hm2⟩,trivial⟩⟩ (by dsimp only; omega)
 ·have hkk:A.take k=A:=tL oM;rw[hkk] at hS;refine xI (tX (tX (bX (tN (SC.sR (lM I (lA I (SL.nT (rE (ST.freezeMap fun g2 hle2 hm2=>?_))))))))));refine dR (s':=s) (.cons _ (.refl _)) ?_;exact ST.ret1 (.inl I) results129 I ⟨I,hle1.trans hle2,b8,out,I,hm2,hS.mono hle2⟩
abbrev fdP (bf:Nat)(u:Value)(mo mh ml:Nat):Ent:=pt bf (.cells #[u,.map (some mo),.map (some mh),.map (some ml)] 104 (0,0))
theorem Tryz.build104 (u:Value)(x y z:Option Nat)(w:World):(Instr.build 104 #[(0,.agg #[u]),(1,.map x),(2,.map y),(3,.map z)]).run Tryz.prog w = .ok (.agg #[u,.map x,.map y,.map z]) w:=by
 have h2:∀ x,(Value.map x).cells = #[.map x]:=fun _=>rfl;have h3:(Value.agg #[u]).cells = #[u]:=rfl;simp[Instr.build,Instr.fill,h2,h3];rfl
theorem newField_spec (E:World)(g:PH)(s:Own)(v:Value)(A:List Cl)(hv:Cells g v A)(hf:Fits A)(hn:(A.map Cl.id).Nodup)(hs:∀ c∈A,(c.sides.map Side.cell).Nodup) :
  Ctr Tryz.prog E 87 #[.agg #[v]] g s (fun r g' s'=>Le g g'∧∃ bf mo mh ml out,r=pp bf 0∧Mp g' mo out∧SdM g' out A∧s'=fdP bf v mo mh ml::mp mh []::mp ml []::s):=by
 obtain ⟨p,c,rfl⟩:=hv.form;refine Ctr.of (args:=[.agg #[.slice p A.length c]]) func87 I ntmps87 (bE I) ?_;refine SC.sR (SL.bx (bO I) fun b1=>?_);refine lA I (SL.nT ?_);refine SC.cut (ι:=Nat×Nat×Nat×Nat×List (Int×Value)×PH) (fun i=>[(2,pp i.1 0)]) (fun i=>i.2.2.2.2.2) (fun i=>fdP i.1 (.slice p A.length c) i.2.1 i.2.2.1 i.2.2.2.1::mp i.2.2.1 []::mp i.2.2.2.1 []::pt b1 (.cells #[.slice p A.length c] 29 (0,0))::s)
  (fun i=>Le g i.2.2.2.2.2∧Mp i.2.2.2.2.2 i.2.1 i.2.2.2.2.1∧SdM i.2.2.2.2.2 i.2.2.2.2.1 A) ?_ ?_
 ·refine SC.drawX [] Tryz.mixed (by kernel_rfl) ?_;refine SX.q (i:=0) I (by kernel_rfl) (qV 0 iT29 zT29 I I I) dC (SX.q (i:=1) I (by kernel_rfl) (qV 0 iT29 zT29 I I I) dC ?_);refine SX.br3 2 3 4 (by kernel_rfl) ?_ ?_ ?_
  ·refine SB.o (i:=2) rfl (SO.call call129 rfl (signs_spec E g _ _ A hv hf hn hs)) dC (.inr (by rintro _ g1 _ ⟨rfl,hle1,mo,out,rfl,hmo,hS⟩; exact⟨by assumption,(by exact .refl _)⟩)) ?_;rintro _ g1 _ ⟨rfl,hle1,mo,out,rfl,hmo,hS⟩;refine SX.br2 3 4 (by kernel_rfl) ?_ ?_
   ·refine SB.o (i:=3) rfl (SO.mkMap) dC (.inr (by rintro _ _ _ ⟨b6,rfl,rfl,rfl⟩; exact⟨by assumption,(by exact .cons _ (.refl _))⟩)) ?_;rintro _ _ _ ⟨b6,rfl,rfl,rfl⟩;refine SX.br1 4 (by kernel_rfl) ?_
    ·refine SB.o (i:=4) rfl (SO.mkMap) dC (.inr (by rintro _ _ _ ⟨b7,rfl,rfl,rfl⟩; exact⟨by assumption,(by exact .cons _ (.cons _ (.refl _)))⟩)) ?_;rintro _ _ _ ⟨b7,rfl,rfl,rfl⟩;refine SX.u (i:=5) I (by kernel_rfl) (SU.build I (build104 _ _ _ _)) dC ?_;refine SX.br1 6 (by kernel_rfl) ?_
     ·refine SB.o (i:=6) rfl (bO rfl) dC (.inr (by rintro _ _ _ ⟨b9,rfl,rfl,rfl⟩; exact⟨by assumption,(by exact .cons _ (.cons _ (.cons _ (.refl _))))⟩)) ?_;rintro _ _ _ ⟨b9,rfl,rfl,rfl⟩;refine SX.u (i:=7) I (by kernel_rfl) (aS I) dC (SX.nil (by kernel_rfl) ?_)
      first | exact ST.mid (b9,mo,b6,b7,out,g1) ⟨rfl,trivial⟩ rfl rfl ⟨hle1,hmo,hS⟩ | (refine ST.perm (List.Perm.cons _ (List.Perm.swap _ _ _)) ?_; exact ST.mid (b9,mo,b6,b7,out,g1) ⟨rfl,trivial⟩ rfl rfl ⟨hle1,hmo,hS⟩)
   ·refine SB.o (i:=4) rfl (SO.mkMap) dC (.inr (by rintro _ _ _ ⟨b7,rfl,rfl,rfl⟩; exact⟨by assumption,(by exact .cons _ (.refl _))⟩)) ?_;rintro _ _ _ ⟨b7,rfl,rfl,rfl⟩;refine SX.br1 3 (by kernel_rfl) ?_
    ·refine SB.o (i:=3) rfl (SO.mkMap) dC (.inr (by rintro _ _ _ ⟨b6,rfl,rfl,rfl⟩; exact⟨by assumption,(by exact .cons _ (.cons _ (.refl _)))⟩)) ?_;rintro _ _ _ ⟨b6,rfl,rfl,rfl⟩;refine SX.u (i:=5) I (by kernel_rfl) (SU.build I (build104 _ _ _ _)) dC ?_;refine SX.br1 6 (by kernel_rfl) ?_
     ·refine SB.o (i:=6) rfl (bO rfl) dC (.inr (by rintro _ _ _ ⟨b9,rfl,rfl,rfl⟩; exact⟨by assumption,(by exact .cons _ (.cons _ (.cons _ (.refl _))))⟩)) ?_;rintro _ _ _ ⟨b9,rfl,rfl,rfl⟩;refine SX.u (i:=7) I (by kernel_rfl) (aS I) dC (SX.nil (by kernel_rfl) ?_)
      first | exact ST.mid (b9,mo,b6,b7,out,g1) ⟨rfl,trivial⟩ rfl rfl ⟨hle1,hmo,hS⟩ | (refine ST.perm (List.Perm.cons _ (List.Perm.swap _ _ _)) ?_; exact ST.mid (b9,mo,b6,b7,out,g1) ⟨rfl,trivial⟩ rfl rfl ⟨hle1,hmo,hS⟩)
  ·refine SB.o (i:=3) rfl (SO.mkMap) dC (.inr (by rintro _ _ _ ⟨b6,rfl,rfl,rfl⟩; exact⟨by exact Le.refl _,(by exact .cons _ (.refl _))⟩)) ?_;rintro _ _ _ ⟨b6,rfl,rfl,rfl⟩;refine SX.br2 2 4 (by kernel_rfl) ?_ ?_
   ·refine SB.o (i:=2) rfl (SO.call call129 rfl (signs_spec E g _ _ A hv hf hn hs)) dC (.inr (by rintro _ g1 _ ⟨rfl,hle1,mo,out,rfl,hmo,hS⟩; exact⟨by assumption,(by exact .cons _ (.refl _))⟩)) ?_;rintro _ g1 _ ⟨rfl,hle1,mo,out,rfl,hmo,hS⟩;refine SX.br1 4 (by kernel_rfl) ?_
    ·refine SB.o (i:=4) rfl (SO.mkMap) dC (.inr (by rintro _ _ _ ⟨b7,rfl,rfl,rfl⟩; exact⟨by assumption,(by exact .cons _ (.cons _ (.refl _)))⟩)) ?_;rintro _ _ _ ⟨b7,rfl,rfl,rfl⟩;refine SX.u (i:=5) I (by kernel_rfl) (SU.build I (build104 _ _ _ _)) dC ?_;refine SX.br1 6 (by kernel_rfl) ?_
     ·refine SB.o (i:=6) rfl (bO rfl) dC (.inr (by rintro _ _ _ ⟨b9,rfl,rfl,rfl⟩; exact⟨by assumption,(by exact .cons _ (.cons _ (.cons _ (.refl _))))⟩)) ?_;rintro _ _ _ ⟨b9,rfl,rfl,rfl⟩;refine SX.u (i:=7) I (by kernel_rfl) (aS I) dC (SX.nil (by kernel_rfl) ?_)
      first | exact ST.mid (b9,mo,b6,b7,out,g1) ⟨rfl,trivial⟩ rfl rfl ⟨hle1,hmo,hS⟩ | (refine ST.perm (List.Perm.cons _ (List.Perm.swap _ _ _)) ?_; exact ST.mid (b9,mo,b6,b7,out,g1) ⟨rfl,trivial⟩ rfl rfl ⟨hle1,hmo,hS⟩)
   ·refine SB.o (i:=4) rfl (SO.mkMap) dC (.inr (by rintro _ _ _ ⟨b7,rfl,rfl,rfl⟩; exact⟨by exact Le.refl _,(by exact .cons _ (.cons _ (.refl _)))⟩)) ?_;rintro _ _ _ ⟨b7,rfl,rfl,rfl⟩;refine SX.br1 2 (by kernel_rfl) ?_
    ·refine SB.o (i:=2) rfl (SO.call call129 rfl (signs_spec E g _ _ A hv hf hn hs)) dC (.inr (by rintro _ g1 _ ⟨rfl,hle1,mo,out,rfl,hmo,hS⟩; exact⟨by assumption,(by exact .cons _ (.cons _ (.refl _)))⟩)) ?_;rintro _ g1 _ ⟨rfl,hle1,mo,out,rfl,hmo,hS⟩;refine SX.u (i:=5) I (by kernel_rfl) (SU.build I (build104 _ _ _ _)) dC ?_;refine SX.br1 6 (by kernel_rfl) ?_
     ·refine SB.o (i:=6) rfl (bO rfl) dC (.inr (by rintro _ _ _ ⟨b9,rfl,rfl,rfl⟩; exact⟨by assumption,(by exact .cons _ (.cons _ (.cons _ (.refl _))))⟩)) ?_;rintro _ _ _ ⟨b9,rfl,rfl,rfl⟩;refine SX.u (i:=7) I (by kernel_rfl) (aS I) dC (SX.nil (by kernel_rfl) ?_)
      first | exact ST.mid (b9,mo,b6,b7,out,g1) ⟨rfl,trivial⟩ rfl rfl ⟨hle1,hmo,hS⟩ | (refine ST.perm (List.Perm.cons _ (List.Perm.swap _ _ _)) ?_; exact ST.mid (b9,mo,b6,b7,out,g1) ⟨rfl,trivial⟩ rfl rfl ⟨hle1,hmo,hS⟩)
  ·refine SB.o (i:=4) rfl (SO.mkMap) dC (.inr (by rintro _ _ _ ⟨b7,rfl,rfl,rfl⟩; exact⟨by exact Le.refl _,(by exact .cons _ (.refl _))⟩)) ?_;rintro _ _ _ ⟨b7,rfl,rfl,rfl⟩;refine SX.br2 2 3 (by kernel_rfl) ?_ ?_
   ·refine SB.o (i:=2) rfl (SO.call call129 rfl (signs_spec E g _ _ A hv hf hn hs)) dC (.inr (by rintro _ g1 _ ⟨rfl,hle1,mo,out,rfl,hmo,hS⟩; exact⟨by assumption,(by exact .cons _ (.refl _))⟩)) ?_;rintro _ g1 _ ⟨rfl,hle1,mo,out,rfl,hmo,hS⟩;refine SX.br1 3 (by kernel_rfl) ?_
    ·refine SB.o (i:=3) rfl (SO.mkMap) dC (.inr (by rintro _ _ _ ⟨b6,rfl,rfl,rfl⟩; exact⟨by assumption,(by exact .cons _ (.cons _ (.refl _)))⟩)) ?_;rintro _ _ _ ⟨b6,rfl,rfl,rfl⟩;refine SX.u (i:=5) I (by kernel_rfl) (SU.build I (build104 _ _ _ _)) dC ?_;refine SX.br1 6 (by kernel_rfl) ?_
     ·refine SB.o (i:=6) rfl (bO rfl) dC (.inr (by rintro _ _ _ ⟨b9,rfl,rfl,rfl⟩; exact⟨by assumption,(by exact .cons _ (.cons _ (.cons _ (.refl _))))⟩)) ?_;rintro _ _ _ ⟨b9,rfl,rfl,rfl⟩;refine SX.u (i:=7) I (by kernel_rfl) (aS I) dC (SX.nil (by kernel_rfl) ?_)
      first | exact ST.mid (b9,mo,b6,b7,out,g1) ⟨rfl,trivial⟩ rfl rfl ⟨hle1,hmo,hS⟩ | (refine ST.perm (List.Perm.cons _ (List.Perm.swap _ _ _)) ?_; exact ST.mid (b9,mo,b6,b7,out,g1) ⟨rfl,trivial⟩ rfl rfl ⟨hle1,hmo,hS⟩)
   ·refine SB.o (i:=3) rfl (SO.mkMap) dC (.inr (by rintro _ _ _ ⟨b6,rfl,rfl,rfl⟩; exact⟨by exact Le.refl _,(by exact .cons _ (.cons _ (.refl _)))⟩)) ?_;rintro _ _ _ ⟨b6,rfl,rfl,rfl⟩;refine SX.br1 2 (by kernel_rfl) ?_
    ·refine SB.o (i:=2) rfl (SO.call call129 rfl (signs_spec E g _ _ A hv hf hn hs)) dC (.inr (by rintro _ g1 _ ⟨rfl,hle1,mo,out,rfl,hmo,hS⟩; exact⟨by assumption,(by exact .cons _ (.cons _ (.refl _)))⟩)) ?_;rintro _ g1 _ ⟨rfl,hle1,mo,out,rfl,hmo,hS⟩;refine SX.u (i:=5) I (by kernel_rfl) (SU.build I (build104 _ _ _ _)) dC ?_;refine SX.br1 6 (by kernel_rfl) ?_
     ·refine SB.o (i:=6) rfl (bO rfl) dC (.inr (by rintro _ _ _ ⟨b9,rfl,rfl,rfl⟩; exact⟨by assumption,(by exact .cons _ (.cons _ (.cons _ (.refl _))))⟩)) ?_;rintro _ _ _ ⟨b9,rfl,rfl,rfl⟩;refine SX.u (i:=7) I (by kernel_rfl) (aS I) dC (SX.nil (by kernel_rfl) ?_)
      first | exact ST.mid (b9,mo,b6,b7,out,g1) ⟨rfl,trivial⟩ rfl rfl ⟨hle1,hmo,hS⟩ | (refine ST.perm (List.Perm.cons _ (List.Perm.swap _ _ _)) ?_; exact ST.mid (b9,mo,b6,b7,out,g1) ⟨rfl,trivial⟩ rfl rfl ⟨hle1,hmo,hS⟩)
 rintro ⟨bf,mo,mh,ml,out,g1⟩ ⟨hle1,hmo,hS⟩;dsimp only at hle1 hmo hS ⊢;refine rE (dR (.cons_cons _ (.cons_cons _ (.cons_cons _ (.cons _ (.refl _))))) ?_);exact ST.ret1 (.inl I) results87 I ⟨hle1,bf,mo,mh,ml,out,I,hmo,hS,I⟩
def lowT (T:List Pr)(high:Int):Option Int:=(T.find? fun q=>decide (q.2=high)).map Prod.fst
def LoM (m:List (Int×Value))(T:List Pr):Prop:=∀ k,mget m k=(lowT T k).map vi
def PosT (T:List Pr):Prop:=∀ q∈T,q.1≠0∧q.2≠0
theorem high_any (T:List Pr)(id:Int):(T.any fun q=>decide (q.1=id))=(highT T id).isSome:=by
 unfold highT;rw[Option.isSome_map,Bool.eq_iff_iff,List.any_eq_true,List.find?_isSome]
theorem low_any (T:List Pr)(id:Int):(T.any fun q=>decide (q.2=id))=(lowT T id).isSome:=by
 unfold lowT;rw[Option.isSome_map,Bool.eq_iff_iff,List.any_eq_true,List.find?_isSome]
theorem lowT_mem {T:List Pr}{high lo:Int}(h:lowT T high=some lo):(lo,high)∈T:=by
 unfold lowT at h;rw[Option.map_eq_some_iff] at h;obtain ⟨q,hq,rfl⟩:=h;have h1:=List.find?_some hq;have h2:=List.mem_of_find?_eq_some hq;simp only[decide_eq_true_eq] at h1;rw[← h1];exact h2
theorem high_zero {T:List Pr}(hp:PosT T)(id:Int):decide ((highT T id).getD 0≠0)=(highT T id).isSome:=by
 cases h:highT T id with
 | none=>rfl
 | some x =>
  have:=(hp _ (highT_mem h)).2;simpa using this
theorem low_zero {T:List Pr}(hp:PosT T)(id:Int):decide ((lowT T id).getD 0≠0)=(lowT T id).isSome:=by
 cases h:lowT T id with
 | none=>rfl
 | some x =>
  have:=(hp _ (lowT_mem h)).1;simpa using this
theorem mapD (o:Option Int):(o.map vi).getD (vi 0)=vi (o.getD 0):=by cases o <;> rfl
theorem pairedM_spec (E:World)(g:PH)(s:Own)(bf mo mh ml:Nat)(u:Value)(hm lm:List (Int×Value))(T:List Pr)(id:Int)(i j k:Nat)(hi:s[i]?=some (fdP bf u mo mh ml))(hj:s[j]?=some (mp mh hm))(hk:s[k]?=some (mp ml lm))(hH:HiM hm T)(hL:LoM lm T)(hp:PosT T) :
  Ctr Tryz.prog E 92 #[pp bf 0,vi id] g s (fun r g' s'=>r=vb (usedR T id)∧g=g'∧s=s'):=by
 have hu:usedR T id=((highT T id).isSome||(lowT T id).isSome):=by unfold usedR; rw[high_any,low_any]
 rw[hu];have hz1:=high_zero hp id;have hz2:=low_zero hp id;refine Ctr.of (args:=[pp bf 0,vi id]) func92 I ntmps92 (bE I) ?_;cases hc:(highT T id).isSome with
 | true =>
  rw[hc] at hz1;refine SC.sR (lA I (SL.nT (SC.sR (lM I (lU (nC I) (lU (fA uT104 I zT70 I) (lK (qL (v:=.map (some mh)) isAgg70 I (cO i hi I)) (lM I (lK (SQ.eq (v':=vi ((highT T id).getD 0)) (SQ.lookup mty70m I I (MapAt.own j hj)) (by rw[hH,mapD])) ?_)))))))));refine lU (SU.eq (v':=vb true) (nQ I I) (congrArg vb hz1)) (lM I (lZ I I I (lZ I I I (lZ I I I (lZ I I I (lZ I I I (lZ I I I (lZ I I I (lU (pT I I) (lA I (SL.nT (rE ?_))))))))))));exact ST.ret1 (.inl I) results92 I ⟨I,I,I⟩
 | false =>
  rw[hc] at hz1;refine SC.sR (lA I (SL.nT (SC.sR (lM I (lU (nC I) (lU (fA uT104 I zT70 I) (lK (qL (v:=.map (some mh)) isAgg70 I (cO i hi I)) (lM I (lK (SQ.eq (v':=vi ((highT T id).getD 0)) (SQ.lookup mty70m I I (MapAt.own j hj)) (by rw[hH,mapD])) ?_)))))))));refine lU (SU.eq (v':=vb false) (nQ I I) (congrArg vb hz1)) (lM I (lY I I I (mV I) (lY I I I (nC I) (lY I I I (fA uT104 I zT70 I) (SL.gq (gT I I I dC) (qL (v:=.map (some ml)) isAgg70 I (cO i hi I)) dC (lY I I I (mV I) (SL.gq (gT I I I dC) (SQ.eq (v':=vi ((lowT T id).getD 0)) (SQ.lookup mty70m I I (MapAt.own k hk)) (by rw[hL,mapD])) dC ?_)))))));refine lY I I I (SU.eq (v':=vb (lowT T id).isSome) (nQ I I) (congrArg vb hz2)) (lU (pF I I) (lA I (SL.nT (rE ?_))));exact ST.ret1 (.inl I) results92 I ⟨I,I,I⟩
theorem fitsM_spec (E:World)(g:PH)(s:Own)(bf mo mh ml:Nat)(u:Value)(A:List Cl)(out hm lm:List (Int×Value))(T:List Pr)(low high:Int)(i j k:Nat)(hi:s[i]?=some (fdP bf u mo mh ml))(hj:s[j]?=some (mp mh hm))(hk:s[k]?=some (mp ml lm))(hmo:Mp g mo out)(hS:SdM g out A)(hH:HiM hm T)(hL:LoM lm T)(hp:PosT T) :
  Ctr Tryz.prog E 56 #[pp bf 0,vi low,vi high] g s (fun r g' s'=>r=vb (!(usedR T low||usedR T high||decide ((((findT A high).getD zeroC).sides.find? fun s=>decide (s.cell=low)).elim 0 Side.sign=0)))∧g=g'∧s=s'):=by
 refine Ctr.of (args:=[pp bf 0,vi low,vi high]) func56 I ntmps56 (bE I) ?_;have hgl:∃ mv:Value,(mget out high).getD (.map none)=mv∧((mv = .map none∧findT A high=none)∨∃ c b,mv = .map (some b)∧findT A high=some c∧Mp g b (innC c.sides)):=by
  rcases hS.look high with ⟨h1,h2⟩ | ⟨c,b,h1,h2,h3⟩
  ·exact⟨_,by rw[h2]; rfl,.inl ⟨rfl,h1⟩⟩
  ·exact⟨_,by rw[h2]; rfl,.inr ⟨c,b,rfl,h1,h3⟩⟩
 obtain ⟨mv,hmv,hcase⟩:=hgl;have hval:∀ sg:Int,(match (((findT A high).getD zeroC).sides.find? fun s=>decide (s.cell=low)) with | some s=>s.sign | none=>0)=sg→(((findT A high).getD zeroC).sides.find? fun s=>decide (s.cell=low)).elim 0 Side.sign=sg:=fun sg h=>by
  rw[← h];cases ((findT A high).getD zeroC).sides.find? fun s=>decide (s.cell=low)<;>rfl
 generalize hsg:(((findT A high).getD zeroC).sides.find? fun s=>decide (s.cell=low)).elim 0 Side.sign=sg at *
 rcases hcase with ⟨rfl,hf⟩ | ⟨c,b,rfl,hf,hb⟩
 ·have h0:sg=0:=by rw[← hsg,hf]; rfl
  refine SC.sR (lA I (SL.nT (SC.sR (lM I (lU (nC I) (lU (fA uT104 I sizeOf102 I) (lK (qL (v:=.map (some mo)) isAgg102 I (cO i hi I)) (lM I (lK (SQ.eq (v':=.map none) (SQ.lookup mty102 I I (MapAt.known hmo)) hmv) (lM I (lK (SQ.lookupNil mty70m I I) (lU (nQ I I) (lM I (lZ I I I (lZ I I I (lZ I I I (lZ I I I (lU (pF I I) (lM I (lZ I I I (lZ I I I (lZ I I I (lZ I I I (lU (pF I I) (lA I (nL ?_))))))))))))))))))))))))));refine tN (rE ?_);exact ST.ret1 (.inl I) results56 I ⟨by rw[h0]; simp,I,I⟩
 ·have h0:(mget (innC c.sides) low).getD (vi 0)=vi sg:=by
   rw[mget_inn,← hsg,hf];show ((c.sides.find? fun s=>decide (s.cell=low)).map fun s=>vi s.sign).getD (vi 0)=vi ((c.sides.find? fun s=>decide (s.cell=low)).elim 0 Side.sign);cases c.sides.find? fun s=>decide (s.cell=low)<;>rfl
  by_cases hz:sg=0
  ·refine SC.sR (lA I (SL.nT (SC.sR (lM I (lU (nC I) (lU (fA uT104 I sizeOf102 I) (lK (qL (v:=.map (some mo)) isAgg102 I (cO i hi I)) (lM I (lK (SQ.eq (v':=.map (some b)) (SQ.lookup mty102 I I (MapAt.known hmo)) hmv) (lM I (lK (SQ.eq (v':=vi sg) (SQ.lookup mty70m I I (MapAt.known hb)) h0) (lU (SU.eq (v':=vb false) (nQ I I) (congrArg vb (decide_eq_false (fun h=>h hz)))) ?_))))))))))));refine lM I (lZ I I I (lZ I I I (lZ I I I (lZ I I I (lU (pF I I) (lM I (lZ I I I (lZ I I I (lZ I I I (lZ I I I (lU (pF I I) (lA I (SL.nT (rE ?_))))))))))))));exact ST.ret1 (.inl I) results56 I ⟨by rw[hz]; simp,I,I⟩
  ·cases hu:usedR T low with
   | true =>
    refine SC.sR (lA I (SL.nT (SC.sR (lM I (lU (nC I) (lU (fA uT104 I sizeOf102 I) (lK (qL (v:=.map (some mo)) isAgg102 I (cO i hi I)) (lM I (lK (SQ.eq (v':=.map (some b)) (SQ.lookup mty102 I I (MapAt.known hmo)) hmv) (lM I (lK (SQ.eq (v':=vi sg) (SQ.lookup mty70m I I (MapAt.known hb)) h0) (lU (SU.eq (v':=vb true) (nQ I I) (congrArg vb (decide_eq_true hz))) (lM I (lY I I I (mV I) (lY I I I (mV I) (SL.go (gT I I I dC) (SO.call call92 I (pairedM_spec E g _ bf mo mh ml u hm lm T low i j k hi hj hk hH hL hp)) dC ?_))))))))))))))));rintro _ _ _ ⟨rfl,rfl,rfl⟩;refine lY rfl rfl rfl (SU.eq (v':=vb false) (SU.not rfl) (congrArg vb (by rw[hu]; rfl))) ?_;refine lU (pT I I) (lM I (lZ I I I (lZ I I I (lZ I I I (lZ I I I (lU (pF I I) (lA I (SL.nT (rE ?_)))))))));exact ST.ret1 (.inl I) results56 I ⟨by simp,I,I⟩
   | false =>
    refine SC.sR (lA I (SL.nT (SC.sR (lM I (lU (nC I) (lU (fA uT104 I sizeOf102 I) (lK (qL (v:=.map (some mo)) isAgg102 I (cO i hi I)) (lM I (lK (SQ.eq (v':=.map (some b)) (SQ.lookup mty102 I I (MapAt.known hmo)) hmv) (lM I (lK (SQ.eq (v':=vi sg) (SQ.lookup mty70m I I (MapAt.known hb)) h0) (lU (SU.eq (v':=vb true) (nQ I I) (congrArg vb (decide_eq_true hz))) (lM I (lY I I I (mV I) (lY I I I (mV I) (SL.go (gT I I I dC) (SO.call call92 I (pairedM_spec E g _ bf mo mh ml u hm lm T low i j k hi hj hk hH hL hp)) dC ?_))))))))))))))));rintro _ _ _ ⟨rfl,rfl,rfl⟩;refine lY rfl rfl rfl (SU.eq (v':=vb true) (SU.not rfl) (congrArg vb (by rw[hu]; rfl))) ?_;refine lU (pT I I) (lM I (lY I I I (mV I) (lY I I I (mV I) (SL.go (gT I I I dC) (SO.call call92 I (pairedM_spec E g _ bf mo mh ml u hm lm T high i j k hi hj hk hH hL hp)) dC ?_))));rintro _ _ _ ⟨rfl,rfl,rfl⟩;refine lY I I I (SU.not I) (lU (pT I I) (lA I (SL.nT (rE ?_))));exact ST.ret1 (.inl I) results56 I ⟨by simp[hz],I,I⟩
set_option maxHeartbeats 4000000
def cntL (m:List Pr)(v:List Int):Nat:=(m.filter fun q=>!v.contains q.1).length
theorem cntL_lt:∀ {m:List Pr} {v:List Int} {q:Pr},q∈m→v.contains q.1=false→cntL m (v++[q.1])<cntL m v
 | a::m,v,q,hq,hv=>by
  have hle:∀ m:List Pr,cntL m (v++[q.1])≤cntL m v:=by
   intro m;unfold cntL;rw[← List.countP_eq_length_filter,← List.countP_eq_length_filter];refine List.countP_mono_left fun x _ hx=>?_;simp at hx ⊢;exact hx.1
  unfold cntL;rw[List.filter_cons,List.filter_cons]
  rcases List.mem_cons.1 hq with rfl | hq
  ·have h1:(!v.contains q.1)=true:=by rw[hv]; rfl
   have h2:¬ (!(v++[q.1]).contains q.1)=true:=by simp
   rw[if_pos h1,if_neg h2];have:=hle m;unfold cntL at this;rw[List.length_cons];omega
  ·have ih:=cntL_lt hq hv;unfold cntL at ih;by_cases h1:(!(v++[q.1]).contains a.1)=true
   ·have h2:(!v.contains a.1)=true:=by simp at h1 ⊢; exact h1.1
    rw[if_pos h1,if_pos h2,List.length_cons,List.length_cons];omega
   ·rw[if_neg h1];split
    ·rw[List.length_cons]; omega
    ·exact ih
theorem cntL_mono {m:List Pr}{v w:List Int}(h:∀ z∈v,z∈w):cntL m w≤cntL m v:=by
 unfold cntL;rw[← List.countP_eq_length_filter,← List.countP_eq_length_filter];refine List.countP_mono_left fun x _ hx=>?_;simp at hx ⊢;exact fun hv=>hx (h _ hv)
theorem setI_snoc {l:List (Int×Value)}{w:List Int}(h:SetI l w.contains)(k:Int):SetI (mput l k (vb true)) (w++[k]).contains:=(h.put k).congr fun j=>by
 rw[Bool.eq_iff_iff,List.contains_iff_mem,List.mem_append,Bool.or_eq_true,decide_eq_true_iff,List.contains_iff_mem,List.mem_singleton];exact Or.comm
def sidA (A:List Cl)(h:Int):List Int:=((findT A h).getD zeroC).sides.map Side.cell
theorem visitM_spec (E:World)(g:PH)(bF bS bL bV bf mo mh ml msn:Nat)(u:Value)(A:List Cl)(out hm:List (Int×Value))(T:List Pr)(low:Int)
  (hF:g bF=some (.cells #[pp bf 0] 99 (0,0))) (hSn:g bS=some (.cells #[.map (some msn)] 71 (0,0))) (hLw:g bL=some (.cells #[vi low] 3 (0,0)))
  (hV:g bV=some (.cells #[.func (.func 93) #[] #[pp bF 0,pp bS 0,pp bL 0,pp bV 0]] 106 (0,0)))
  (hmo:Mp g mo out) (hS:SdM g out A) (hH:HiM hm T) (hp:PosT T) (hsd:∀ q∈T,q.1∈sidA A q.2) (hlowT:(highT T low).isSome=true) :
  ∀ (n:Nat) (a:Int) (v:List Int) (sl:List (Int×Value)) (s:Own) (i j k:Nat),cntL T v<n→(highT T a).isSome=true→low ∉ v→SetI sl v.contains→k≠i→k≠j→s[i]?=some (fdP bf u mo mh ml)→s[j]?=some (mp mh hm)→s[k]?=some (mp msn sl) →
  Ctr Tryz.prog E 93 #[vi a,pp bF 0,pp bS 0,pp bL 0,pp bV 0] g s (fun r g' s'=>g=g'∧∃ b v' sl',r=vb b∧SetI sl' v'.contains∧VisM (sidA A) T low a v b v'∧s'=s.set k (mp msn sl')):=by
 intro n;induction n with
 | zero=>intro a v sl s i j k h; omega
 | succ n ih =>
 intro a v sl s i j k hcnt hah hlv hsl hki hkj hi hj hk;obtain ⟨h,hh⟩:=Option.isSome_iff_exists.1 hah;have hh0:(highT T a).getD 0=h:=by rw[hh]; rfl
 have hmem:=hsd _ (highT_mem hh);dsimp only at hmem;obtain ⟨c,bi,hfc,hout,hbi⟩:∃ c b,findT A h=some c∧mget out h=some (.map (some b))∧Mp g b (innC c.sides):=by
  rcases hS.look h with ⟨h1,_⟩ | hx
  ·unfold sidA at hmem; rw[h1] at hmem; simp[zeroC] at hmem
  ·exact hx
 have hsid:sidA A h=c.sides.map Side.cell:=by unfold sidA; rw[hfc]; rfl
 obtain ⟨es,clk,hes,hmi⟩:=hbi;refine Ctr.of (args:=[vi a,pp bF 0,pp bS 0,pp bL 0,pp bV 0]) func93 I ntmps93 (bE I) ?_;refine SC.sR (lA I (SL.nT (sQ (sQ ?_))));refine dW [] [(0,1),(1,2),(2,2),(3,1),(4,1),(5,2),(6,2),(7,1),(8,2),(9,1),(10,1),(11,0)] Tryz.mixed (by kernel_rfl) ?_;refine pK I (qL (v:=pp bf 0) isAgg99 I (cK hF I)) (pU I (nC I) (pU I (fA uT104 I sizeOf102 I) (pK I (qL (v:=.map (some mo)) isAgg102 I (cO i hi I)) (pK I (qL (v:=pp bf 0) isAgg99 I (cK hF I)) (pU I (nC I) (pU I (fA uT104 I zT70 I) (pK I (qL (v:=.map (some mh)) isAgg70 I (cO i hi I)) (pU I (mV I) (pK I (SQ.eq (v':=vi h) (SQ.lookup mty70m I I (MapAt.own j hj)) (by rw[hH,mapD,hh0])) ?_)))))))));refine pK rfl (SQ.eq (v':=.map (some bi)) (SQ.lookup mty102 rfl rfl (MapAt.known hmo)) (by rw[hout]; rfl)) ?_;refine SP.o rfl (SO.range underlying70 rfl hes) dC (.inr (by rintro _ _ _ ⟨it,rfl,rfl,rfl⟩; exact⟨by exact Le.refl _,(by exact .cons _ (.refl _))⟩)) ?_;rintro _ _ _ ⟨it,rfl,rfl,rfl⟩;refine pN (tN (bK ?_));refine oP (ι:=List MapEntry×List (Int×Value)×List Int×List (Int×Value)) (fun _=>[(0,vi a),(1,pp bF 0),(2,pp bS 0),(3,pp bL 0),(4,pp bV 0),(19,pp it 0)]) (fun _=>g) (fun z=>iter it bi es clk z.1::s.set k (mp msn z.2.2.2))
  (fun z=>RVis (innC c.sides) es z.1 z.2.1∧MidM (sidA A) T low a v (z.2.1.map Prod.fst) z.2.2.1∧SetI z.2.2.2 z.2.2.1.contains) (fun z=>c.sides.length - z.2.1.length) ([],[],v,sl)
  sB rfl (by dsimp only; rw[set_self hk]) ⟨RVis.nil _ _,MidM.start hlv,hsl⟩ ?_
 rintro ⟨vis,vl,w,wl⟩ ⟨hrv,hmid,hwl⟩;dsimp only at hrv hmid hwl ⊢;have hvle:=hrv.len hmi;have hi':=set_other (a:=mp msn wl) hki hi;have hj':=set_other (a:=mp msn wl) hkj hj;have hk':=get_set hk (mp msn wl);have hcw:cntL T w<n+1:=Nat.lt_of_le_of_lt (cntL_mono hmid.1) hcnt;refine SC.sR (lW (SO.nextP 0 I I hes hmi hrv) ?_);rintro _ _ _ ⟨rfl,hcase⟩
 rcases hcase with ⟨rfl,rfl,hperm⟩ | ⟨e,pr,he,hp1,hk1,hv1,hrv2,rfl,rfl⟩
 ·refine lU (xT I I) (SL.nT (sQ (cF I (xI (tX (tX (bX (tN (SC.sR (lA I (SL.nT (rE (dR (s':=s.set k (mp msn wl)) (.cons _ (.refl _)) ?_)))))))))))));exact ST.ret1 (.inl I) results93 I ⟨I,false,w,wl,I,hwl,hmid.stop fun y hy=>by
   obtain ⟨h',e1,e2,_,_⟩:=hy;rw[hh] at e1;injection e1 with e1
   subst e1;rw[hsid] at e2;have h3:y∈(innC c.sides).map Prod.fst:=by unfold innC; rw[List.map_map]; exact e2
   exact (hperm.map Prod.fst).symm.subset h3,I⟩
 ·have hyc:pr.1∈sidA A h:=by
   rw[hsid];unfold innC at hp1;obtain ⟨y,hy,rfl⟩:=List.mem_map.1 hp1;exact List.mem_map.2 ⟨y,hy,I⟩
  have hlen2:=hrv2.len hmi;have hil:(innC c.sides).length=c.sides.length:=by unfold innC; rw[List.length_map]
  rw[List.length_append,List.length_singleton,hil] at hlen2;have hmap2:(vl++[pr]).map Prod.fst=vl.map Prod.fst++[pr.1]:=by rw[List.map_append]; rfl
  obtain ⟨y,pv⟩:=pr;dsimp only at hk1 hv1 hyc hmap2;have hz1:=high_zero hp y;have hset2:∀ wl2,(s.set k (mp msn wl)).set k (mp msn wl2)=s.set k (mp msn wl2):=fun wl2=>List.set_set ..;have hagain:∀ w2 wl2,MidM (sidA A) T low a v (vl.map Prod.fst++[y]) w2→SetI wl2 w2.contains→_:=fun w2 wl2 h1 h2=>(show RVis (innC c.sides) es (vis++[e]) (vl++[(y,pv)])∧MidM (sidA A) T low a v ((vl++[(y,pv)]).map Prod.fst) w2∧SetI wl2 w2.contains from ⟨hrv2,by rw[hmap2]; exact h1,h2⟩);by_cases hya:y=a
  ·refine lU (xT I I) (SL.nT (sQ (cT I (kP (tN (bK (SC.sR (lK (SQ.entryP (p:=(y,pv)) 0 I I hes hmi he hk1 hv1) (lU (xT I I) (lA I (SL.nT (sQ (SC.sR (lM I (lM I (lU (SU.eq (v':=vb true) (eQ I I) (congrArg vb (decide_eq_true hya))) (lM I (lZ I I I (lZ I I I (lZ I I I (lZ I I I (lZ I I I (lZ I I I (lZ I I I (lU (pT I I) ?_)))))))))))))))))))))))));refine lM I (lZ I I I (lZ I I I (lZ I I I (lU (pT I I) (SL.nT (cT I (xI (tX (bX ?_)))))))));exact ST.again (vis++[e],vl++[(y,pv)],w,wl) sB rfl rfl (hagain w wl (hmid.skip fun ⟨_,_,_,h3,_⟩=>absurd hya h3) hwl) (by dsimp only; rw[List.length_append,List.length_singleton]; omega)
  ·cases hyh:(highT T y).isSome with
   | false =>
    have hy0:(highT T y).getD 0=0:=by
     rw[hyh] at hz1;simpa using hz1
    refine lU (xT I I) (SL.nT (sQ (cT I (kP (tN (bK (SC.sR (lK (SQ.entryP (p:=(y,pv)) 0 I I hes hmi he hk1 hv1) (lU (xT I I) (lA I (SL.nT (sQ (SC.sR (lM I (lM I (lU (SU.eq (v':=vb false) (eQ I I) (congrArg vb (decide_eq_false hya))) (lM I (SL.gq (gT I I I dC) (qL (v:=pp bf 0) isAgg99 I (cK hF I)) dC (lY I I I (nC I) (lY I I I (fA uT104 I zT70 I) (SL.gq (gT I I I dC) (qL (v:=.map (some mh)) isAgg70 I (cO (i+1) hi' I)) dC (lY I I I (mV I) (SL.gq (gT I I I dC) (SQ.eq (v':=vi ((highT T y).getD 0)) (SQ.lookup mty70m I I (MapAt.own (j+1) hj')) (by rw[hH,mapD])) dC ?_)))))))))))))))))))))));refine lY I I I (SU.eq (v':=vb true) (eQ I I) (congrArg vb (decide_eq_true hy0))) (lU (pF I I) (lM I (lZ I I I (lZ I I I (lZ I I I (lU (pT I I) (SL.nT (cT I (xI (tX (bX ?_)))))))))));exact ST.again (vis++[e],vl++[(y,pv)],w,wl) sB rfl rfl (hagain w wl (hmid.skip fun ⟨_,_,_,_,h4⟩=>by rw[hyh] at h4; cases h4) hwl) (by dsimp only; rw[List.length_append,List.length_singleton]; omega)
   | true =>
    have hy0:(highT T y).getD 0≠0:=by
     rw[hyh] at hz1;simpa using hz1
    have hsuc:SucM (sidA A) T a y:=⟨h,hh,hyc,hya,hyh⟩;refine lU (xT I I) (SL.nT (sQ (cT I (kP (tN (bK (SC.sR (lK (SQ.entryP (p:=(y,pv)) 0 I I hes hmi he hk1 hv1) (lU (xT I I) (lA I (SL.nT (sQ (SC.sR (lM I (lM I (lU (SU.eq (v':=vb false) (eQ I I) (congrArg vb (decide_eq_false hya))) (lM I (SL.gq (gT I I I dC) (qL (v:=pp bf 0) isAgg99 I (cK hF I)) dC (lY I I I (nC I) (lY I I I (fA uT104 I zT70 I) (SL.gq (gT I I I dC) (qL (v:=.map (some mh)) isAgg70 I (cO (i+1) hi' I)) dC (lY I I I (mV I) (SL.gq (gT I I I dC) (SQ.eq (v':=vi ((highT T y).getD 0)) (SQ.lookup mty70m I I (MapAt.own (j+1) hj')) (by rw[hH,mapD])) dC ?_)))))))))))))))))))))));refine lY I I I (SU.eq (v':=vb false) (eQ I I) (congrArg vb (decide_eq_false hy0))) (lU (pF I I) (lM I (SL.gq (gT I I I dC) (qL (v:=.map (some msn)) iT71 I (cK hSn I)) dC (lY I I I (mV I) (SL.gq (gT I I I dC) (SQ.eq (v':=vb (w.contains y)) (SQ.lookup mty71 I I (MapAt.own (k+1) hk')) (hwl.get y)) dC (lU (pF I I) (SL.nT ?_)))))));refine iQ I (fun hw=>?_) (fun hw=>?_)
    ·refine xI (tX (bX ?_));exact ST.again (vis++[e],vl++[(y,pv)],w,wl) sB I I (hagain w wl (hmid.skip fun _=>by rwa [List.contains_iff_mem] at hw) hwl) (by dsimp only; rw[List.length_append,List.length_singleton]; omega)
    ·have hq:(y,(highT T y).getD 0)∈T:=by
      obtain ⟨x,hx⟩:=Option.isSome_iff_exists.1 hyh;rw[hx];exact highT_mem hx
     have hc2:cntL T (w++[y])<n:=by
      have:=cntL_lt hq hw;dsimp only at this;omega
     by_cases hyl:y=low
     ·refine kP (tN (SC.sR (lK (qL (v:=.map (some msn)) iT71 I (cK hSn I)) (lM I (lO (SO.mapUpdate (k+1) mty71 I I I hk') ?_)))));rintro _ _ _ ⟨rfl,rfl⟩;refine SL.nT (SC.sR (lM I (lK (qL (v:=vi low) iT3 I (cK hLw I)) (lU (SU.eq (v':=vb true) (eQ I I) (congrArg vb (decide_eq_true hyl))) (lM I (lZ I I I (lZ I I I (lZ I I I (lU (pT I I) (SL.nT (cT I (SC.sR (lA I (SL.nT (rE (bR (tR (bR (tR ?_)))))))))))))))))));refine ST.to (g':=g) (s':=s.set k (mp msn (mput wl y (vb true)))) (fun w0 hw0=>?_) ?_
      ·rw[← hset2];exact hw0.sublist (.cons _ (.refl _))
      exact ST.ret1 (.inl I) results93 I ⟨I,true,w++[y],_,I,setI_snoc hwl y,VisM.here (by rw[← hyl]; exact hsuc),I⟩
     ·have hi2:=set_other (a:=mp msn (mput wl y (vb true))) hki hi;have hj2:=set_other (a:=mp msn (mput wl y (vb true))) hkj hj;have hk2:=get_set hk (mp msn (mput wl y (vb true)));have hrec:=ih y (w++[y]) (mput wl y (vb true)) (iter it bi es clk (vis++[e])::s.set k (mp msn (mput wl y (vb true)))) (i+1) (j+1) (k+1) hc2 hyh (by
       rw[List.mem_append,List.mem_singleton];rintro (h1 | h1)
       ·exact hmid.2.1 h1
       ·exact hyl h1.symm) (setI_snoc hwl y) oM oM hi2 hj2 hk2
      refine kP (tN (SC.sR (lK (qL (v:=.map (some msn)) iT71 I (cK hSn I)) (lM I (lO (SO.mapUpdate (k+1) mty71 I I I hk') ?_)))));rintro _ _ _ ⟨rfl,rfl⟩;refine SL.nT (sQ ?_);refine SC.to (g':=g) (s':=iter it bi es clk (vis++[e])::s.set k (mp msn (mput wl y (vb true)))) (fun w0 hw0=>by rw[← hset2]; exact hw0) ?_;refine rG (lM I (lK (qL (v:=vi low) iT3 I (cK hLw I)) (lU (SU.eq (v':=vb false) (eQ I I) (congrArg vb (decide_eq_false hyl))) (lM I (SL.gq (gT I I I dC) (qL (v:=.func (.func 93) #[] #[pp bF 0,pp bS 0,pp bL 0,pp bV 0]) isAgg106 I (cK hV I)) dC (lY I I I (mV I) (SL.go (gT I I I dC) (SO.callV I I (CallV.mk (args:=[_]) (cap:=[pp bF 0,pp bS 0,pp bL 0,pp bV 0]) call93 hrec)) dC ?_)))))));rintro _ _ _ ⟨rfl,b,v',sl',rfl,hsl',hvis',rfl⟩;refine lU (pF I I) (SL.nT ?_);have hset3:∀ wl2,(s.set k (mp msn (mput wl y (vb true)))).set k (mp msn wl2)=s.set k (mp msn wl2):=fun wl2=>List.set_set ..;cases b with
      | true =>
       refine cT I (SC.sR (lA I (SL.nT (rE (bR (tR (bR (tR ?_))))))));refine ST.to (g':=g) (s':=s.set k (mp msn sl')) (fun w0 hw0=>?_) ?_
       ·rw[← hset3];exact hw0.sublist (.cons _ (.refl _))
       exact ST.ret1 (.inl I) results93 I ⟨I,true,v',sl',I,hsl',VisM.found hsuc hvis',I⟩
      | false =>
       refine cF I (kP (bN ?_));refine ST.to (g':=g) (s':=iter it bi es clk (vis++[e])::s.set k (mp msn sl')) (fun w0 hw0=>?_) ?_
       ·rw[← hset3];exact hw0
       exact ST.again (vis++[e],vl++[(y,pv)],v',sl') sB I I (hagain v' sl' (hmid.step hyl hvis') hsl') (by dsimp only; rw[List.length_append,List.length_singleton]; omega)
theorem aroundM_spec (E:World)(g:PH)(s:Own)(bf mo mh ml:Nat)(u:Value)(A:List Cl)(out hm:List (Int×Value))(T:List Pr)(low:Int)(hmo:Mp g mo out)(hS:SdM g out A)(hH:HiM hm T)(hp:PosT T)(hsd:∀ q∈T,q.1∈sidA A q.2)(hlowT:(highT T low).isSome=true)(i j:Nat)(hi:s[i]?=some (fdP bf u mo mh ml))(hj:s[j]?=some (mp mh hm)) :
  Ctr Tryz.prog E 57 #[pp bf 0,vi low] g s (fun r g' s'=>(∃ b,r=vb b∧(b=true↔WayM (sidA A) T low low))∧s=s'∧Le g g'):=by
 refine Ctr.of (args:=[pp bf 0,vi low]) func57 I ntmps57 (bE I) ?_;refine SC.sR (SL.bx (bO I) fun b2=>?_);refine SL.bx (bO I) fun b3=>?_;refine lA I (SL.nT (SC.sR (lW (SO.mkMap) ?_)));rintro _ _ _ ⟨b7,rfl,rfl,rfl⟩;refine SL.bx (aL zeroValue71) fun b5=>?_;refine SL.O2 (sK 0 zT71 I I I I I sB) ?_;refine SL.nT (SC.sR (SL.bx (aL zeroValue106) fun b6=>?_));refine SL.nT (SC.sR (lU (SU.mkFunc I) (SL.O2 (sK 0 sizeOf106 I I I I I sB) ?_)));refine SL.nT (sQ (SC.freeze fun g1 hle1 hb6=>?_));refine SC.freeze fun g2 hle2 hb5=>?_;refine cP ((List.Perm.swap _ _ _).trans (List.Perm.cons _ (List.Perm.swap _ _ _))) (SC.freeze fun g3 hle3 hb3=>?_);refine SC.freeze fun g4 hle4 hb2=>?_;have hle24:=hle2.trans (hle3.trans hle4);have hle14:=hle1.trans hle24;refine rG (lK (qL (v:=.func (.func 93) #[] #[pp b2 0,pp b5 0,pp b3 0,pp b6 0]) isAgg106 I (cK (hle24 _ _ hb6) I)) (lK (qL (v:=vi low) iT3 I (cK (hle4 _ _ hb3) I)) (lW (SO.callV I I (CallV.mk (args:=[_]) (cap:=[pp b2 0,pp b5 0,pp b3 0,pp b6 0]) call93 (visitM_spec E g4 b2 b5 b3 b6 bf mo mh ml b7 u A out hm T low hb2 ((hle3.trans hle4) _ _ hb5) (hle4 _ _ hb3) (hle24 _ _ hb6) (hmo.mono hle14) (hS.mono hle14) hH hp hsd hlowT (cntL T []+1) low [] [] (mp b7 []::s) (i+1) (j+1) 0 oM hlowT (by simp) SetI.nil oM oM hi hj I))) ?_)));rintro _ _ _ ⟨rfl,b,v',sl',rfl,hsl',hvis,rfl⟩;refine lA I (SL.nT (rE (dR (s':=s) (.cons _ (.refl _)) ?_)));exact ST.ret1 (.inl I) results57 I ⟨⟨b,I,hvis.iff⟩,I,hle14⟩
theorem LoM.nil:LoM [] []:=fun _=>rfl
theorem LoM.snoc {lm:List (Int×Value)}{T:List Pr}(h:LoM lm T){p:Pr}(hu:usedR T p.2=false):LoM (mput lm p.2 (vi p.1)) (T++[p]):=fun k=>by
 have hn:(lowT T p.2)=none:=by
  have h1:=low_any T p.2;unfold usedR at hu;rw[Bool.or_eq_false_iff] at hu;rw[hu.2] at h1;simpa using h1.symm
 rw[mget_mput];unfold lowT at *;rw[List.find?_append];by_cases e:k=p.2
 ·subst e;rw[if_pos rfl];have h2:T.find? (fun q=>decide (q.2=p.2))=none:=by simpa using hn
  rw[h2];simp
 ·rw[if_neg e,h k];unfold lowT;have h3:¬ p.2=k:=fun h=>e h.symm;cases T.find? (fun q=>decide (q.2=k)) with
  | some x=>rfl
  | none=>simp[h3]
theorem usedR_fst {T:List Pr}{id:Int}(h:usedR T id=false):id ∉ T.map Prod.fst:=fun hm=>by
 have:usedR T id=true:=used_iff.2 (List.mem_append_left _ hm);rw[h] at this;cases this
section
variable {l:List Cl}(hl:(checkC l).2=0)
include hl
theorem sidA_eq:sidA (canonC l)=sidC l:=by
 have ht:tabC l=canonC l:=tabC_strict (rt_of hl).asc;funext k;unfold sidA sidC findC findT;rw[ht]
theorem rt_nodup:((canonC l).map Cl.id).Nodup∧∀ c∈canonC l,(c.sides.map Side.cell).Nodup:=by
 have hr:=rt_of hl;refine⟨?_,fun c hc=>?_⟩
 ·rw[List.Nodup,List.pairwise_map];exact hr.asc.imp fun h=>by omega
 ·rw[List.Nodup,List.pairwise_map];exact (hr.form c hc).asc.imp fun h=>by omega
theorem side_pos {low high:Int}(h:low∈sidC l high):low≠0∧high≠0:=by
 have hr:=rt_of hl;have ht:tabC l=canonC l:=tabC_strict hr.asc;unfold sidC at h;obtain ⟨s,hs,rfl⟩:=List.mem_map.1 h;obtain ⟨c,_,h2,h3,_,d,h5,_⟩:=rt_sides hl hs;have h6:findT (canonC l) s.cell=some d:=by rw[← ht]; exact h5
 obtain ⟨h7,h8⟩:=findT_mem h6;have h9:=hr.pos c h2;have h10:=hr.pos d h7;omega
end
theorem pairBad_at {l:List Cl}{m:List Pr}{k:Nat}(h:k<m.length):pairBad l m k=(usedR (m.take k) m[k].1||usedR (m.take k) m[k].2||decide (sgnP l m[k].1 m[k].2=0)):=by
 unfold pairBad;rw[List.getD_eq_getElem?_getD,gE h];rfl
theorem any_succ (p:Nat→Bool)(k:Nat):(List.range (k+1)).any p=((List.range k).any p||p k):=by
 rw[List.range_succ,List.any_append];simp
theorem openM_spec (E:World)(g:PH)(s:Own)(v mv:Value)(l:List Cl)(m:List Pr)(hv:Cells g v l)(hf:Fits l)(hm:SlA encPr g mv m)(hml:m.length<1099511627775) :
  Ctr Tryz.prog E 53 #[.agg #[v],mv] g s (fun r g' s'=>Le g g'∧∃ ptr,r = .tuple #[ptr,vi (mcheckR l m)]∧((mcheckR l m≠0∧s=s')∨(mcheckR l m=0∧∃ bf u mo mh ml out hi lo,ptr=pp bf 0∧Cells g' u (canonC l)∧Mp g' mo out∧SdM g' out (canonC l)∧HiM hi m∧LoM lo m∧s'=fdP bf u mo mh ml::mp mh hi::mp ml lo::s))):=by
 obtain ⟨p,c,rfl⟩:=hv.form;obtain ⟨q,d,rfl⟩:=SlA.form hm;have hAf:=canonC_fits hf;refine Ctr.of (args:=[.agg #[.slice p l.length c],.slice q m.length d]) func53 I ntmps53 (bE I) ?_;refine SC.sR (SL.bx (bO I) fun b2=>?_);refine lA I (lA I (SL.nT (sQ (SC.sR (lK (qV 0 iT29 zT29 I I I) (lW (SO.call call24 I (check_spec E g _ _ l hv hf)) ?_))))));rintro _ _ _ ⟨rfl,rfl,rfl⟩;refine lM I (lU (xT I I) (lU (xT I I) (lA I (lA I (SL.nT (SC.sR (lM I (lU (nQ I I) (SL.nT ?_)))))))));refine iP I (fun hc=>?_) (fun hc=>?_)
 ·have hmc:mcheckR l m=(checkC l).2:=by unfold mcheckR; rw[if_pos hc]
  rw[hmc];refine SC.sR (lM I (lA I (lA I (SL.nT (rE (tR (dR (s':=s) (.cons _ (.refl _)) ?_)))))));exact ST.ret2 (.inl I) results53 I I ⟨Le.refl _,_,I,.inl ⟨hc,I⟩⟩
 ·have hl:(checkC l).2=0:=Decidable.not_not.1 hc;have hmc:mcheckR l m=if (List.range m.length).any (pairBad l m) then 42 else if ringR (adjS (sidC l)) m then 43 else 0:=by unfold mcheckR; rw[if_neg hc,adjR_eq hl]
  rw[hmc];have hsA:=sidA_eq hl;obtain ⟨hnd,hsn⟩:=rt_nodup hl;have hpos:∀ {low high:Int},low∈sidA (canonC l) high→low≠0∧high≠0:=fun h=>side_pos hl (by rwa [hsA] at h);have hsg:∀ low high:Int,(((findT (canonC l) high).getD zeroC).sides.find? fun s=>decide (s.cell=low)).elim 0 Side.sign=sgnP l low high:=fun low high=>by
   have ht:tabC l=canonC l:=tabC_strict (rt_of hl).asc;unfold sgnP findC findT;rw[ht]
  have hside:∀ low high:Int,sgnP l low high≠0→low∈sidA (canonC l) high:=fun low high h=>by rw[hsA]; exact (sgn_side hl low high).1 h
  rw[← hsA];refine kP (tN (SC.sR (lK (qV 0 iT29 zT29 I I I) (lW (SO.call call50 I (canon_spec E g _ _ l hv hf)) ?_))));rintro _ g1 _ ⟨rfl,hle1,u,rfl,hu⟩;obtain ⟨pu,cu,rfl⟩:=hu.form;refine lW (SO.call call87 I (newField_spec E g1 _ _ (canonC l) hu hAf hnd hsn)) ?_;rintro _ g2 _ ⟨hle2,bf,mo,mh,ml,out,rfl,hmo,hS,rfl⟩;refine lA I (SL.nT (sQ (SC.sR (lM I (lU (eN uT31 I) (lM I (SL.nT (bK ?_))))))));generalize canonC l=A at *;have hm2:=SlA.mono hm (hle1.trans hle2);have hu2:=hu.mono hle2;refine oP (ι:=Nat×List (Int×Value)×List (Int×Value)) (fun i=>[(1,.slice q m.length d),(8,pp bf 0),(24,.slice q m.length d),(25,vi m.length),(26,vi i.1)]) (fun _=>g2) (fun i=>fdP bf (.slice pu A.length cu) mo mh ml::mp mh i.2.1::mp ml i.2.2::pt b2 (.cells #[.slice p l.length c] 29 (0,0))::s)
   (fun i=>i.1≤m.length∧HiM i.2.1 (m.take i.1)∧LoM i.2.2 (m.take i.1)∧PosT (m.take i.1)∧(∀ x∈m.take i.1,x.1∈sidA A x.2)∧((m.take i.1).map Prod.fst).Nodup∧(List.range i.1).any (pairBad l m)=false) (fun i=>m.length - i.1) (0,[],[])
   sB rfl rfl ⟨Nat.zero_le _,fun _=>rfl,LoM.nil,fun x hx=>by simp at hx,by simp,by simp,rfl⟩ ?_
  rintro ⟨k,hi,lo⟩ ⟨hk,hH,hL,hP,hSd,hNd,hok⟩;dsimp only at hk hH hL hP hSd hNd hok ⊢;refine SC.sR (lU (lS I I) (SL.nT (sQ ?_)));refine iP I (fun hlt=>?_) (fun hlt=>?_)
  ·have hkl:k<m.length:=oM;have hb1:=SlA.based hm2 oM;have hgk:m[((k:Nat):Int).toNat]?=some m[k]:=gE hkl;have htk:m.take (k+1)=m.take k++[m[k]]:=tS hkl;have hbad:=pairBad_at (l:=l) hkl;have hany:=any_succ (pairBad l m) k;have hbig:pairBad l m k=true→(List.range m.length).any (pairBad l m)=true:=fun h=>List.any_eq_true.2 ⟨k,List.mem_range.2 hkl,h⟩;generalize m[k]=x at *;obtain ⟨x1,x2⟩:=x;dsimp only at hbad;rw[← hsg] at hbad;refine kP (tN (sQ (bK (SC.sR (lU (iA uT31 zT44 I I hb1 oM sL) (lK (eA iT44 zT44 I (SlA.rd hm2) hgk) (SL.bx (aL zeroValue44) fun b10=>?_)))))));refine SL.O2 (sK 0 zT44 I I I I I sB) ?_;refine SL.nT (sQ (SC.sR (lM I (lU (iB uT44 zT3 I I dC dC) (lK (qL (v:=vi x1) iT3 I (cO 0 I I)) (lU (iB uT44 zT3 I I dC dC) (lK (qL (v:=vi x2) iT3 I (cO 0 I I)) (lW (SO.call call56 I (fitsM_spec E g2 _ bf mo mh ml _ A out hi lo (m.take k) x1 x2 1 2 3 I I I hmo hS hH hL hP)) ?_))))))));rintro _ _ _ ⟨rfl,rfl,rfl⟩;rw[← hbad];refine lU (SU.not I) (SL.nT ?_);refine iQ I (fun hb=>?_) (fun hb=>?_)
   ·rw[Bool.not_not] at hb;rw[if_pos (hbig hb)];refine SC.sR (lA I (lA I (SL.nT (rE (tR (bR (tR (tR (bR (tR (dR (s':=s) (.cons _ (.cons _ (.cons _ (.cons _ (.cons _ (.refl _)))))) ?_)))))))))));exact ST.ret2 (.inl I) results53 I I ⟨hle1.trans hle2,_,I,.inl ⟨by decide,I⟩⟩
   ·rw[Bool.not_not] at hb;have hb0:=hb;rw[hbad,hsg,Bool.or_eq_false_iff,Bool.or_eq_false_iff,decide_eq_false_iff_not] at hb;obtain ⟨⟨hu1,hu2'⟩,hs0⟩:=hb;have hsd:=hside _ _ hs0;refine kP (tN ?_);refine SC.drawT 2 [] [(0,2),(1,2),(2,2),(3,1),(4,2),(5,1),(6,2),(7,2),(8,2),(9,1),(10,2),(11,1),(12,2),(13,1),(14,2),(15,1),(16,0),(17,2),(18,0),(19,0),(20,2),(21,0)] Tryz.mixed (by kernel_rfl) ?_;refine pU rfl (mV rfl) (pU rfl (nC rfl) (pU rfl (fA uT104 rfl zT70 rfl) (pK rfl (qL (v:=.map (some mh)) isAgg70 rfl (cO 1 rfl rfl)) (pU rfl (iB uT44 zT3 rfl rfl dC dC) (pK rfl (qL (v:=vi x1) iT3 rfl (cO 0 rfl rfl)) (pU rfl (mV rfl) (pU rfl (nC rfl) (pU rfl (fA uT104 rfl zT70 rfl) (pK rfl (qL (v:=.map (some ml)) isAgg70 rfl (cO 1 rfl rfl)) (pU rfl (iB uT44 zT3 rfl rfl dC dC) (pK rfl (qL (v:=vi x2) iT3 rfl (cO 0 rfl rfl)) (pU rfl (iB uT44 zT3 rfl rfl dC dC) (pK rfl (qL (v:=vi x2) iT3 rfl (cO 0 rfl rfl)) (pU rfl (iB uT44 zT3 rfl rfl dC dC) (pK rfl (qL (v:=vi x1) iT3 rfl (cO 0 rfl rfl)) (SP.o rfl (SO.mapEntry 2 mty70m rfl rfl rfl) dC (.inr (by rintro _ _ _ ⟨st1,j1,l1,rfl,rfl,rfl,hk1,hp1⟩; exact⟨by exact Le.refl _,(by exact take_set_sub _ _ _ _)⟩)) ?_))))))))))))))));rintro _ _ _ ⟨st1,j1,l1,rfl,rfl,rfl,hk1,hp1⟩;refine pU rfl (xT rfl rfl) (SP.on rfl (SO.entryStore 2 rfl rfl rfl rfl hk1) (.inr (by rintro _ _ _ ⟨rfl,rfl⟩; exact⟨by exact Le.refl _,(by exact .cons_cons _ (.cons_cons _ (List.nil_sublist _)))⟩)) ?_);rintro _ _ _ ⟨rfl,rfl⟩;rw[← hp1];refine SP.o rfl (SO.mapEntry 3 mty70m rfl rfl rfl) dC (.inr (by rintro _ _ _ ⟨st2,j2,l2,rfl,rfl,rfl,hk2,hp2⟩; exact⟨by exact Le.refl _,(by exact .cons_cons _ (.cons_cons _ (List.nil_sublist _)))⟩)) ?_;rintro _ _ _ ⟨st2,j2,l2,rfl,rfl,rfl,hk2,hp2⟩;refine pU rfl (xT rfl rfl) (SP.on rfl (SO.entryStore 3 rfl rfl rfl rfl hk2) (.inr (by rintro _ _ _ ⟨rfl,rfl⟩; exact⟨by exact Le.refl _,(by exact .cons_cons _ (.cons_cons _ (List.nil_sublist _)))⟩)) ?_);rintro _ _ _ ⟨rfl,rfl⟩;rw[← hp2];refine pN (bN (tN (rG (lU (aD I I oM) (lM I (nL (dR (.cons _ (.refl _)) ?_)))))));exact ST.again (k+1,mput hi x1 (vi x2),mput lo x2 (vi x1)) sB I I ⟨by dsimp only; omega,by dsimp only; rw[htk]; exact hH.snoc (p:=(x1,x2)) hu1,by dsimp only; rw[htk]; exact hL.snoc (p:=(x1,x2)) hu2',by
     dsimp only;rw[htk];intro y hy
     rcases List.mem_append.1 hy with hy | hy
     ·exact hP y hy
     ·simp at hy; subst hy; exact hpos hsd,by
     dsimp only;rw[htk];intro y hy
     rcases List.mem_append.1 hy with hy | hy
     ·exact hSd y hy
     ·simp at hy; subst hy; exact hsd,by
     dsimp only;rw[htk,List.map_append,List.nodup_append];refine⟨hNd,by simp,fun a ha b hb'=>?_⟩;simp at hb';subst hb';exact fun e=>usedR_fst hu1 (e ▸ ha),by dsimp only; rw[hany,hok,hb0]; rfl⟩ (by dsimp only; omega)
  ·have hkk:m.take k=m:=tL oM;have hkm:k=m.length:=oM;rw[hkk] at hH hL hP hSd hNd;rw[hkm] at hok;rw[hok];have hring:=ring_way (S:=sidA A) hNd;have hif:(if false=true then (42:Int) else if ringR (adjS (sidA A)) m=true then 43 else 0)=if ringR (adjS (sidA A)) m=true then 43 else 0:=rfl
   rw[hif];refine xI (tX (tX (bX (tN (sQ (SC.sR (lM I (lU (eN uT31 I) (lM I (SL.nT (bK ?_)))))))))));refine oP (ι:=Nat×PH) (fun i=>[(8,pp bf 0),(58,.slice q m.length d),(59,vi m.length),(60,vi i.1)]) (fun i=>i.2) (fun _=>fdP bf (.slice pu A.length cu) mo mh ml::mp mh hi::mp ml lo::pt b2 (.cells #[.slice p l.length c] 29 (0,0))::s)
    (fun i=>i.1≤m.length∧Le g2 i.2∧∀ x∈m.take i.1,¬ WayM (sidA A) m x.1 x.1) (fun i=>m.length - i.1) (0,g2) sB rfl rfl ⟨Nat.zero_le _,Le.refl _,by simp⟩ ?_
   rintro ⟨j,g3⟩ ⟨hj,hle3,hno⟩;dsimp only at hj hle3 hno ⊢;refine SC.sR (lU (lS I I) (SL.nT (sQ ?_)));refine iP I (fun hjt=>?_) (fun hjt=>?_)
   ·have hjl:j<m.length:=oM;have hb1:=SlA.based hm2 oM;have hgj:m[((j:Nat):Int).toNat]?=some m[j]:=gE hjl;have htj:m.take (j+1)=m.take j++[m[j]]:=tS hjl;have hxm:m[j]∈m:=gM hjl;generalize m[j]=x at *;obtain ⟨x1,x2⟩:=x;have hxh:(highT m x1).isSome=true:=by rw[show highT m x1=some x2 from highT_of hNd hxm]; rfl
    refine kP (tN (sQ (bK (SC.sR (lU (iA uT31 zT44 I I hb1 oM sL) (lK (eA iT44 zT44 I (SlA.rd (SlA.mono hm2 hle3)) hgj) (SL.bx (aL zeroValue44) fun b12=>?_)))))));refine SL.O2 (sK 0 zT44 I I I I I sB) ?_;refine SL.nT (SC.sR (lM I (lU (iB uT44 zT3 I I dC dC) (lK (qL (v:=vi x1) iT3 I (cO 0 I I)) (lW (SO.call call57 I (aroundM_spec E g3 _ bf mo mh ml _ A out hi m x1 (hmo.mono hle3) (hS.mono hle3) hH hP hSd hxh 1 2 I I)) ?_)))));rintro _ g4 _ ⟨⟨b,rfl,hb⟩,rfl,hle4⟩;refine SL.nT ?_;refine iQ I (fun hbt=>?_) (fun hbt=>?_)
    ·have hr:ringR (adjS (sidA A)) m=true:=hring.2 ⟨(x1,x2),hxm,hb.1 hbt⟩;rw[if_pos hr];refine SC.sR (lA I (lA I (SL.nT (rE (bR (tR (tR (bR (tR (dR (s':=s) (.cons _ (.cons _ (.cons _ (.cons _ (.cons _ (.refl _)))))) ?_))))))))));exact ST.ret2 (.inl I) results53 I I ⟨hle1.trans (hle2.trans (hle3.trans hle4)),_,I,.inl ⟨by decide,I⟩⟩
    ·refine kP (bN (tN (rG (lU (aD I I oM) (lM I (nL (dR (.cons _ (.refl _)) ?_)))))));exact ST.again (j+1,g4) sB I I ⟨by dsimp only; omega,hle3.trans hle4,by
      dsimp only;rw[htj];intro y hy
      rcases List.mem_append.1 hy with hy | hy
      ·exact hno y hy
      ·simp at hy;subst hy;intro hw;have:=hb.2 hw;rw[hbt] at this;cases this⟩ (by dsimp only; omega)
   ·have hjj:m.take j=m:=tL oM;rw[hjj] at hno;have hr:¬ ringR (adjS (sidA A)) m=true:=fun h=>by
     obtain ⟨x,hx,hw⟩:=hring.1 h;exact hno x hx hw
    rw[if_neg hr];refine xI (tX (tX (bX (tN (SC.sR (lM I (lA I (lA I (SL.nT (rE (dR (s':=fdP bf (.slice pu A.length cu) mo mh ml::mp mh hi::mp ml lo::s) (.cons_cons _ (.cons_cons _ (.cons_cons _ (.cons _ (.refl _))))) ?_)))))))))));exact ST.ret2 (.inl I) results53 I I ⟨hle1.trans (hle2.trans hle3),_,I,.inr ⟨I,bf,_,mo,mh,ml,out,hi,lo,I,hu2.mono hle3,hmo.mono hle3,hS.mono hle3,hH,hL,I⟩⟩
theorem openM_code (E:World)(g:PH)(s:Own)(v mv:Value)(l:List Cl)(m:List Pr)(hv:Cells g v l)(hf:Fits l)(hm:SlA encPr g mv m)(hml:m.length<1099511627775) :
  Ctr Tryz.prog E 53 #[.agg #[v],mv] g s (fun r g' s'=>Le g g'∧s.Sublist s'∧∃ ptr,r = .tuple #[ptr,vi (mcheckR l m)]) :=
 (openM_spec E g s v mv l m hv hf hm hml).mono fun _ _ s' ⟨h1,ptr,h2,h3⟩=>⟨h1,by
  rcases h3 with ⟨_,rfl⟩ | ⟨_,_,_,_,_,_,_,_,_,_,_,_,_,_,_,rfl⟩
  ·exact .refl _
  ·exact .cons _ (.cons _ (.cons _ (.refl _))),ptr,h2⟩
theorem checkM_spec (E:World)(g:PH)(s:Own)(v mv:Value)(l:List Cl)(m:List Pr)(hv:Cells g v l)(hf:Fits l)(hm:SlA encPr g mv m)(hml:m.length<1099511627775) :
  Ctr Tryz.prog E 25 #[.agg #[v],mv] g s (fun r g' s'=>r=vi (mcheckR l m)∧s=s'∧Le g g'):=by
 refine Ctr.of (args:=[.agg #[v],mv]) func25 I ntmps25 (bE I) ?_;refine SC.sR (SL.bx (bO I) fun b2=>?_);refine lA I (SL.nT (SC.sR (lK (qV 0 iT29 zT29 I I I) (lM I (lW (SO.call call53 I (openM_code E g _ _ _ l m hv hf hm hml)) ?_)))));rintro _ g1 _ ⟨hle1,hsub,ptr,rfl⟩;refine SL.drop hsub (lM I (lU (xT I I) (lU (xT I I) (lA I (lA I (SL.nT (SC.sR (lM I (lA I (SL.nT (rE (dR (s':=s) (.cons _ (.refl _)) ?_))))))))))));exact ST.ret1 (.inl I) results25 I ⟨I,I,hle1⟩
theorem rt_check {l:List Cl}(h:Rt (canonC l)):checkC l=(0,0):=by
 have hf:=h.few;rw[canonC_length] at hf;exact check_ok hf h.pos h.asc (fun x hx=>(h.form x hx).ok) h.around
theorem complex_right (sp:Nat)(L:List Int)(G:List Nat)(bs:Nat):(checkC (complexC sp L G bs)).2=0:=by rw[rt_check (complex_good sp L G bs).1]
section
variable {l:List Cl}(hl:(checkC l).2=0)
include hl
theorem Vd.check {T:List Pr}(hT:Vd l T):mcheckR l T=0:=by
 have h1:(List.range T.length).any (pairBad l T)=false:=List.any_eq_false.2 fun k hk=>by
  have hk:=List.mem_range.1 hk;have h2:=hT.bad hl (0,0) hk;have h3:pairBad l (T++[(0,0)]) k=pairBad l T k:=by
   unfold pairBad;rw[List.take_append_of_le_length oM,List.getD_eq_getElem?_getD,List.getD_eq_getElem?_getD,List.getElem?_append_left hk]
  rw[← h3,h2];decide
 have hnd:T.Nodup:=by
  have h2:=(List.nodup_append.1 hT.once).1;exact List.Pairwise.of_map Prod.fst (fun a b hab hne=>hab (by rw[hne])) h2
 have h2:ringR (adjS (sidC l)) T=false:=by
  rw[Bool.eq_false_iff];intro h;exact hT.free ((ringR_iff hnd).1 h)
 unfold mcheckR;rw[if_neg (by rw[hl]; decide),h1,adjR_eq hl,h2];rfl
theorem keep_vd (m:List Pr):Vd l (keepR l m):=(fold_take hl m (Vd.nil l)).2
theorem extend_vd (m:List Pr):Vd l (extendR l m):=by
 unfold extendR;rw[if_pos hl];exact (fold_take hl _ (keep_vd hl m)).2
omit hl in
theorem fold_prefix:∀ (m T:List Pr),T <+: m.foldl (takeR l) T
 | [],T=>List.prefix_refl T
 | p::m,T=>by
  rw[List.foldl_cons];refine List.IsPrefix.trans ?_ (fold_prefix m _);unfold takeR;split
  ·exact List.prefix_append _ _
  ·exact List.prefix_refl _
theorem keep_prefix (m:List Pr):keepR l m <+: extendR l m:=by
 unfold extendR;rw[if_pos hl];exact fold_prefix _ _
theorem snoc_not {T x:List Pr}(hT:Vd l T)(hx:Vd l x)(hs:∀ q∈T,q∈x)(p:Pr)(h:mcheckR l (T++[p])≠0):mcheckR l (x++[p])≠0:=by
 rw[mcheck_snoc hl hT p] at h;rw[mcheck_snoc hl hx p];have hu:∀ id,usedR T id=true→usedR x id=true:=fun id hid=>by
  rw[used_iff,List.mem_append,List.mem_map,List.mem_map] at hid ⊢
  rcases hid with ⟨q,hq,e⟩ | ⟨q,hq,e⟩
  ·exact .inl ⟨q,hs q hq,e⟩
  ·exact .inr ⟨q,hs q hq,e⟩
 by_cases hb:(usedR x p.1||usedR x p.2 || !(sidC l p.2).contains p.1)=true
 ·rw[if_pos hb]; decide
 ·rw[if_neg hb];have hb':(usedR x p.1||usedR x p.2 || !(sidC l p.2).contains p.1)=false:=by simpa using hb
  rw[Bool.or_eq_false_iff,Bool.or_eq_false_iff] at hb';obtain ⟨⟨h1,h2⟩,h3⟩:=hb';have g1:usedR T p.1=false:=by
   rw[Bool.eq_false_iff]; intro hc; rw[hu _ hc] at h1; cases h1
  have g2:usedR T p.2=false:=by
   rw[Bool.eq_false_iff]; intro hc; rw[hu _ hc] at h2; cases h2
  rw[g1,g2,h3,Bool.false_or,Bool.false_or,if_neg dC] at h;have hr:ringR (adjS (sidC l)) (T++[p])=true:=by
   refine Classical.byContradiction fun hc=>h ?_;rw[if_neg hc]
  have hnd:∀ {y:List Pr},Vd l y→usedR y p.1=false→(y++[p]).Nodup:=fun {y} hy hp=>by
   rw[List.nodup_append];refine⟨List.Pairwise.of_map Prod.fst (fun a b hab hne=>hab (by rw[hne])) (List.nodup_append.1 hy.once).1,by simp,fun a ha b hb e=>?_⟩;simp at hb;subst hb;subst e;rw[used_iff.2 (List.mem_append_left _ (List.mem_map.2 ⟨a,ha,rfl⟩))] at hp;cases hp
  obtain ⟨L,hL,hsub⟩:=(ringR_iff (hnd hT g1)).1 hr;have hr2:ringR (adjS (sidC l)) (x++[p])=true:=(ringR_iff (hnd hx h1)).2 ⟨L,hL,fun q hq=>by
   rcases List.mem_append.1 (hsub q hq) with h5 | h5
   ·exact List.mem_append_left _ (hs q h5)
   ·exact List.mem_append_right _ h5⟩
  rw[if_pos hr2];decide
theorem in_not {x:List Pr}(hx:Vd l x){p:Pr}(hp:p∈x):mcheckR l (x++[p])≠0:=by
 rw[mcheck_snoc hl hx p,used_iff.2 (List.mem_append_left _ (List.mem_map.2 ⟨p,hp,rfl⟩)),Bool.true_or,Bool.true_or,if_pos rfl];decide
theorem extend_full (m:List Pr){p:Pr}(hp:p∈pairsR l):mcheckR l (extendR l m++[p])≠0:=by
 obtain ⟨A,B,hAB⟩:=List.append_of_mem hp;have hx:=extend_vd hl m;have he:extendR l m=B.foldl (takeR l) (takeR l (A.foldl (takeR l) (keepR l m)) p):=by
  unfold extendR;rw[if_pos hl,hAB,List.foldl_append,List.foldl_cons]
 have hT:=(fold_take hl A (keep_vd hl m)).2;generalize A.foldl (takeR l) (keepR l m)=T at *;have hpre:=fold_prefix (l:=l) B (takeR l T p);rw[← he] at hpre;by_cases hc:mcheckR l (T++[p])=0
 ·have ht:takeR l T p=T++[p]:=by unfold takeR; rw[if_pos hc]
  rw[ht] at hpre;exact in_not hl hx (hpre.subset (by simp))
 ·have ht:takeR l T p=T:=by unfold takeR; rw[if_neg hc]
  rw[ht] at hpre;exact snoc_not hl hT hx (fun q hq=>hpre.subset hq) p hc
end
end Go.Proofs.YteahknngoogpaaaGreatDoor
namespace Go.Sy
open Go Go.MapKept
instance quiet_scope {Q:Exit→Act→World→Prop}[h:Quiet Q]:Quiet (Exit.noGoto Q):=⟨fun c a a' w hd hq=>h.out c a a' w hd hq⟩
section
variable {P:Program}{N:Nat}{E:World}{Q:Exit→Act→World→Prop}{f:Fr}{g:PH}{s:Own}
theorem SC.scope {c:Code}(h:SC P N E c (Exit.noGoto Q) f g s):SC P N E (.scope c) Q f g s:=fun a w ha hw=>wp_scope_straight (h a w ha hw)
theorem ST.scopeN (h:ST N E Q .normal f g s):ST N E (Exit.noGoto Q) .normal f g s:=h
theorem ST.scopeX {id:Nat}(h:ST N E Q (.exit id) f g s):ST N E (Exit.noGoto Q) (.exit id) f g s:=h
theorem ST.scopeR (h:ST N E Q .ret f g s):ST N E (Exit.noGoto Q) .ret f g s:=h
end
theorem mdel_mput {k:Int}{v:Value}:∀ {l:List (Int×Value)},mget l k=none→mdel (mput l k v) k=l
 | [],_=>by simp[mput,mdel]
 | (a,u)::r,h=>by
  rw[mget_cons] at h;by_cases e:k=a
  ·rw[if_pos e] at h;cases h
  ·rw[if_neg e] at h;simp only[mput,if_neg e,mdel];rw[mdel_mput h]
end Go.Sy
namespace Go.Proofs.YteahknngoogpaaaGreatDoor
open _root_.Go.Proofs.Tryz _root_.Go.Proofs.YteahknngoogpaaaGreatDoor.Tryz
open Go Go.Sy Go.Pl Go.Proofs
section
variable {l:List Cl}(hl:(checkC l).2=0)
theorem Vd.part {T:List Pr}{p:List Pr}(hT:Vd l (T++p)):Vd l T :=
 ⟨by
  have h:=hT.once;rw[List.map_append,List.map_append] at h;exact h.sublist ((List.sublist_append_left _ _).append (List.sublist_append_left _ _)),fun q hq=>hT.side q (List.mem_append_left _ hq),fun ⟨L,hL,hs⟩=>hT.free ⟨L,hL,fun x hx=>List.mem_append_left _ (hs x hx)⟩⟩
include hl
theorem keep_all:∀ (p T:List Pr),Vd l (T++p)→p.foldl (takeR l) T=T++p
 | [],T,_=>by simp
 | x::p,T,h=>by
  have h2:Vd l (T++[x]++p):=by rw[List.append_assoc]; exact h
  rw[List.foldl_cons];have h3:takeR l T x=T++[x]:=by
   unfold takeR;rw[if_pos (h2.part.check hl)]
  rw[h3,keep_all p _ h2,List.append_assoc];rfl
theorem keep_same {x:List Pr}(h:Vd l x):keepR l x=x:=by
 have:=keep_all hl x [] (by simpa using h);simpa [keepR] using this
omit hl in
theorem take_stuck {x:List Pr}:∀ (ps:List Pr),(∀ p∈ps,mcheckR l (x++[p])≠0)→ps.foldl (takeR l) x=x
 | [],_=>rfl
 | p::ps,h=>by
  rw[List.foldl_cons];have h1:takeR l x p=x:=by unfold takeR; rw[if_neg (h p (by simp))]
  rw[h1];exact take_stuck ps fun q hq=>h q (by simp[hq])
theorem extend_same (m:List Pr):extendR l (extendR l m)=extendR l m:=by
 have hx:=extend_vd hl m;have h1:=keep_same hl hx;have h2:=take_stuck (x:=extendR l m) (pairsR l) fun p hp=>extend_full hl m hp;generalize extendR l m=x at *;unfold extendR;rw[if_pos hl,h1,h2]
theorem extend_nil:extendR l []=(pairsR l).foldl (takeR l) []:=by
 unfold extendR;rw[if_pos hl];rfl
theorem take_bad {T:List Pr}(hT:Vd l T){a h:Int}(hb:(usedR T a||usedR T h||decide (sgnP l a h=0))=true):takeR l T (a,h)=T:=by
 unfold takeR;rw[mcheck_snoc hl hT];have h1:(usedR T a||usedR T h || !(sidC l h).contains a)=true:=by
  rw[Bool.or_eq_true] at hb ⊢
  rcases hb with hb | hb
  ·exact .inl hb
  ·refine .inr ?_;rw[Bool.not_eq_true',Bool.eq_false_iff];intro h2;rw[List.contains_iff_mem] at h2;exact (sgn_side hl a h).2 h2 (of_decide_eq_true hb)
 dsimp only;rw[if_pos h1];rfl
theorem take_way {T:List Pr}(hT:Vd l T){a h:Int}(hb:(usedR T a||usedR T h||decide (sgnP l a h=0))=false) :
  (WayM (sidC l) (T++[(a,h)]) a a→takeR l T (a,h)=T)∧(¬ WayM (sidC l) (T++[(a,h)]) a a→takeR l T (a,h)=T++[(a,h)]):=by
 rw[Bool.or_eq_false_iff,Bool.or_eq_false_iff,decide_eq_false_iff_not] at hb;obtain ⟨⟨h1,h2⟩,h3⟩:=hb;have h4:=(sgn_side hl a h).1 h3;have h5:(usedR T a||usedR T h || !(sidC l h).contains a)=false:=by
  rw[h1,h2,List.contains_iff_mem.2 h4];rfl
 have hnd:((T++[(a,h)]).map Prod.fst).Nodup:=by
  rw[List.map_append,List.nodup_append];refine⟨(List.nodup_append.1 hT.once).1,by simp,fun x hx y hy e=>?_⟩;simp at hy;subst hy;subst e;exact usedR_fst h1 hx
 have hT0:¬ ringR (adjS (sidC l)) T=true:=fun hr=>hT.free ((ringR_iff (nodup_of_fst (List.nodup_append.1 hT.once).1)).1 hr);have hring:ringR (adjS (sidC l)) (T++[(a,h)])=true↔WayM (sidC l) (T++[(a,h)]) a a:=by
  rw[ringR_iff (nodup_of_fst hnd),cyc_iff hT.free];exact⟨fun hp=>pth_way hnd hp (by simp),fun hw=>way_pth hnd hw h h (by simp) (by simp)⟩
 unfold takeR;rw[mcheck_snoc hl hT];dsimp only;have h6:(if (usedR T a||usedR T h || !(sidC l h).contains a)=true then (42:Int) else if ringR (adjS (sidC l)) (T++[(a,h)])=true then 43 else 0)=if ringR (adjS (sidC l)) (T++[(a,h)])=true then 43 else 0:=if_neg (by rw[h5]; exact Bool.false_ne_true)
 rw[h6];constructor
 ·intro hw;rw[if_pos (hring.2 hw)];rfl
 ·intro hw;rw[if_neg (fun hr=>hw (hring.1 hr))];rfl
theorem take_done {T:List Pr}(hT:Vd l T){a:Int}(hu:usedR T a=true):∀ (hs:List Int),(hs.map fun h=>(a,h)).foldl (takeR l) T=T
 | []=>rfl
 | h::hs=>by
  rw[List.map_cons,List.foldl_cons,take_bad hl hT (by rw[hu]; rfl)];exact take_done hT hu hs
theorem take_vd {T:List Pr}(hT:Vd l T)(p:Pr):Vd l (takeR l T p):=(take_eq hl hT p).2
end
theorem turn_sh (C:List Cl)(n:Nat):ShL C (turnC C n):=by
 refine⟨rotL C n,rotL_perm C n,?_⟩;unfold turnC;have h:∀ m:List Cl,All2 ShC m (m.map (turnCell n)):=by
  intro m;induction m with
  | nil=>trivial
  | cons c m ih=>exact⟨⟨rfl,rfl,(rotL_perm _ _).symm⟩,ih⟩
 exact h _
theorem right_dif {C:List Cl}(hl:(checkC C).2=0):Dif C:=by
 obtain ⟨h1,h2⟩:=rt_nodup hl;have hp:(canonC C).Perm (C.map normC):=by rw[canonC_map]; exact sortPerm _
 refine⟨?_,fun c hc=>?_⟩
 ·have h3:=(hp.map Cl.id).nodup_iff.1 h1;rw[List.map_map] at h3;exact h3
 ·have h3:=h2 (normC c) (hp.mem_iff.2 (List.mem_map.2 ⟨c,hc,rfl⟩));have h4:(normC c).sides.Perm c.sides:=sortPerm _;exact (h4.map Side.cell).nodup_iff.1 h3
theorem turn_canon {C:List Cl}(hl:(checkC C).2=0)(n:Nat):canonC (turnC C n)=canonC C:=(canonC_sh (turn_sh C n) (right_dif hl)).symm
theorem turn_right {C:List Cl}(hl:(checkC C).2=0)(n:Nat):(checkC (turnC C n)).2=0:=by
 have h:=rt_of hl;rw[← turn_canon hl n] at h;rw[rt_check h]
theorem fold_takes {C D:List Cl}(hC:(checkC C).2=0)(hD:(checkC D).2=0)(he:canonC C=canonC D)(m:List Pr){T:List Pr}(h1:Vd C T)(h2:Vd D T):m.foldl (takeR C) T=m.foldl (takeR D) T:=by
 rw[(fold_take hC m h1).1,(fold_take hD m h2).1,← sidA_eq hC,← sidA_eq hD,he]
theorem pairs_same {C D:List Cl}(hC:(checkC C).2=0)(hD:(checkC D).2=0)(he:canonC C=canonC D):pairsR C=pairsR D:=by
 unfold pairsR aboveC;rw[tabC_strict (rt_of hC).asc,tabC_strict (rt_of hD).asc,he]
theorem extend_canon {C D:List Cl}(hC:(checkC C).2=0)(hD:(checkC D).2=0)(he:canonC C=canonC D)(m:List Pr):extendR C m=extendR D m:=by
 have h1:keepR C m=keepR D m:=fold_takes hC hD he m (Vd.nil C) (Vd.nil D);unfold extendR;rw[if_pos hC,if_pos hD,pairs_same hC hD he,← h1];exact fold_takes hC hD he _ (keep_vd hC m) (h1 ▸ keep_vd hD m)
theorem extend_turn {C:List Cl}(hl:(checkC C).2=0)(n:Nat)(m:List Pr):extendR (turnC C n) m=extendR C m:=extend_canon (turn_right hl n) hl (turn_canon hl n) m
set_option maxRecDepth 100000
set_option maxHeartbeats 4000000
theorem openM_ok (E:World)(g:PH)(s:Own)(v mv:Value)(l:List Cl)(m:List Pr)(hv:Cells g v l)(hf:Fits l)(hm:SlA encPr g mv m)(hml:m.length<1099511627775)(h0:mcheckR l m=0) :
  Ctr Tryz.prog E 53 #[.agg #[v],mv] g s (fun r g' s'=>Le g g'∧∃ bf u mo mh ml out hi lo,r = .tuple #[pp bf 0,vi 0]∧Cells g' u (canonC l)∧Mp g' mo out∧SdM g' out (canonC l)∧HiM hi m∧LoM lo m∧s'=fdP bf u mo mh ml::mp mh hi::mp ml lo::s) :=
 (openM_spec E g s v mv l m hv hf hm hml).mono fun _ _ s' ⟨h1,ptr,h2,h3⟩=>by
  rcases h3 with ⟨h,_⟩ | ⟨_,bf,u,mo,mh,ml,out,hi,lo,rfl,k1,k2,k3,k4,k5,k6⟩
  ·exact absurd h0 h
  ·rw[h0] at h2;exact⟨h1,bf,u,mo,mh,ml,out,hi,lo,h2,k1,k2,k3,k4,k5,k6⟩
theorem above_canon {l:List Cl}(hl:(checkC l).2=0)(id:Int):aboveC (canonC l) id=aboveC l id:=by
 have h1:tabC l=canonC l:=tabC_strict (rt_of hl).asc;have h2:tabC (canonC l)=canonC (canonC l):=tabC_strict (by rw[canonC_idem]; exact (rt_of hl).asc);unfold aboveC;rw[h1,h2,canonC_idem]
def matchTo (l:List Cl)(k:Nat):List Pr:=(pairsTo l (canonC l) k).foldl (takeR l) []
def matchIn (l:List Cl)(T:List Pr)(id:Int)(j:Nat):List Pr:=(((aboveC l id).take j).map fun h=>(id,h)).foldl (takeR l) T
section
variable {l:List Cl}(hl:(checkC l).2=0)
include hl
theorem matchTo_vd (k:Nat):Vd l (matchTo l k):=(fold_take hl _ (Vd.nil l)).2
theorem matchIn_vd {T:List Pr}(hT:Vd l T)(id:Int)(j:Nat):Vd l (matchIn l T id j):=(fold_take hl _ hT).2
omit hl in
theorem matchTo_succ {k:Nat}(hk:k<(canonC l).length):matchTo l (k+1)=matchIn l (matchTo l k) (canonC l)[k].id (aboveC l (canonC l)[k].id).length:=by
 unfold matchTo matchIn pairsTo;rw[tS hk,List.flatMap_append,List.foldl_append,List.flatMap_cons,List.flatMap_nil,List.append_nil,List.take_length]
omit hl in
theorem matchIn_succ {T:List Pr}{id:Int}{j:Nat}(hj:j<(aboveC l id).length):matchIn l T id (j+1)=takeR l (matchIn l T id j) (id,(aboveC l id)[j]):=by
 unfold matchIn;rw[tS hj,List.map_append,List.foldl_append];rfl
theorem matchIn_done {T:List Pr}(hT:Vd l T){id:Int}{j:Nat}(hj:j≤(aboveC l id).length)(hu:usedR (matchIn l T id j) id=true):matchIn l T id (aboveC l id).length=matchIn l T id j:=by
 have h1:=take_done hl (matchIn_vd hl hT id j) hu ((aboveC l id).drop j);have h2:matchIn l T id (aboveC l id).length=(((aboveC l id).drop j).map fun h=>(id,h)).foldl (takeR l) (matchIn l T id j):=by
  unfold matchIn;rw[← List.foldl_append,← List.map_append,List.take_append_drop,List.take_length]
 rw[h2,h1]
theorem match_all:matchTo l (canonC l).length=extendR l []:=by
 rw[extend_nil hl];unfold matchTo pairsTo pairsR;rw[List.take_length,tabC_strict (rt_of hl).asc]
theorem Vd.pos {T:List Pr}(hT:Vd l T):PosT T:=fun q hq=>side_pos hl (hT.side q hq)
omit hl in
theorem Vd.fst {T:List Pr}(hT:Vd l T):(T.map Prod.fst).Nodup:=(List.nodup_append.1 hT.once).1
omit hl in
theorem matchIn_len (T:List Pr)(id:Int)(j:Nat):(matchIn l T id j).length≤T.length+(aboveC l id).length:=by
 have:=foldR_len l (((aboveC l id).take j).map fun h=>(id,h)) T;unfold matchIn;rw[List.length_map,List.length_take] at this;omega
omit hl in
theorem matchTo_len (k:Nat):(matchTo l k).length≤(canonC l).length * (tabC l).length:=by
 have h1:=foldR_len l (pairsTo l (canonC l) k) [];have h2:=pairsTo_len l ((canonC l).take k);have h3:((canonC l).take k).length * (tabC l).length≤(canonC l).length * (tabC l).length:=Nat.mul_le_mul_right _ (by rw[List.length_take]; omega);unfold matchTo;unfold pairsTo at h1 ⊢;simp only[List.length_nil,Nat.zero_add] at h1;omega
end
theorem matchM_spec (E:World)(g:PH)(s:Own)(v:Value)(l:List Cl)(hv:Cells g v l)(hf:Fits l)(hl:(checkC l).2=0)(hlen:l.length≤100000) :
  Ctr Tryz.prog E 27 #[.agg #[v]] g s (fun r g' s'=>s=s'∧Le g g'∧SlA encPr g' r (extendR l [])):=by
 obtain ⟨p,c,rfl⟩:=hv.form;have hAf:=canonC_fits hf;have hsA:=sidA_eq hl;have hm0:mcheckR l []=0:=(Vd.nil l).check hl;have hcl:(canonC l).length=l.length:=canonC_length l;have htl:(tabC l).length=l.length:=by rw[tabC_strict (rt_of hl).asc,hcl]
 have hml:∀ k,(matchTo l k).length≤10000000000:=fun k=>by
  have h1:=matchTo_len (l:=l) k;rw[hcl,htl] at h1;have h2:=Nat.mul_le_mul hlen hlen;omega
 have hab:∀ id,(aboveC l id).length≤100000:=fun id=>by
  have h1:=above_len l id;omega
 have hsg:∀ low high:Int,(((findT (canonC l) high).getD zeroC).sides.find? fun s=>decide (s.cell=low)).elim 0 Side.sign=sgnP l low high:=fun low high=>by
  have ht:tabC l=canonC l:=tabC_strict (rt_of hl).asc;unfold sgnP findC findT;rw[ht]
 have hres:=match_all hl;refine Ctr.of (args:=[.agg #[.slice p l.length c]]) func27 I ntmps27 (bE I) ?_;refine SC.sR (SL.bx (bO I) fun b1=>?_);refine lA I (SL.nT (SC.scope (SC.sR (lK (qV 0 iT29 zT29 I I I) (lW (SO.call call53 I (openM_ok E g _ _ _ l [] hv hf (Sl.nil _ _) dC hm0)) ?_)))));rintro _ g1 _ ⟨hle1,bf,u,mo,mh,ml,out,hi0,lo0,rfl,hu,hmo,hS,hH0,hL0,rfl⟩;generalize hA:canonC l=A at *;have hu0:=hu;obtain ⟨rs,hrs,hall⟩:=hu;have hrl:=hall.length;obtain ⟨pu,cu,rfl⟩:=SlA.form hrs;refine lM I (lU (xT I I) (lU (xT I I) (lA I (lA I (SL.nT (sQ (SC.sR (lM I (lU (nQ I I) (SL.nT (cF I (kP (tN (SC.sR (lA I (SL.nT (sQ (SC.label (tN (sQ (SC.sR (lM I (lU (nC I) ?_)))))))))))))))))))))));refine lU (fA uT104 I zT29 I) (lU (fA uT29 I zT27 I) (lK (qL (v:=.slice pu rs.length cu) iT27 I (cO 0 I I)) (lU (eN uT27 I) (lM I (SL.nT (bK (SC.nilRow 44 2 ?_)))))));refine oP (ι:=Nat×PH×List (Int×Value)×List (Int×Value)×Value) (fun i=>[(3,pp bf 0),(5,i.2.2.2.2),(21,.slice pu rs.length cu),(22,vi rs.length),(23,vi i.1)]) (fun i=>i.2.1)
  (fun i=>rowA encPr 44 i.2.2.2.2 (matchTo l i.1)::fdP bf (.slice pu rs.length cu) mo mh ml::mp mh i.2.2.1::mp ml i.2.2.2.1::pt b1 (.cells #[.slice p l.length c] 29 (0,0))::s)
  (fun i=>i.1≤rs.length∧Le g1 i.2.1∧HiM i.2.2.1 (matchTo l i.1)∧LoM i.2.2.2.1 (matchTo l i.1)) (fun i=>rs.length - i.1) (0,g1,hi0,lo0,.slice none 0 0)
  sB rfl rfl ⟨Nat.zero_le _,Le.refl _,hH0,hL0⟩ ?_
 rintro ⟨k,g2,hi,lo,w⟩ ⟨hk,hle2,hH,hL⟩;dsimp only at hk hle2 hH hL ⊢;refine SC.sR (lU (lS I I) (SL.nT (sQ ?_)));refine iP I (fun hlt=>?_) (fun hlt=>?_)
 ·have hkr:k<rs.length:=oM;have hkl:k<A.length:=oM;have hu2:=hu0.mono hle2;have hmo2:=hmo.mono hle2;have hS2:=hS.mono hle2;have hb1:=SlA.based hrs oM;have hcr:=CellR.mono hle2 (hall.get (gE hkl) (gE hkr));have hgx:rs[((k:Nat):Int).toNat]?=some rs[k]:=gE hkr;have hsucc:matchTo l (k+1)=matchIn l (matchTo l k) A[k].id (aboveC l A[k].id).length:=by subst hA; exact matchTo_succ hkl
  have hTv:=matchTo_vd hl k;have hTl:=hml k;generalize rs[k]=x at *;generalize A[k]=cx at *;obtain ⟨xi,xd,xp,xn,xc⟩:=x;obtain ⟨e1,e2,hsl⟩:=hcr;dsimp only at e1 e2 hsl;subst e1 e2;generalize hT1:matchTo l (k+1)=T1 at *;generalize matchTo l k=T at *;have hbl:=hab cx.id;have hac:aboveC A cx.id=aboveC l cx.id:=by rw[← hA]; exact above_canon hl cx.id
  refine kP (tN (sQ (bK (SC.sR (lU (iA uT27 zT54 I I hb1 oM (show (k:Int)<((rs.length:Nat):Int) by omega)) ?_)))));refine lK (eA iT54 zT54 I (SlA.rd (SlA.mono hrs hle2)) hgx) (SL.bx (aL zeroValue54) fun b7=>?_);refine SL.O2 (sK 0 zT54 I I I I I sB) ?_;refine SL.nT (sQ ?_);refine dW [] [(0,2),(1,2),(2,2),(3,1),(4,2),(5,1),(8,2),(6,0),(7,2)] Tryz.mixed (by kernel_rfl) ?_;refine pU rfl (mV rfl) (pU rfl (nC rfl) (pU rfl (fA uT104 rfl zT29 rfl) (pK rfl (SQ.loadOne iT29 zT29 rfl (cO (v:=.slice pu rs.length cu) 2 rfl rfl)) (pU rfl (fA uT54 rfl zT3 rfl) (pK rfl (qL (v:=vi cx.id) iT3 rfl (cO 0 rfl rfl)) (pU rfl (mV rfl) (SP.o rfl (SO.call call55 rfl (above_spec E g2 _ _ A cx.id hu2 hAf)) dC (.inr (by rintro _ g3 _ ⟨rfl,hle3,hav⟩; exact⟨by assumption,(by exact .refl _)⟩)) ?_)))))));rintro _ g3 _ ⟨rfl,hle3,hav⟩;rw[hac] at hav;obtain ⟨qa,da,rfl⟩:=SlA.form hav;refine pU I (eN uT22 I) (pN (tN (bK ?_)));have hmo3:=hmo2.mono hle3;have hS3:=hS2.mono hle3;have hTi:matchIn l T cx.id 0=T:=rfl;refine oP (ι:=Nat×PH×List (Int×Value)×List (Int×Value)×Value) (fun i=>[(3,pp bf 0),(5,i.2.2.2.2),(7,pp b7 0),(21,.slice pu rs.length cu),(22,vi rs.length),(23,vi k),(33,.slice qa (aboveC l cx.id).length da),(34,vi (aboveC l cx.id).length),(35,vi i.1)]) (fun i=>i.2.1)
   (fun i=>pt b7 (.cells #[vi cx.id,vi cx.dim,.slice xp xn xc] 54 (0,0))::rowA encPr 44 i.2.2.2.2 (matchIn l T cx.id i.1)::fdP bf (.slice pu rs.length cu) mo mh ml::mp mh i.2.2.1::mp ml i.2.2.2.1::pt b1 (.cells #[.slice p l.length c] 29 (0,0))::s)
   (fun i=>i.1≤(aboveC l cx.id).length∧Le g3 i.2.1∧HiM i.2.2.1 (matchIn l T cx.id i.1)∧LoM i.2.2.2.1 (matchIn l T cx.id i.1)) (fun i=>(aboveC l cx.id).length - i.1) (0,g3,hi,lo,w)
   sB rfl rfl ⟨Nat.zero_le _,Le.refl _,hH,hL⟩ ?_
  rintro ⟨j,g4,hj1,lj1,wj⟩ ⟨hj,hle4,hHj,hLj⟩;dsimp only at hj hle4 hHj hLj ⊢;have hJv:=matchIn_vd hl hTv cx.id j;have hJl:=matchIn_len (l:=l) T cx.id j;have hmo4:=hmo3.mono hle4;have hS4:=hS3.mono hle4;refine SC.sR (lU (lS I I) (SL.nT (sQ ?_)));refine iP I (fun hjt=>?_) (fun hjt=>?_)
  ·have hjl:j<(aboveC l cx.id).length:=oM;have hbv:=SlA.based hav oM;have hgj:(aboveC l cx.id)[((j:Nat):Int).toNat]?=some (aboveC l cx.id)[j]:=gE hjl;have hjs:=matchIn_succ (T:=T) hjl;have hdone:=matchIn_done hl hTv (id:=cx.id) (j:=j+1) oM;generalize (aboveC l cx.id)[j]=h at *;generalize hU1:matchIn l T cx.id (j+1)=U1 at *;generalize matchIn l T cx.id j=U at *;generalize aboveC l cx.id=B at *;have hJp:=hJv.pos hl;refine kP (tN (sQ (bK (SC.sR (lU (iA uT22 zT3 I I hbv oM sL) (lK (eB iT3 I (SlA.rd (SlA.mono hav hle4)) hgj I) (lA I (SL.nT (sQ (SC.sR (lM I (lU (fA uT54 I zT3 I) (lK (qL (v:=vi cx.id) iT3 I (cO 0 I I)) (lM I (lW (SO.call call56 I (fitsM_spec E g4 _ bf mo mh ml _ A out hj1 lj1 U cx.id h 2 3 4 I I I hmo4 hS4 hHj hLj hJp)) ?_)))))))))))))));rintro _ _ _ ⟨rfl,rfl,rfl⟩;rw[hsg];refine lU (SU.not I) (SL.nT ?_);refine iQ I (fun hb=>?_) (fun hb=>?_)
   ·rw[Bool.not_not] at hb;rw[take_bad hl hJv hb] at hjs;subst hjs;refine xI (tX (bX (tN (rG (lU (aD I I oM) (lM I (nL ?_)))))));exact ST.again (j+1,g4,hj1,lj1,wj) sB I (by dsimp only; rw[hU1]) ⟨by dsimp only; omega,hle4,by dsimp only; rw[hU1]; exact hHj,by dsimp only; rw[hU1]; exact hLj⟩ (by dsimp only; omega)
   ·rw[Bool.not_not] at hb;obtain ⟨hw1,hw2⟩:=take_way hl hJv hb;have hb0:=hb;rw[Bool.or_eq_false_iff,Bool.or_eq_false_iff,decide_eq_false_iff_not] at hb;obtain ⟨⟨hu1,hu2'⟩,hs0⟩:=hb;have hsd:cx.id∈sidC l h:=(sgn_side hl _ _).1 hs0;have hHn:=hHj.snoc (p:=(cx.id,h)) hu1;have hLn:=hLj.snoc (p:=(cx.id,h)) hu2';have hfn:((U++[(cx.id,h)]).map Prod.fst).Nodup:=by
     rw[List.map_append,List.nodup_append];refine⟨hJv.fst,by simp,fun a ha b hb' e=>?_⟩;simp at hb';subst hb';subst e;exact usedR_fst hu1 ha
    have hxh:(highT (U++[(cx.id,h)]) cx.id).isSome=true:=by
     rw[show highT (U++[(cx.id,h)]) cx.id=some h from highT_of hfn (y:=(cx.id,h)) (by simp)];rfl
    have hPn:PosT (U++[(cx.id,h)]):=by
     intro y hy
     rcases List.mem_append.1 hy with hy | hy
     ·exact hJp y hy
     ·simp at hy; subst hy; exact side_pos hl hsd
    have hSn:∀ q∈U++[(cx.id,h)],q.1∈sidA A q.2:=by
     intro y hy;rw[hsA]
     rcases List.mem_append.1 hy with hy | hy
     ·exact hJv.side y hy
     ·simp at hy; subst hy; exact hsd
    have hg1:mget hj1 cx.id=none:=by
     rw[hHj,show highT U cx.id=none from ?_]
     ·rfl
     ·have:=high_any U cx.id;unfold usedR at hu1;rw[Bool.or_eq_false_iff] at hu1;rw[hu1.1] at this;simpa using this.symm
    have hg2:mget lj1 h=none:=by
     rw[hLj,show lowT U h=none from ?_]
     ·rfl
     ·have:=low_any U h;unfold usedR at hu2';rw[Bool.or_eq_false_iff] at hu2';rw[hu2'.2] at this;simpa using this.symm
    dsimp only at hHn hLn;refine kP (tN (sQ ?_));refine SC.drawT 3 [] [(0,2),(1,2),(2,2),(3,1),(4,2),(5,1),(6,2),(7,2),(8,2),(9,1),(10,2),(11,2),(12,2),(13,1),(14,0),(15,2),(16,0),(17,0),(18,2),(19,0)] Tryz.mixed (by kernel_rfl) ?_;refine pU rfl (mV rfl) (pU rfl (nC rfl) (pU rfl (fA uT104 rfl zT70 rfl) (pK rfl (qL (v:=.map (some mh)) isAgg70 rfl (cO 2 rfl rfl)) (pU rfl (fA uT54 rfl zT3 rfl) (pK rfl (qL (v:=vi cx.id) iT3 rfl (cO 0 rfl rfl)) (pU rfl (mV rfl) (pU rfl (nC rfl) (pU rfl (fA uT104 rfl zT70 rfl) (pK rfl (qL (v:=.map (some ml)) isAgg70 rfl (cO 2 rfl rfl)) (pU rfl (mV rfl) (pU rfl (mV rfl) (pU rfl (fA uT54 rfl zT3 rfl) (pK rfl (qL (v:=vi cx.id) iT3 rfl (cO 0 rfl rfl)) (SP.o rfl (SO.mapEntry 3 mty70m rfl rfl rfl) dC (.inr (by rintro _ _ _ ⟨st1,j1,l1,rfl,rfl,rfl,hk1,hp1⟩; exact⟨by exact Le.refl _,(by exact take_set_sub _ _ _ _)⟩)) ?_))))))))))))));rintro _ _ _ ⟨st1,j1,l1,rfl,rfl,rfl,hk1,hp1⟩;refine pU rfl (xT rfl rfl) (SP.on rfl (SO.entryStore 3 rfl rfl rfl rfl hk1) (.inr (by rintro _ _ _ ⟨rfl,rfl⟩; exact⟨by exact Le.refl _,(by exact .cons_cons _ (.cons_cons _ (.cons_cons _ (List.nil_sublist _))))⟩)) ?_);rintro _ _ _ ⟨rfl,rfl⟩;rw[← hp1];refine SP.o rfl (SO.mapEntry 4 mty70m rfl rfl rfl) dC (.inr (by rintro _ _ _ ⟨st2,j2,l2,rfl,rfl,rfl,hk2,hp2⟩; exact⟨by exact Le.refl _,(by exact .cons_cons _ (.cons_cons _ (.cons_cons _ (List.nil_sublist _))))⟩)) ?_;rintro _ _ _ ⟨st2,j2,l2,rfl,rfl,rfl,hk2,hp2⟩;refine pU rfl (xT rfl rfl) (SP.on rfl (SO.entryStore 4 rfl rfl rfl rfl hk2) (.inr (by rintro _ _ _ ⟨rfl,rfl⟩; exact⟨by exact Le.refl _,(by exact .cons_cons _ (.cons_cons _ (.cons_cons _ (List.nil_sublist _))))⟩)) ?_);rintro _ _ _ ⟨rfl,rfl⟩;rw[← hp2];refine pN (tN (sQ (SC.sR (lM I (lU (fA uT54 I zT3 I) (lK (qL (v:=vi cx.id) iT3 I (cO 0 I I)) (lW (SO.call call57 I (aroundM_spec E g4 _ bf mo mh ml _ A out _ (U++[(cx.id,h)]) cx.id hmo4 hS4 hHn hPn hSn hxh 2 3 I I)) ?_)))))));rintro _ g5 _ ⟨⟨b,rfl,hbw⟩,rfl,hle5⟩;rw[hsA] at hbw;refine lU (SU.not I) (SL.nT ?_);refine iQ I (fun hbt=>?_) (fun hbt=>?_)
    ·have hno:¬ WayM (sidC l) (U++[(cx.id,h)]) cx.id cx.id:=fun hw=>by
      rw[hbw.2 hw] at hbt;cases hbt
     have hU1:U1=U++[(cx.id,h)]:=by rw[hjs,hw2 hno]
     subst hU1;have hus:usedR (U++[(cx.id,h)]) cx.id=true:=used_iff.2 (List.mem_append_left _ (List.mem_map.2 ⟨(cx.id,h),by simp,rfl⟩));rw[hdone hus] at hsucc;subst hsucc;refine SC.sR (lM I (lU (fA uT54 I zT3 I) (lK (qL (v:=vi cx.id) iT3 I (cO 0 I I)) (lM I (lU (SU.build I (build44 _ _)) (lW (SO.buildSlice sty31 I I I (szs_mk ⟨I,trivial⟩) dC) ?_))))));rintro _ _ _ ⟨b73,rfl,rfl,rfl⟩;refine lW (aP (e:=encPr) 1 (cx.id,h) sty31 I I I I I oM oM) ?_;rintro v74 _ _ ⟨rfl,rfl⟩;refine lA I (SL.nT (xI (tX (ST.blockO dC (tX (tX (ST.blockO dC (bX (tN (rG (lU (aD I I oM) (lM I (nL (dR (.cons _ (.refl _)) ?_))))))))))))));exact ST.again (k+1,g5,_,_,v74) sB rfl (by dsimp only; rw[hT1]; rfl) ⟨by dsimp only; omega,hle2.trans (hle3.trans (hle4.trans hle5)),by dsimp only; rw[hT1]; exact hHn,by dsimp only; rw[hT1]; exact hLn⟩ (by dsimp only; omega)
    ·have hw:WayM (sidC l) (U++[(cx.id,h)]) cx.id cx.id:=hbw.1 (by simpa using hbt);rw[hw1 hw] at hjs;subst hjs;refine kP (tN (sQ ?_));refine dW [6] [(0,2),(1,2),(2,2),(3,1),(4,2),(5,1),(6,0)] Tryz.mixed (by kernel_rfl) ?_;refine pU I (mV I) (pU I (nC I) (pU I (fA uT104 I zT70 I) (pK I (qL (v:=.map (some mh)) isAgg70 I (cO 2 I I)) (pU I (fA uT54 I zT3 I) (pK I (qL (v:=vi cx.id) iT3 I (cO 0 I I)) (SP.on I (SO.delete 3 mty70m I I I) (.inl dC) ?_))))));rintro _ _ _ ⟨rfl,rfl⟩;rw[mdel_mput hg1];refine pN (tN (rG (lM I (lU (nC I) (lU (fA uT104 I zT70 I) (lK (qL (v:=.map (some ml)) isAgg70 I (cO 2 I I)) (lM I (lO (SO.delete 4 mty70m I I I) ?_))))))));rintro _ _ _ ⟨rfl,rfl⟩;rw[mdel_mput hg2];refine nL (bN (tN (rG (lU (aD I I oM) (lM I (nL ?_))))));exact ST.again (j+1,g5,hj1,lj1,wj) sB rfl (by dsimp only; rw[hU1]; rfl) ⟨by dsimp only; omega,hle4.trans hle5,by dsimp only; rw[hU1]; exact hHj,by dsimp only; rw[hU1]; exact hLj⟩ (by dsimp only; omega)
  ·have hjj:j=(aboveC l cx.id).length:=oM;subst hjj;rw[← hsucc] at hHj hLj;rw[← hsucc];refine xI (tX (tX (bX (bN (tN (rG (lU (aD I I oM) (lM I (nL (dR (.cons _ (.refl _)) ?_))))))))));exact ST.again (k+1,g4,hj1,lj1,wj) sB I (by dsimp only; rw[hT1]) ⟨by dsimp only; omega,hle2.trans (hle3.trans hle4),by dsimp only; rw[hT1]; exact hHj,by dsimp only; rw[hT1]; exact hLj⟩ (by dsimp only; omega)
 ·have hkk:k=A.length:=oM;rw[hkk,hres];refine xI (tX (tX (bX (tN (sQ (fS fun g3 hle3 hs3=>?_))))));refine rG (lM I (lA I (SL.nT (rE (ST.scopeR (dR (s':=s) (.cons _ (.cons _ (.cons _ (.cons _ (.refl _))))) ?_))))));exact ST.ret1 (.inl I) results27 I ⟨I,hle1.trans (hle2.trans hle3),hs3⟩
theorem same_law14 (E:World)(g:PH)(s:Own)(sp bs:Nat)(vL vG:Value)(L:List Int)(G:List Nat)(vn:Value)(ns:List Int)(n:Nat)(hL:Ints g vL L)(hG:SlA encB g vG (G.map fun x:Nat=>(x:Int)))(hsp:sp<256)(hbs:bs<256)(hGb:∀ x∈G,x<256)(hn:Ints g vn ns)(hby:n<256) :
  Ctr Tryz.prog E 8 #[.agg #[.int .u8 (sp:Int),vL,vG,.int .u8 (bs:Int)],vn,.int .u8 (n:Int)] g s (fun r g' s'=>r=vb true∧s=s'∧Le g g'):=by
 obtain ⟨pL,cL,rfl⟩:=SlA.form hL;obtain ⟨pG,cG,rfl⟩:=SlA.form hG;obtain ⟨pn,cn,rfl⟩:=SlA.form hn;obtain ⟨hCf,hCl⟩:=complex_fits sp L G bs;have hrt:=complex_right sp L G bs;have hPl:=pairsR_len _ hCl;have hAl:=askedC_len (pairsR (complexC sp L G bs)) ns;have hXl:=extendR_len (complexC sp L G bs) (askedC (pairsR (complexC sp L G bs)) ns) hCl;have hNl:=extendR_len (complexC sp L G bs) [] hCl;have hTf:=turnC_fits hCf n;have hTl:=turnC_length (complexC sp L G bs) n;have e1:=keep_same hrt (extend_vd hrt (askedC (pairsR (complexC sp L G bs)) ns));have e2:=extend_same hrt (askedC (pairsR (complexC sp L G bs)) ns);have e3:=extend_turn hrt n (askedC (pairsR (complexC sp L G bs)) ns);simp only[List.length_nil] at hNl;refine Ctr.of (args:=[.agg #[.int .u8 (sp:Int),.slice pL L.length cL,.slice pG (G.map fun x:Nat=>(x:Int)).length cG,.int .u8 (bs:Int)],.slice pn ns.length cn,.int .u8 (n:Int)]) func8 I ntmps8 (bE I) ?_;refine SC.sR (SL.bx (bO I) fun b3=>?_);refine lA I (SL.nT (SC.sR (lW (SO.call call9 I (sane14 E g _)) ?_)));rintro _ g1 _ ⟨rfl,rfl,hle1⟩;refine lA I (SL.nT (SC.sR (lK (qV 0 isAgg25 sizeOf25 I I I) (lW (SO.call call10 I (shape8_spec E g1 _ sp bs _ _ L G (SlA.mono hL hle1) (SlA.mono hG hle1) hsp hbs hGb)) ?_))));rintro _ g2 _ ⟨rfl,hle2,u2,rfl,hv2⟩;generalize complexC sp L G bs=C at *;obtain ⟨q2,d2,rfl⟩:=hv2.form;refine SL.bx (aL zeroValue29) fun b8=>?_;refine SL.O2 (sK 0 zT29 I I I I I sB) ?_;refine SL.nT (sQ ?_);refine dW [] [(0,1),(1,1),(2,2),(3,0),(4,0),(5,2)] Tryz.mixed (by kernel_rfl) ?_;refine pK rfl (qV 0 iT29 zT29 rfl rfl rfl) (pK rfl (qV 0 iT29 zT29 rfl rfl rfl) (pU rfl (mV rfl) (SP.o rfl (SO.call call11 rfl (asked_spec E g2 _ _ _ C ns hv2 hCf oM (SlA.mono hn (hle1.trans hle2)) oM)) dC (.inr (by rintro v17 g3 _ ⟨rfl,hle3,hm3⟩; exact⟨by assumption,(by exact .refl _)⟩)) ?_)));rintro v17 g3 _ ⟨rfl,hle3,hm3⟩;generalize hMe:askedC (pairsR C) ns=M at *;obtain ⟨q3,d3,rfl⟩:=SlA.form hm3;have hv3:=hv2.mono hle3;refine SP.o rfl (SO.call call15 rfl (extendProg_spec E g3 _ _ _ C M hv3 hCf oM hm3 oM)) dC (.inr (by rintro v18 g4 _ ⟨rfl,hle4,hx4⟩; exact⟨by exact Le.trans (by assumption) (by assumption),(by exact .refl _)⟩)) ?_;rintro v18 g4 _ ⟨rfl,hle4,hx4⟩;have hv4:=hv3.mono hle4;obtain ⟨q4,d4,rfl⟩:=SlA.form hx4;refine pU I (aS I) (pN (tN (SC.sR (lK (qV 0 iT29 zT29 I I I) (lM I (lU (SU.eq (v':=vi (n:Int)) (SU.convert uT5 uT3 I) (congrArg vi (IntWalk.i64_in _ oM))) (lW (SO.call call23 I (turned_own E g4 _ _ C n hv4 hCf oM)) ?_)))))));rintro _ _ _ ⟨rfl,u5,rs5,rfl,hO5,rfl⟩;refine SL.freezeCells hO5 fun g5 hle5 ht5=>?_;have hv5:=hv4.mono hle5;have hx5:=SlA.mono hx4 hle5;obtain ⟨q5,d5,rfl⟩:=ht5.form;refine SL.bx (aL zeroValue29) fun b10=>?_;refine SL.O2 (sK 0 zT29 I I I I I sB) ?_;refine SL.nT (sQ ?_);refine dW [] [(0,2),(1,2),(2,1),(3,2),(5,2),(4,0),(6,0),(7,2),(8,2),(9,1),(10,2),(12,2),(11,0),(13,0),(14,2),(15,2),(16,1),(18,1),(17,0),(19,0),(20,0),(21,2),(22,2),(23,1),(24,1),(25,2),(28,2),(26,0),(27,0),(29,0),(30,2),(31,2)] Tryz.mixed (by kernel_rfl) ?_;refine pU rfl (mV rfl) (pU rfl (mV rfl) (SP.gq rfl (gT rfl rfl rfl dC) (qV 1 iT29 zT29 rfl rfl rfl) dC (SP.gu rfl (gT rfl rfl rfl dC) (mV rfl) dC (SP.gu rfl (gT rfl rfl rfl dC) (mV rfl) dC (SP.go rfl (gT rfl rfl rfl dC) (SO.call call13 rfl (keepProg_spec E g5 _ _ _ C _ hv5 hCf hx5 oM)) dC (.inr (by rintro v27 g6 _ ⟨rfl,hle6,hk6⟩; exact⟨by assumption,(by exact .refl _)⟩)) ?_)))));rintro v27 g6 _ ⟨rfl,hle6,hk6⟩;rw[e1] at hk6;have hv6:=hv5.mono hle6;have hx6:=SlA.mono hx5 hle6;refine SP.go rfl (gT rfl rfl rfl dC) (SO.call call12 rfl (same13_refl E g6 _ _ _ _ hk6 hx6 oM)) dC (.inr (by rintro _ _ _ ⟨rfl,rfl,rfl⟩; exact⟨by assumption,(by exact .refl _)⟩)) ?_;rintro _ _ _ ⟨rfl,rfl,rfl⟩;refine pU rfl (pT rfl rfl) (pU rfl (mV rfl) (SP.gq rfl (gT rfl rfl rfl dC) (qV 1 iT29 zT29 rfl rfl rfl) dC (SP.gu rfl (gT rfl rfl rfl dC) (mV rfl) dC (SP.gu rfl (gT rfl rfl rfl dC) (mV rfl) dC (SP.go rfl (gT rfl rfl rfl dC) (SO.call call15 rfl (extendProg_spec E g6 _ _ _ C _ hv6 hCf oM hx6 oM)) dC (.inr (by rintro v34 g7 _ ⟨rfl,hle7,hk7⟩; exact⟨by exact Le.trans (by assumption) (by assumption),(by exact .refl _)⟩)) ?_)))));rintro v34 g7 _ ⟨rfl,hle7,hk7⟩;rw[e2] at hk7;have hv7:=hv6.mono hle7;have hx7:=SlA.mono hx6 hle7;have hle57:=hle6.trans hle7;refine SP.go rfl (gT rfl rfl rfl dC) (SO.call call12 rfl (same13_refl E g7 _ _ _ _ hk7 hx7 oM)) dC (.inr (by rintro _ _ _ ⟨rfl,rfl,rfl⟩; exact⟨by assumption,(by exact .refl _)⟩)) ?_;rintro _ _ _ ⟨rfl,rfl,rfl⟩;refine pU rfl (pT rfl rfl) (pU rfl (mV rfl) (SP.gq rfl (gT rfl rfl rfl dC) (qV 1 iT29 zT29 rfl rfl rfl) dC (SP.gq rfl (gT rfl rfl rfl dC) (qV 1 iT29 zT29 rfl rfl rfl) dC (SP.go rfl (gT rfl rfl rfl dC) (SO.call call15 rfl (extendProg_spec E g7 _ _ _ C [] hv7 hCf oM (Sl.nil _ _) (by simp))) dC (.inr (by rintro v40 g8 _ ⟨rfl,hle8,hk8⟩; exact⟨by exact Le.trans (by assumption) (by assumption),(by exact .refl _)⟩)) ?_))));rintro v40 g8 _ ⟨rfl,hle8,hk8⟩;have hv8:=hv7.mono hle8;have hle58:=hle57.trans hle8;refine SP.go rfl (gT rfl rfl rfl dC) (SO.call call27 rfl (matchM_spec E g8 _ _ C hv8 hCf hrt oM)) dC (.inr (by rintro v42 g9 _ ⟨rfl,hle9,hk9⟩; exact⟨by exact Le.trans (by assumption) (by assumption),(by exact .refl _)⟩)) ?_;rintro v42 g9 _ ⟨rfl,hle9,hk9⟩;have hle59:=hle58.trans hle9;have hv9:=hv5.mono hle59;have hx9:=SlA.mono hx5 hle59;have ht9:=ht5.mono hle59;refine SP.go rfl (gT rfl rfl rfl dC) (SO.call call12 rfl (same13_refl E g9 _ _ _ _ (SlA.mono hk8 hle9) hk9 oM)) dC (.inr (by rintro _ _ _ ⟨rfl,rfl,rfl⟩; exact⟨by assumption,(by exact .refl _)⟩)) ?_;rintro _ _ _ ⟨rfl,rfl,rfl⟩;refine pU rfl (pT rfl rfl) (pU rfl (mV rfl) (SP.gq rfl (gT rfl rfl rfl dC) (qV 0 iT29 zT29 rfl rfl rfl) dC (SP.gq rfl (gT rfl rfl rfl dC) (qV 1 iT29 zT29 rfl rfl rfl) dC (SP.gu rfl (gT rfl rfl rfl dC) (mV rfl) dC (SP.gu rfl (gT rfl rfl rfl dC) (mV rfl) dC (SP.go rfl (gT rfl rfl rfl dC) (SO.call call11 rfl (asked_spec E g9 _ _ _ C ns hv9 hCf oM (SlA.mono hn (hle1.trans (hle2.trans (hle3.trans (hle4.trans (hle5.trans hle59)))))) oM)) dC (.inr (by rintro v49 g10 _ ⟨rfl,hle10,hm10⟩; exact⟨by exact Le.trans (by assumption) (by assumption),(by exact .refl _)⟩)) ?_))))));rintro v49 g10 _ ⟨rfl,hle10,hm10⟩;rw[hMe] at hm10;have ht10:=ht9.mono hle10;have hle510:=hle59.trans hle10;refine SP.go rfl (gT rfl rfl rfl dC) (SO.call call15 rfl (extendProg_spec E g10 _ _ _ (turnC C n) M ht10 hTf oM hm10 oM)) dC (.inr (by rintro v50 g11 _ ⟨rfl,hle11,hk11⟩; exact⟨by exact Le.trans (by assumption) (by assumption),(by exact .refl _)⟩)) ?_;rintro v50 g11 _ ⟨rfl,hle11,hk11⟩;rw[e3] at hk11;have hx11:=SlA.mono hx9 (hle10.trans hle11);refine SP.go rfl (gT rfl rfl rfl dC) (SO.call call12 rfl (same13_refl E g11 _ _ _ _ hk11 hx11 oM)) dC (.inr (by rintro _ _ _ ⟨rfl,rfl,rfl⟩; exact⟨by exact Le.trans (by assumption) (by assumption),(by exact .refl _)⟩)) ?_;rintro _ _ _ ⟨rfl,rfl,rfl⟩;refine pU I (pT I I) (pU I (aS I) (pN (tN (rE (dR (s':=s) (.cons _ (.cons _ (.cons _ (.refl _)))) ?_)))));exact ST.ret1 (.inl I) results8 I ⟨I,I,hle1.trans (hle2.trans (hle3.trans (hle4.trans (hle5.trans (hle59.trans (hle10.trans hle11))))))⟩
theorem same_done14 (E:World)(g:PH)(s:Own)(sp bs:Nat)(vL vG:Value)(L:List Int)(G:List Nat)(vn:Value)(ns:List Int)(n:Nat)(hL:Ints g vL L)(hG:SlA encB g vG (G.map fun x:Nat=>(x:Int)))(hsp:sp<256)(hbs:bs<256)(hGb:∀ x∈G,x<256)(hn:Ints g vn ns)(hby:n<256) :
  Ctr Tryz.prog E 8 #[.agg #[.int .u8 (sp:Int),vL,vG,.int .u8 (bs:Int)],vn,.int .u8 (n:Int)] g s (fun r g' s'=>r=vb true∧s=s'∧Le g g') :=
 same_law14 E g s sp bs vL vG L G vn ns n hL hG hsp hbs hGb hn hby
open Go.ChangeShapes Go.WideShapes Go.ChangeAt Go.RowKit
set_option maxRecDepth 100000
section
variable {H:Type}{enc:TypeId×Value→H}{W:World}{base:Nat}{spare:Nat→Bool}{hd:Bool}
theorem u8_arg {r:Reach}{b0:Nat}{v:Value}{d:DataW H}{p:List MemPlace}(hv:Value.okWide Tryz.prog W r b0 5 v)(h:DataW.Trod enc Tryz.prog W base spare hd 5 v d p):∃ k:Nat,v = .int .u8 (k:Int)∧k<256:=by
 obtain ⟨n,rfl⟩:=okWide_int uT5 hv;obtain ⟨fuel,hf⟩:=h;exact byte_of (show DataW.trod enc Tryz.prog W base spare hd fuel 5 [.int .u8 n]=some (d,p) by simpa [Value.cells] using hf)
end
end Go.Proofs.YteahknngoogpaaaGreatDoor
namespace Go.Proofs.YteahknngoogpaaaGreatDoor.repairSameDone
open _root_.Go.Proofs.Tryz _root_.Go.Proofs.YteahknngoogpaaaGreatDoor.Tryz
open Go Go.Sy Go.Pl Go.Proofs Go.Proofs.YteahknngoogpaaaGreatDoor
open Go.ChangeShapes Go.WideShapes Go.ChangeAt Go.RowKit
set_option linter.unusedVariables false
theorem own:ownKnob Tryz.prog.godebug=none:=by kernel_rfl
theorem laidOut:laidOutB Tryz.prog=true:=by kernel_rfl
set_option maxRecDepth 100000 in
theorem lifted (os:Os)(started:os.Started)(H:Type)(enc:TypeId×Value→H) :
  ReturnsInHanded {} Tryz.checked os 8 .any (fun w args=>(Rows.repairSameSpec.pre enc Tryz.prog f8 Rows.repairSameRow.domain false w args∧laidMetH Tryz.prog Rows.repairSameRow.laid w)∧sizedMet enc Tryz.prog f8 (OpenSpec.ofChange Rows.repairSameSpec) false w args)
   (Rows.repairSameSpec.post enc Tryz.prog f8 false true false false):=by
 refine returnsInHanded_of_change_and (C:=Tryz.checked) (X:=fun w _=>laidMetH Tryz.prog Rows.repairSameRow.laid w) (fun _ _ _ hh h=>h.of_heap hh) own started (by kernel_rfl) func8
  (ChangeSpec.witness_shaped (enc:=enc) (C:=Tryz.checked) (os:=os) (X:=fun w _=>laidMetH Tryz.prog Rows.repairSameRow.laid w) false (World.laidAll Tryz.prog os Rows.repairSameRow.laid) #[.agg #[.int .u8 0,.slice none 0 0,.slice none 0 0,.int .u8 0],.slice none 0 0,.int .u8 0] 8 (World.laidAll_os _ _ _)
   (World.shaped_of_ZipB (by kernel_rfl) (by kernel_rfl)) (by kernel_rfl) (by kernel_rfl) (by kernel_rfl)
   (by rw[MakeChecks.laidMetH_plain _ _ _ (by kernel_rfl)]; exact laidMet_laidAll _ (by kernel_rfl) (by kernel_rfl))) ?_
 intro W base args ds gs before hval0 hW hcnd hsz0 hL _;have hval:∀ (j:Nat) t v,f8.params[j]?=some t→args[j]?=some v→Value.okWide Tryz.prog W .any base t v:=hval0;have hW':=hW;obtain ⟨p,q,hA0,hV,rfl,hfz,hnd⟩:=hW;have hA:DataW.TrodAll enc Tryz.prog W 0 (fun _=>true) true f8.params.toList args.toList ds p:=hA0;rw[params8] at hA hval;obtain ⟨v0,vs0,d0,ds0,p0,q0,hargs,rfl,rfl,h0,r0⟩:=trodAll_cons hA;obtain ⟨v1,vs1,d1,ds1,p1,q1,rfl,rfl,rfl,h1,r1⟩:=trodAll_cons r0;obtain ⟨v2,vs2,d2,ds2,p2,q2,rfl,rfl,rfl,h2,r2⟩:=trodAll_cons r1;obtain ⟨rfl,rfl,rfl⟩:=trodAll_nil r2;obtain rfl:args = #[v0,v1,v2]:=by cases args; simp_all
 obtain ⟨rfl,rfl⟩:=trodVars_none hV;have lt0:∀ x∈p0,x.block<W.heap.size:=by obtain ⟨m,hm⟩:=h0; exact DataW.trod_lt m _ _ _ hm
 have lt1:∀ x∈p1,x.block<W.heap.size:=by obtain ⟨m,hm⟩:=h1; exact DataW.trod_lt m _ _ _ hm
 have lt2:∀ x∈p2,x.block<W.heap.size:=by obtain ⟨m,hm⟩:=h2; exact DataW.trod_lt m _ _ _ hm
 obtain ⟨sp,bs,vL,vG,L,G,e0,hL0,hG0,hsp,hbs,hGb⟩:=shape8_of (hval 0 25 v0 rfl rfl) h0;obtain ⟨a1,n1,c1,s1⟩:=okWide_slice uT22 (hval 1 22 v1 rfl rfl);obtain ⟨ns1,hn1⟩:=ints_arg h1 (by rw[s1]; rfl);obtain ⟨k2,e2,hk2⟩:=u8_arg (hval 2 5 v2 rfl rfl) h2;clear hA0 hval0;have walk:Calls Tryz.prog 8 #[v0,v1,v2] W fun e w'=>e = .returned (.bool true)∧Below W.heap.size W w':=by
  rw[e0,e2];refine (same_done14 (E0 W) (held W) [] sp bs vL vG L G _ ns1 k2 hL0 hG0 hsp hbs hGb hn1 hk2 W (at_start W)).mono ?_;rintro e w' ⟨v,g',s',rfl,hat,rfl,rfl,hle⟩;exact⟨I,at_below hat hle⟩
 refine walk.mono fun e W' ⟨he,bel⟩=>?_;subst he;exact⟨_,I,_,_,_,[],_,[],hW',trodAll_mk1 (shut_bool underlying4 _),(trodAll_cons_mk (Below.trod laidOut (by kernel_rfl) (of_decide_eq_true (by kernel_rfl)) h0 bel lt0) (trodAll_cons_mk (Below.trod laidOut (by kernel_rfl) (of_decide_eq_true (by kernel_rfl)) h1 bel lt1) (trodAll_cons_mk (Below.trod laidOut (by kernel_rfl) (of_decide_eq_true (by kernel_rfl)) h2 bel lt2) trodAll_mk0))),I,bel.frame _,fun h=>by cases h⟩
theorem over:Rows.repairSameRow.holds Tryz.pinned (OpenSpec.ofChange Rows.repairSameSpec) :=
 OpenClaim.holds_of_wide 8 f8 rfl rfl rfl rfl rfl rfl rfl ⟨rfl,rfl,rfl,rfl,rfl⟩ rfl rfl rfl rfl rfl (by kernel_rfl) func8 (by kernel_rfl)
  (of_decide_eq_true (by kernel_rfl)) (by unfold Func.isWrapper; first | (rw[if_pos (by decide +kernel)]; kernel_rfl) | (rw[if_neg (by decide +kernel)]; exact⟨rfl,rfl⟩))
  (fun os started H enc _=>lifted os started H enc)
theorem proved:Rows.RepairSameCardSaid :=
 Claim7.holds_tied_plain_at .later [] [.data,.pinned] true (true, "cc8490d755c8efa2bd5732542271e696329d87e8c2c1e45e59e8eb19c18b2b4e") false
  over (fun _ h=>by cases h) (by kernel_rfl) (fun _ h=>by cases h) repairSame_row_tie rfl ⟨rfl,rfl⟩ (by kernel_rfl) rfl
  (fun f fn hf hfn=>by
   obtain rfl : f = 8:=Option.some.inj ((show Tryz.prog.funcNamed "cocycle/cocyclelaw14.RepairSame" = some 8 by kernel_rfl).symm.trans hf) |>.symm
   obtain rfl:fn=f8:=(Option.some.inj (func8.symm.trans hfn)).symm;exact⟨by kernel_rfl,fun j t ht=>by
    rw[params8] at ht;have hm:t∈[25,22,5]:=by simpa using Array.mem_of_getElem? ht
    have hall:([25,22,5].all fun u=>!Tryz.prog.wantsStandIn u)=true:=by kernel_rfl
    exact (show Tryz.prog.wantsStandIn t=false by simpa using List.all_eq_true.1 hall t hm)⟩)
  (by kernel_rfl)
#print axioms proved
end Go.Proofs.YteahknngoogpaaaGreatDoor.repairSameDone
