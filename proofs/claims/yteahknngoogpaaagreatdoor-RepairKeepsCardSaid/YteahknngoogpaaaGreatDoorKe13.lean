/-
  Proved without condition: for every complex and all numbers the law RepairKeeps returns true, as the tied card says.
-/
import Derived.Test.YteahknngoogpaaaGreatDoorKe12
import Derived.Test.YteahknngoogpaaaGreatDoorKe11
import Derived.Test.YteahknngoogpaaaGreatDoorKe10
import Derived.Test.YteahknngoogpaaaGreatDoorKe09
import Derived.Test.YteahknngoogpaaaGreatDoorTie
import Derived.Test.YteahknngoogpaaaGreatDoorCards
import Derived.LaidMore
import Derived.Lay
import Derived.SevenTiedAt
import Derived.Stop.Joined
set_option linter.unusedSimpArgs false
set_option linter.unusedVariables false
namespace Go.Proofs.YteahknngoogpaaaGreatDoor
open _root_.Go.Proofs.Tryz _root_.Go.Proofs.YteahknngoogpaaaGreatDoor.Tryz
open Go Go.Sy Go.Pl Go.Proofs
set_option maxRecDepth 100000
set_option maxHeartbeats 1000000
def selfT (c : Cl) : Int × List Tm:=(c.id,[(c.id,1)])
theorem step_none (E : World) (g : PH) (s : Own) (bx mb ms : Nat) (u v : Value) (bk : Bool) (A D : List Cl) (hu : Cells g u A) (hv : Cells g v D) (hA : A.length < 1099511627776) (hD : D.length < 1099511627776) (i j : Nat) (hi : s[i]? = some (edP bx u mb ms bk)) (hj : s[j]? = some (mp ms [])) :
  Ctr Tryz.prog E 76 #[pp bx 0,.agg #[v]] g s (fun r g' s'=>s = s' ∧ Le g g' ∧ ∃ iv,r = .agg #[iv,vb bk] ∧ Ims g' iv ((if bk then D else A).map selfT)):=by
 obtain ⟨pu,cu,rfl⟩:=hu.form
 obtain ⟨pv,cv,rfl⟩:=hv.form
 refine Ctr.of (args:=[pp bx 0,.agg #[.slice pv D.length cv]]) func76 I ntmps76 (bE I) ?_
 refine SC.sR (SL.bx (bO I) fun b2=>?_)
 refine SL.bx (bO I) fun b3=>?_
 refine SL.bx (aL zeroValue89) fun b4=>?_
 refine SL.nT (SC.sR (lK (qL isAgg122 I (cO 2 I I)) (lU (nC I) (lU (fA uT150 I zT29 I) (lK (SQ.loadOne iT29 zT29 I (cO (v:=.slice pu A.length cu) (i + 3) hi I)) (SL.bx (aL zeroValue29) fun b5=>?_))))))
 refine SL.O2 (sK 0 zT29 I I I I I sB) ?_
 refine SL.nT ?_
 refine SC.cut (ι:=Unit) (fun _=>[(2,pp b2 0),(3,pp b3 0),(4,pp b4 0),(5,pp b5 0)]) (fun _=>g) (fun _=>pt b5 (.cells #[if bk then .slice pv D.length cv else .slice pu A.length cu] 29 (0,0)) :: pt b4 (.cells #[.slice none 0 0,vb false] 89 (0,0)) :: pt b3 (.cells #[.slice pv D.length cv] 29 (0,0)) :: pt b2 (.cells #[pp bx 0] 122 (0,0)) :: s) (fun _=>True) ?_ ?_
 ·refine SC.sR (lK (qL isAgg122 I (cO 3 I I)) (lU (nC I) (lU (fA uT150 I zT4 I) (lK (qL (v:=vb bk) isAgg4 I (cO (i + 4) hi I)) (SL.nT ?_)))))
  cases bk with
  | true =>
   refine cT I (rG (lK (qV 2 iT29 zT29 I I I) (SL.O2 (sK 0 zT29 I I I I I sB) ?_)))
   refine nL ?_
   exact ST.mid () sB I I trivial
  | false =>
   refine cF I (kP ?_)
   exact ST.mid () sB I I trivial
 rintro _ -
 try dsimp only
 have hF : Cells g (if bk then .slice pv D.length cv else .slice pu A.length cu) (if bk then D else A):=by cases bk <;> assumption
 have hFl : (if bk then D else A).length < 1099511627776:=by cases bk <;> assumption
 generalize (if bk = true then D else A) = F at *
 generalize (if bk = true then Value.slice pv D.length cv else Value.slice pu A.length cu) = w at *
 obtain ⟨rs,hrs,hall⟩:=hF
 have hrl:=hall.length
 obtain ⟨p,c,rfl⟩:=SlA.form hrs
 refine SC.sR (lK (qL isAgg122 I (cO 3 I I)) (lU (nC I) (lU (fA uT150 I zT4 I) (lK (qL (v:=vb bk) isAgg4 I (cO (i + 4) hi I)) (lU (SU.build I (buildB89 _)) (SL.bx (aL zeroValue89) fun b6=>?_))))))
 refine SL.O2 (sK 0 zT89 I I I I I sB) ?_
 refine SL.nT (SC.sR (lU (SU.mkFunc I) (lA I (SL.nT (sQ (SC.sR (lU (fA uT29 I zT27 I) (lK (qL iT27 I (cO 1 I I)) (lU (eN uT27 I) (lM I (SL.nT (bK (SC.nilRow 162 2 ?_)))))))))))))
 refine oP (ι:=Nat × PH × Value × List Im) (fun i=>[(2,pp b2 0),(4,pp b4 0),(6,pp b6 0),(7,.func (.func 111) #[] #[pp b2 0]),(26,.slice p rs.length c),(27,vi rs.length),(28,vi i.1)]) (fun i=>i.2.1)
  (fun i=>rowA encIm 162 i.2.2.1 i.2.2.2 :: pt b6 (.cells #[i.2.2.1,vb bk] 89 (0,0)) :: pt b5 (.cells #[.slice p rs.length c] 29 (0,0)) :: pt b4 (.cells #[.slice none 0 0,vb false] 89 (0,0)) :: pt b3 (.cells #[.slice pv D.length cv] 29 (0,0)) :: pt b2 (.cells #[pp bx 0] 122 (0,0)) :: s)
  (fun i=>i.1 ≤ rs.length ∧ Le g i.2.1 ∧ All2 (ImR i.2.1) ((F.take i.1).map selfT) i.2.2.2) (fun i=>rs.length - i.1) (0,g,.slice none 0 0,[])
  sB rfl rfl ⟨Nat.zero_le _,Le.refl g,by simp [All2]⟩ ?_
 rintro ⟨k,g1,ov,acc⟩ ⟨hk,hle,hacc⟩
 dsimp only at hk hle hacc ⊢
 have hal:=hacc.length
 rw [List.length_map,List.length_take] at hal
 refine SC.sR (lU (lS I I) (SL.nT (sQ ?_)))
 refine iP I (fun hlt=>?_) (fun hlt=>?_)
 ·have hkr : k < rs.length:=oM
  have hkl : k < F.length:=oM
  have hb1:=SlA.based hrs oM
  have hcr:=hall.get (gE hkl) (gE hkr)
  have hgx : rs[((k : Nat) : Int).toNat]? = some rs[k]:=gE hkr
  have htk : F.take (k + 1) = F.take k ++ [F[k]]:=tS hkl
  generalize rs[k] = x at *
  generalize F[k] = cx at *
  obtain ⟨xi,xd,xp,xn,xc⟩:=x
  obtain ⟨e1,e2,-⟩:=hcr
  dsimp only at e1 e2
  subst e1 e2
  refine kP (tN (sQ (bK (SC.sR (lU (iA uT27 zT54 I I hb1 oM (show (k : Int) < ((rs.length : Nat) : Int) by omega)) ?_)))))
  refine lK (eA iT54 zT54 I (SlA.rd (SlA.mono hrs hle)) hgx) (SL.bx (aL zeroValue54) fun b9=>?_)
  refine SL.O2 (sK 0 zT54 I I I I I sB) ?_
  refine SL.nT ?_
  refine dW [11,14] [(0,2),(1,2),(2,1),(3,2),(4,1),(5,2),(6,2),(7,1),(8,0),(9,2),(10,0),(11,0),(12,2),(13,2),(14,0)] Tryz.mixed (by kernel_rfl) ?_
  refine pU rfl (fA underlying89 rfl sizeOf87 rfl) (pU rfl (fA underlying87 rfl sizeOf85 rfl) (pK rfl (qL isAgg85 rfl (cO 2 rfl rfl)) (pU rfl (fA uT54 rfl zT3 rfl) (pK rfl (qL iT3 rfl (cO 0 rfl rfl)) (pU rfl (mV rfl) (pU rfl (fA uT54 rfl zT3 rfl) (pK rfl (qL iT3 rfl (cO 0 rfl rfl)) (SP.o rfl (SO.callV rfl rfl (image_none E g1 _ b2 bx mb ms _ bk cx.id (i + 7) (j + 7) 6 rfl hi hj)) dC (.inr (by rintro v40 g2 _ ⟨rfl,hle2,hch⟩; exact ⟨by assumption,(by exact .refl _)⟩)) ?_))))))))
  rintro v40 g2 _ ⟨rfl,hle2,hch⟩
  obtain ⟨q2,d2,rfl⟩:=SlA.form hch
  refine pU rfl (SU.build rfl (build162 _ _ _ _)) (SP.o rfl (bS sty85 rfl rfl rfl (szs_mk sB) dC) dC (.inr (by rintro _ _ _ ⟨b42,rfl,rfl,rfl⟩; exact ⟨by assumption,(by exact .cons _ (.refl _))⟩)) ?_)
  rintro _ _ _ ⟨b42,rfl,rfl,rfl⟩
  refine SP.o I (aP (e:=encIm) 1 ⟨cx.id,⟨q2,1,d2⟩⟩ sty85 I I I I I oM oM) dC (.inl dC) ?_
  rintro ov' _ _ ⟨rfl,rfl⟩
  refine SP.facts fun ⟨w0,hw0⟩=>?_
  obtain ⟨q',d',rfl⟩:=rowA_form (e:=encIm) (l:=acc ++ [⟨cx.id,⟨q2,1,d2⟩⟩]) (i:=1) hw0 rfl
  clear hw0 w0
  refine pU rfl (fA underlying89 rfl sizeOf87 rfl) (pU rfl (fA underlying87 rfl sizeOf85 rfl) (SP.on rfl (SO.store1 2 sizeOf85 rfl rfl rfl rfl (bE rfl) (by rfl)) (.inl dC) ?_))
  rintro _ _ _ ⟨rfl,rfl⟩
  refine pN (bN (tN (rG (lU (aD I I oM) (lM I (nL (dR (.cons _ (.refl _)) ?_)))))))
  exact ST.again (k + 1,g2,_,acc ++ [⟨cx.id,⟨q2,1,d2⟩⟩]) sB I I ⟨by dsimp only; omega,hle.trans hle2,by
   dsimp only
   rw [htk,List.map_append]
   exact (hacc.mono fun _ _=>ImR.mono hle2).append ⟨⟨I,hch⟩,trivial⟩⟩ (by dsimp only; omega)
 ·have hkk : F.take k = F:=tL oM
  rw [hkk] at hacc
  refine xI (tX (tX (bX (tN (sQ (fS fun g2 hle2 hs2=>?_))))))
  obtain ⟨q2,d2,rfl⟩:=Sl.form hs2
  refine rG (lK (qV 0 isAgg89 zT89 I I I) (SL.O2 (sK 2 zT89 I I I I I sB) ?_))
  refine SL.nT (rE ?_)
  exact ST.retCD 2 s (.inl I) results76 I isAgg89 zT89 I I (.cons _ (.cons _ (.cons _ (.cons _ (.cons _ (.refl _)))))) ⟨I,hle.trans hle2,_,I,acc,hs2,hacc.mono fun _ _=>ImR.mono hle2⟩
set_option maxHeartbeats 2000000
theorem Ctr.freezeO {P : Program} {E : World} {n : FuncId} {args : Array Value} {g : PH} {L s : Own} {R : Value → PH → Own → Prop} {A : List Cl} {rs : List Rc} (hO : All2 CellO A rs)
  (h : ∀ g1,Le g g1 → All2 (CellR g1) A rs → Ctr P E n args g1 (L ++ s) R) : Ctr P E n args g (L ++ (ownS A rs ++ s)) R:=fun w hw=>by
 have h1 : (L ++ (ownS A rs ++ s)).Perm (ownS A rs ++ (L ++ s)):=by
  rw [← List.append_assoc,← List.append_assoc]
  exact List.perm_append_comm.append_right s
 obtain ⟨g1,h2,h3,h4⟩:=Go.Proofs.YteahknngoogpaaaGreatDoor.freezeO hO (hw.perm h1)
 exact h g1 h2 h4 w h3
def KindRun (fv : Value) (e : Ed) (A : List Cl) (code : Int) (B : List Cl) (bk : Bool) : Prop :=
 ∀ (E : World) (g : PH) (s : Own) (bx mb ms : Nat) (u v : Value) (rs : List Rc),Cells g u A → All2 CellO A rs → EdR g v e →
  CallV Tryz.prog E fv [pp bx 0,v] g (edP bx u mb ms false :: mp mb (rs.map rcPair) :: mp ms [] :: (ownS A rs ++ s)) (fun r g' s'=>Le g g' ∧ r = vi code ∧ (if code = 0 then ∃ rs',All2 (CellR g') B rs' ∧ s' = edP bx u mb ms bk :: mp mb (rs'.map rcPair) :: mp ms [] :: s else ∃ h,s' = h ++ s))
def attachCode (A : List Cl) (e : Ed) : Int:=if (findT A e.cell).isSome then 54 else 0
def removeCode (A : List Cl) (e : Ed) : Int:=if (findT A e.cell).isSome then (if 0 < (aboveC A e.cell).length then 31 else 0) else 30
theorem attach_run (A : List Cl) (e : Ed) (he : e.sides.length < 1099511627776) : KindRun (.func (.func 105) #[] #[]) e A (attachCode A e) (putC A ⟨e.cell,e.dim,e.sides⟩) false:=by
 intro E g s bx mb ms u v rs hu hO hv
 refine CallV.mk (args:=[_,_]) (cap:=[]) call105 ?_
 refine Ctr.freezeO (L:=[edP bx u mb ms false,mp mb (rs.map rcPair),mp ms []]) hO fun g1 hle1 hall=>?_
 refine (attach_spec E g1 _ bx mb ms u v false e A rs hall 0 1 I I (hv.mono hle1) he).mono ?_
 rintro r g' s' ⟨hle,h⟩
 refine ⟨hle1.trans hle,?_⟩
 unfold attachCode
 rcases h with ⟨rfl,h1,rfl⟩ | ⟨rfl,h1,rs',h2,rfl⟩
 ·rw [h1]
  exact ⟨I,[edP bx u mb ms false,mp mb (rs.map rcPair),mp ms []],I⟩
 ·rw [h1]
  exact ⟨I,rs',h2,I⟩
theorem remove_run (A : List Cl) (hf : Fits A) (e : Ed) : KindRun (.func (.func 106) #[] #[]) e A (removeCode A e) (delC A e.cell) true:=by
 intro E g s bx mb ms u v rs hu hO hv
 refine CallV.mk (args:=[_,_]) (cap:=[]) call106 ?_
 refine Ctr.freezeO (L:=[edP bx u mb ms false,mp mb (rs.map rcPair),mp ms []]) hO fun g1 hle1 hall=>?_
 refine (remove_spec E g1 _ bx mb ms u v false e A A rs (hu.mono hle1) hf hall 0 1 I I dC (hv.mono hle1)).mono ?_
 rintro r g' s' ⟨hle,h⟩
 refine ⟨hle1.trans hle,?_⟩
 unfold removeCode
 rcases h with ⟨rfl,h1,rfl⟩ | ⟨rfl,h1,h2,rfl⟩ | ⟨rfl,h1,h2,rfl⟩
 ·rw [h1]
  exact ⟨I,[edP bx u mb ms false,mp mb (rs.map rcPair),mp ms []],I⟩
 ·rw [h1,if_pos rfl,if_pos h2]
  exact ⟨I,[edP bx u mb ms false,mp mb (rs.map rcPair),mp ms []],I⟩
 ·rw [h1,h2]
  exact ⟨I,delR rs e.cell,(all2_del (fun _ _ h=>h.1) e.cell hall).mono fun _ _=>CellR.mono hle,I⟩
theorem get_after {α : Type} (L r : List α) (k : Nat) : (L ++ r)[L.length + k]? = r[k]?:=by
 rw [List.getElem?_append_right oM,Nat.add_sub_cancel_left]
def applyOut (code : Int) (B : List Cl) : Int × List Cl :=
 if code ≠ 0 then (code,[]) else if (checkC (canonC B)).2 ≠ 0 then ((checkC (canonC B)).2,[]) else (0,canonC B)
theorem Tryz.buildZ89 (w : World) : (Instr.build 89 #[]).run Tryz.prog w = .ok (.agg #[.slice none 0 0,vb false]) w:=by
 simp [Instr.build,Instr.fill]
 rfl
theorem Cells.nil (g : PH) : Cells g (.slice none 0 0) []:=⟨[],Sl.nil g _,trivial⟩
theorem edRight_B (E : World) (g : PH) (s : Own) (v : Value) (l : List Cl) (hv : Cells g v l) (hf : Fits l) (b : Bool) (hb : decide ((checkC l).2 = 0) = b) :
  Ctr Tryz.prog E 73 #[.agg #[v]] g s (fun r g' s'=>r = vb b ∧ g = g' ∧ s = s'):=by
 subst hb
 exact edRight_spec E g s v l hv hf
def ApplyR (code : Int) (D : List Cl) (r : Value) (g' : PH) : Prop:=∃ u p n c b,r = .tuple #[.agg #[u],.agg #[.slice p n c,vb b],vi code] ∧ Cells g' u D
theorem apply_bad (E : World) (g : PH) (s : Own) (v ev : Value) (l : List Cl) (e : Ed) (hv : Cells g v l) (hf : Fits l) (he : EdR g ev e) (hbad : mget kindsM e.kind = none ∨ (checkC l).2 ≠ 0) :
  Ctr Tryz.prog E 43 #[.agg #[v],ev] g s (fun r g' s'=>s = s' ∧ Le g g' ∧ ApplyR 1 [] r g'):=by
 obtain ⟨z,hz⟩:=Tryz.mtyKinds
 obtain ⟨sv,pv,rfl,hsv,hpv⟩:=he
 obtain ⟨sp,sc,rfl⟩:=SlA.form hsv
 obtain ⟨pq,pc,rfl⟩:=SlA.form hpv
 obtain ⟨p,c,rfl⟩:=hv.form
 refine Ctr.of (args:=[.agg #[.slice p l.length c],.agg #[vi e.kind,vi e.cell,vi e.dim,vi e.new,vi e.other,.slice sp e.sides.length sc,.slice pq e.pairs.length pc]]) func43 I ntmps43 (bE I) ?_
 cases hg : mget kindsM e.kind with
 | none =>
  refine SC.sR (SL.bx (bO I) fun b2=>?_)
  refine SL.bx (bO I) fun b3=>?_
  refine SL.bx (aL zeroValue29) fun b4=>?_
  refine SL.bx (aL zeroValue89) fun b5=>?_
  refine lA I (SL.nT (sQ ?_))
  refine dW [] [(1,2),(2,1),(0,0),(3,0),(4,2),(5,2),(6,2),(7,2),(8,2)] Tryz.mixed (by kernel_rfl) ?_
  refine pU rfl (fA uT39 rfl zT3 rfl) (pK rfl (qL iT3 rfl (cO 2 rfl rfl)) (SP.o rfl (SO.call call72 rfl (kinds_spec E g _)) dC (.inr (by rintro _ g1 _ ⟨rfl,hle1,bk,rfl,hk⟩; exact ⟨by assumption,(by exact .refl _)⟩)) ?_))
  rintro _ g1 _ ⟨rfl,hle1,bk,rfl,hk⟩
  refine oQ rfl (SQ.eq (v':=.tuple #[z,vb false]) (SQ.lookupOk hz rfl rfl (MapAt.known hk)) (by rw [hg]; rfl)) dC (.inr ⟨by assumption,(by exact .refl _)⟩) ?_
  refine pU I (mV I) (pU I (xT I I) (pU I (xT I I) (pU I (aS I) (pU I (aS I) (pN (tN (sQ (SC.sR (lM I (lU (SU.not I) (lM I (lZ I I I (lZ I I I (lZ I I I (lU (pT I I) (SL.nT (cT I (SC.sR (lU (SU.build I buildE29) (lU (SU.build I buildZ89) (SL.O2 (sK 1 zT29 I I I I I sB) ?_)))))))))))))))))))))
  refine SL.O2 (sK 0 zT89 I I I I I sB) ?_
  refine lA I (SL.nT (rE (tR ?_)))
  exact ST.retCCT 1 0 s (.inl I) results43 I I I iT29 zT29 isAgg89 zT89 I I I I (.cons _ (.cons _ (.cons _ (.cons _ (.refl _))))) ⟨I,hle1,_,_,_,_,_,I,Cells.nil _⟩
 | some fv =>
  have hc : decide ((checkC l).2 = 0) = false:=decide_eq_false (by
   rcases hbad with h | h
   ·rw [hg] at h; cases h
   ·exact h)
  refine SC.sR (SL.bx (bO I) fun b2=>?_)
  refine SL.bx (bO I) fun b3=>?_
  refine SL.bx (aL zeroValue29) fun b4=>?_
  refine SL.bx (aL zeroValue89) fun b5=>?_
  refine lA I (SL.nT (sQ ?_))
  refine dW [] [(1,2),(2,1),(0,0),(3,0),(4,2),(5,2),(6,2),(7,2),(8,2)] Tryz.mixed (by kernel_rfl) ?_
  refine pU rfl (fA uT39 rfl zT3 rfl) (pK rfl (qL iT3 rfl (cO 2 rfl rfl)) (SP.o rfl (SO.call call72 rfl (kinds_spec E g _)) dC (.inr (by rintro _ g1 _ ⟨rfl,hle1,bk,rfl,hk⟩; exact ⟨by assumption,(by exact .refl _)⟩)) ?_))
  rintro _ g1 _ ⟨rfl,hle1,bk,rfl,hk⟩
  refine oQ rfl (SQ.eq (v':=.tuple #[fv,vb true]) (SQ.lookupOk hz rfl rfl (MapAt.known hk)) (by rw [hg]; rfl)) dC (.inr ⟨by assumption,(by exact .refl _)⟩) ?_
  refine pU I (mV I) (pU I (xT I I) (pU I (xT I I) (pU I (aS I) (pU I (aS I) (pN (tN (sQ (SC.sR (lM I (lU (SU.not I) (lM I (SL.gq (gT I I I dC) (qV 3 iT29 zT29 I I I) dC (SL.go (gT I I I dC) (SO.call call73 I (edRight_B E g1 _ _ l (hv.mono hle1) hf false hc)) dC ?_)))))))))))))
  rintro _ _ _ ⟨rfl,rfl,rfl⟩
  refine lY I I I (SU.not I) (lU (pF I I) (SL.nT (cT I (SC.sR (lU (SU.build I buildE29) (lU (SU.build I buildZ89) (SL.O2 (sK 1 zT29 I I I I I sB) ?_)))))))
  refine SL.O2 (sK 0 zT89 I I I I I sB) ?_
  refine lA I (SL.nT (rE (tR ?_)))
  exact ST.retCCT 1 0 s (.inl I) results43 I I I iT29 zT29 isAgg89 zT89 I I I I (.cons _ (.cons _ (.cons _ (.cons _ (.refl _))))) ⟨I,hle1,_,_,_,_,_,I,Cells.nil _⟩
theorem apply_run (E : World) (g : PH) (s : Own) (v ev : Value) (l : List Cl) (e : Ed) (hv : Cells g v l) (hf : Fits l) (he : EdR g ev e) (hr : (checkC l).2 = 0) (fv : Value) (code : Int) (B : List Cl) (bk : Bool) (hg : mget kindsM e.kind = some fv) (hrun : KindRun fv e (canonC l) code B bk) (hB : code = 0 → Fits B ∧ (B.map Cl.id).Nodup) :
  Ctr Tryz.prog E 43 #[.agg #[v],ev] g s (fun r g' s'=>s = s' ∧ Le g g' ∧ ApplyR (applyOut code B).1 (applyOut code B).2 r g'):=by
 obtain ⟨z,hz⟩:=Tryz.mtyKinds
 have he0:=he
 obtain ⟨sv,pv,rfl,hsv,hpv⟩:=he
 obtain ⟨sp,sc,rfl⟩:=SlA.form hsv
 obtain ⟨pq,pc,rfl⟩:=SlA.form hpv
 obtain ⟨p,c,rfl⟩:=hv.form
 have hc : decide ((checkC l).2 = 0) = true:=decide_eq_true hr
 have hnd : ((canonC l).map Cl.id).Nodup:=by
  rw [List.Nodup,List.pairwise_map]
  exact (rt_of hr).asc.imp fun h=>by omega
 have hAf:=canonC_fits hf
 refine Ctr.of (args:=[.agg #[.slice p l.length c],.agg #[vi e.kind,vi e.cell,vi e.dim,vi e.new,vi e.other,.slice sp e.sides.length sc,.slice pq e.pairs.length pc]]) func43 I ntmps43 (bE I) ?_
 refine SC.sR (SL.bx (bO I) fun b2=>?_)
 refine SL.bx (bO I) fun b3=>?_
 refine SL.bx (aL zeroValue29) fun b4=>?_
 refine SL.bx (aL zeroValue89) fun b5=>?_
 refine lA I (SL.nT (sQ ?_))
 refine dW [] [(1,2),(2,1),(0,0),(3,0),(4,2),(5,2),(6,2),(7,2),(8,2)] Tryz.mixed (by kernel_rfl) ?_
 refine pU rfl (fA uT39 rfl zT3 rfl) (pK rfl (qL iT3 rfl (cO 2 rfl rfl)) (SP.o rfl (SO.call call72 rfl (kinds_spec E g _)) dC (.inr (by rintro _ g1 _ ⟨rfl,hle1,bq,rfl,hk⟩; exact ⟨by assumption,(by exact .refl _)⟩)) ?_))
 rintro _ g1 _ ⟨rfl,hle1,bq,rfl,hk⟩
 refine oQ rfl (SQ.eq (v':=.tuple #[fv,vb true]) (SQ.lookupOk hz rfl rfl (MapAt.known hk)) (by rw [hg]; rfl)) dC (.inr ⟨by assumption,(by exact .refl _)⟩) ?_
 refine pU I (mV I) (pU I (xT I I) (pU I (xT I I) (pU I (aS I) (pU I (aS I) (pN (tN (sQ (SC.sR (lM I (lU (SU.not I) (lM I (SL.gq (gT I I I dC) (qV 3 iT29 zT29 I I I) dC (SL.go (gT I I I dC) (SO.call call73 I (edRight_B E g1 _ _ l (hv.mono hle1) hf true hc)) dC ?_)))))))))))))
 rintro _ _ _ ⟨rfl,rfl,rfl⟩
 refine lY I I I (SU.not I) (lU (pF I I) (SL.nT (cF I (kP (tN (SC.sR (lK (qV 3 iT29 zT29 I I I) (lW (SO.call call74 I (open_own E g1 _ _ l (hv.mono hle1) hf hnd)) ?_))))))))
 rintro _ g2 _ ⟨hle2,bx,u,mb,ms,rs,rfl,hu,hO,rfl⟩
 refine lA I (SL.nT (SC.sR (lM I (lM I (lK (qV ((ownS (canonC l) rs).length + 2 + 3) isAgg39 sizeOf39 I (by exact (get_after (ownS (canonC l) rs) _ 2).trans I) I) ?_)))))
 refine lW (SO.callV I I (hrun E g2 _ bx mb ms u _ rs hu hO (he0.mono (hle1.trans hle2)))) ?_
 rintro _ g3 _ ⟨hle3,rfl,hcase⟩
 by_cases hc0 : code = 0
 ·obtain ⟨hBf,hBn⟩:=hB hc0
  subst hc0
  rw [if_pos rfl] at hcase
  obtain ⟨rs',hall,rfl⟩:=hcase
  have hcB:=canonC_fits hBf
  have hout : applyOut 0 B = if (checkC (canonC B)).2 ≠ 0 then ((checkC (canonC B)).2,[]) else (0,canonC B):=rfl
  rw [hout]
  refine lA I (SL.nT (SC.sR (SL.bx (aL zeroValue29) fun b11=>?_)))
  refine SL.nT (sQ (SC.sR (lM I (lU (eQ I I) (SL.nT (cT I (sQ (cP (List.perm_middle (l₁:=[pt b11 (.cells #[.slice none 0 0] 29 (0,0)),edP bx u mb ms bk])) (SC.freezeMap fun g4 hle4 hm4=>?_)))))))))
  refine rG (lM I (lW (SO.call call75 I (result_spec E g4 _ bx mb ms u bk B rs' (hall.mono fun _ _=>CellR.mono hle4) hBn hBf hm4 1 I)) ?_))
  rintro _ g5 _ ⟨rfl,hle5,u5,rfl,hu5⟩
  obtain ⟨p5,c5,rfl⟩:=hu5.form
  refine SL.O2 (sK 0 zT29 I I I I I sB) ?_
  refine SL.nT (rG (lK (qV 0 iT29 zT29 I I I) (lW (SO.call call24 I (check_spec E g5 _ _ (canonC B) hu5 hcB)) ?_)))
  rintro _ _ _ ⟨rfl,rfl,rfl⟩
  refine lM I (lU (xT I I) (lU (xT I I) (lA I (SL.nT (sQ (SC.sR (lM I (lU (nQ I I) (SL.nT ?_)))))))))
  refine iP I (fun h2=>?_) (fun h2=>?_)
  ·have he2 : (if (checkC (canonC B)).2 ≠ 0 then ((checkC (canonC B)).2,[]) else ((0 : Int),canonC B)) = ((checkC (canonC B)).2,[]):=if_pos h2
   rw [he2]
   refine SC.sR (lU (SU.build I buildE29) (lU (SU.build I buildZ89) (lM I (SL.O2 (sK 4 zT29 I I I I I sB) ?_))))
   refine SL.O2 (sK 3 zT89 I I I I I sB) ?_
   refine lA I (SL.nT (rE (tR ?_)))
   exact ST.retCCT 4 3 s (.inl I) results43 I I I iT29 zT29 isAgg89 zT89 I I I I (.cons _ (.cons _ (.cons _ (.cons _ (.cons _ (.cons _ (.cons _ (.refl _)))))))) ⟨I,hle1.trans (hle2.trans (hle3.trans (hle4.trans hle5))),_,_,_,_,_,I,Cells.nil _⟩
  ·have he2 : (if (checkC (canonC B)).2 ≠ 0 then ((checkC (canonC B)).2,[]) else ((0 : Int),canonC B)) = (0,canonC B):=if_neg h2
   rw [he2]
   refine kP (tN (sQ ?_))
   refine dW [4,5] [(0,1),(1,2),(2,1),(3,0),(4,0),(5,0),(6,2)] Tryz.mixed (by kernel_rfl) ?_
   refine pK rfl (qV 0 iT29 zT29 rfl rfl rfl) (pU rfl (mV rfl) (pK rfl (qV 0 iT29 zT29 rfl rfl rfl) (SP.o rfl (SO.call call76 rfl (step_none E g5 _ bx mb ms u _ bk (canonC l) (canonC B) (hu.mono (hle3.trans (hle4.trans hle5))) hu5 hAf.1 hcB.1 1 2 rfl rfl)) dC (.inr (by rintro _ g6 _ ⟨rfl,hle6,iv,rfl,him⟩; exact ⟨by assumption,(by exact .refl _)⟩)) ?_)))
   rintro _ g6 _ ⟨rfl,hle6,iv,rfl,him⟩
   obtain ⟨im,him1,him2⟩:=him
   obtain ⟨p6,c6,rfl⟩:=SlA.form him1
   refine SP.on I (sK 4 zT29 I I I I I sB) (.inl dC) ?_
   rintro _ _ _ ⟨rfl,rfl⟩
   refine SP.on I (sK 3 zT89 I I I I I sB) (.inl dC) ?_
   rintro _ _ _ ⟨rfl,rfl⟩
   refine pU I (aS I) (pN (tN (rE ?_)))
   exact ST.retCCT 4 3 s (.inl I) results43 I I I iT29 zT29 isAgg89 zT89 I I I I (.cons _ (.cons _ (.cons _ (.cons _ (.cons _ (.cons _ (.cons _ (.refl _)))))))) ⟨I,hle1.trans (hle2.trans (hle3.trans (hle4.trans (hle5.trans hle6)))),_,_,_,_,_,I,hu5.mono hle6⟩
 ·rw [if_neg hc0] at hcase
  obtain ⟨h,rfl⟩:=hcase
  have hout : applyOut code B = (code,[]):=if_pos hc0
  rw [hout]
  refine SL.drop (List.sublist_append_right _ _) (lA I (SL.nT (SC.sR (SL.bx (aL zeroValue29) fun b11=>?_))))
  refine SL.nT (sQ (SC.sR (lM I (lU (eQ I I) (SL.nT ?_)))))
  refine iP I (fun h0=>?_) (fun h0=>?_)
  ·exact absurd h0 hc0
  ·refine kP (tN (sQ (SC.sR (lM I (lU (nQ I I) (SL.nT ?_))))))
   refine iP I (fun h2=>?_) (fun h2=>?_)
   ·refine SC.sR (lU (SU.build I buildE29) (lU (SU.build I buildZ89) (lM I (SL.O2 (sK 2 zT29 I I I I I sB) ?_))))
    refine SL.O2 (sK 1 zT89 I I I I I sB) ?_
    refine lA I (SL.nT (rE (tR ?_)))
    exact ST.retCCT 2 1 s (.inl I) results43 I I I iT29 zT29 isAgg89 zT89 I I I I (.cons _ (.cons _ (.cons _ (.cons _ (.cons _ (.refl _)))))) ⟨I,hle1.trans (hle2.trans hle3),_,_,_,_,_,I,Cells.nil _⟩
   ·exact absurd hc0 h2
def ApplyTo (l : List Cl) (e : Ed) (code : Int) (D : List Cl) : Prop:=∀ (E : World) (g : PH) (s : Own) (v ev : Value),Cells g v l → EdR g ev e →
 Ctr Tryz.prog E 43 #[.agg #[v],ev] g s (fun r g' s'=>s = s' ∧ Le g g' ∧ ApplyR code D r g')
def nowC (e : Ed) (id : Int) : Int:=if e.kind = 4 then match e.pairs.find? (fun p=>decide (p.2 = id)) with
  | some p=>p.1
  | none=>id
 else id
def repairOut (m : List Pr) (e : Ed) (code : Int) (D : List Cl) : Int × List Cl × List Pr :=
 if code ≠ 0 then (code,[],[]) else (0,D,extendR D (m.map fun p=>(nowC e p.1,nowC e p.2)))
def RepairR (o : Int × List Cl × List Pr) (r : Value) (g' : PH) : Prop:=∃ u pv,r = .tuple #[.agg #[u],pv,vi o.1] ∧ Cells g' u o.2.1 ∧ SlA encPr g' pv o.2.2
theorem now_found {e : Ed} {id : Int} (h4 : e.kind = 4) {k : Nat} (hk : k < e.pairs.length) (h : e.pairs[k].2 = id) (hn : ∀ j (hj : j < k),(e.pairs[j]'oM).2 ≠ id) : nowC e id = e.pairs[k].1:=by
 have hf : e.pairs.find? (fun p=>decide (p.2 = id)) = some e.pairs[k]:=List.find?_eq_some_iff_getElem.2 ⟨by simpa using h,k,hk,rfl,fun j hj=>by simpa using hn j hj⟩
 unfold nowC
 rw [if_pos h4,hf]
theorem now_none {e : Ed} {id : Int} (hn : e.kind = 4 → ∀ p ∈ e.pairs,p.2 ≠ id) : nowC e id = id:=by
 unfold nowC
 split
 ·rename_i h4
  have hf : e.pairs.find? (fun p=>decide (p.2 = id)) = none:=List.find?_eq_none.2 fun p hp=>by simpa using hn h4 p hp
  rw [hf]
 ·rfl
theorem now_spec (E : World) (g : PH) (s : Own) (b5 : Nat) (sv pv : Value) (e : Ed) (id : Int) (q : Nat) (hq : s[q]? = some (pt b5 (.cells #[vi e.kind,vi e.cell,vi e.dim,vi e.new,vi e.other,sv,pv] 39 (0,0)))) (hpv : SlA encPr g pv e.pairs) (hpl : e.pairs.length < 1099511627776) :
  CallV Tryz.prog E (.func (.func 44) #[] #[pp b5 0]) [vi id] g s (fun r g' s'=>r = vi (nowC e id) ∧ g = g' ∧ s = s'):=by
 obtain ⟨p,c,rfl⟩:=SlA.form hpv
 refine CallV.mk (args:=[_]) (cap:=[pp b5 0]) call44 ?_
 refine Ctr.of (args:=[vi id,pp b5 0]) func44 I ntmps44 (bE I) ?_
 refine SC.sR (lA I (SL.nT (sQ (SC.sR (lU (fA uT39 I sizeOf31 I) (lK (qL (v:=.slice p e.pairs.length c) isAgg31 I (cO q hq I)) (lU (eN uT31 I) (lM I (SL.nT (bK ?_))))))))))
 refine oP (ι:=Nat) (fun k=>[(0,vi id),(1,pp b5 0),(7,.slice p e.pairs.length c),(8,vi e.pairs.length),(9,vi k)]) (fun _=>g) (fun _=>s)
  (fun k=>k ≤ e.pairs.length ∧ (e.kind = 4 → ∀ j (hj : j < k) (hl : j < e.pairs.length),e.pairs[j].2 ≠ id)) (fun k=>e.pairs.length - k) 0 sB rfl rfl ⟨Nat.zero_le _,fun _ j hj=>absurd hj oM⟩ ?_
 rintro k ⟨hk,hno⟩
 try dsimp only at hk hno ⊢
 refine SC.sR (lU (lS I I) (SL.nT (sQ ?_)))
 refine iP I (fun hlt=>?_) (fun hlt=>?_)
 ·have hkl : k < e.pairs.length:=oM
  have hb1:=SlA.based hpv oM
  have hgk : e.pairs[((k : Nat) : Int).toNat]? = some e.pairs[k]:=gE hkl
  have hfound:=fun h4 h=>now_found (e:=e) (id:=id) h4 hkl h (fun j hj=>hno h4 j hj oM)
  have hsucc : (e.kind = 4 → e.pairs[k].2 ≠ id) → e.kind = 4 → ∀ j (hj : j < k + 1) (hl : j < e.pairs.length),e.pairs[j].2 ≠ id:=fun h h4 j hj hl=>by
   by_cases hjk : j = k
   ·subst hjk; exact h h4
   ·exact hno h4 j oM hl
  generalize e.pairs[k] = x at *
  obtain ⟨x1,x2⟩:=x
  dsimp only at hfound hsucc
  by_cases h4 : e.kind = 4
  ·refine kP (tN (sQ (bK (SC.sR (lU (iA uT31 zT44 I I hb1 oM sL) (lK (eA iT44 zT44 I (SlA.rd hpv) hgk) (SL.bx (aL zeroValue44) fun b5=>?_)))))))
   refine SL.O2 (sK 0 zT44 I I I I I sB) ?_
   refine SL.nT (SC.sR (lU (fA uT39 I zT3 I) (lK (qL (v:=vi e.kind) iT3 I (cO (q + 1) hq I)) (lU (SU.eq (v':=vb true) (eQ I I) (congrArg vb (decide_eq_true h4))) (lM I (lY I I I (iB uT44 zT3 I I dC dC) (SL.gq (gT I I I dC) (qL (v:=vi x2) iT3 I (cO 0 I I)) dC (lY I I I (mV I) (lY I I I (eQ I I) (lU (pT I I) (SL.nT ?_)))))))))))
   refine iP I (fun hx=>?_) (fun hx=>?_)
   ·refine SC.sR (lU (iB uT44 zT3 I I dC dC) (lK (qL (v:=vi x1) iT3 I (cO 0 I I)) (lA I (SL.nT (rE (bR (tR (tR (bR (tR (dR (s':=s) (.cons _ (.refl _)) ?_)))))))))))
    exact ST.ret1 (.inl I) results44 I ⟨by rw [hfound h4 hx],I,I⟩
   ·refine kP (bN (tN (rG (lU (aD I I oM) (lM I (nL (dR (s':=s) (.cons _ (.refl _)) ?_)))))))
    exact ST.again (k + 1) sB I I ⟨oM,hsucc fun _=>hx⟩ oM
  ·refine kP (tN (sQ (bK (SC.sR (lU (iA uT31 zT44 I I hb1 oM sL) (lK (eA iT44 zT44 I (SlA.rd hpv) hgk) (SL.bx (aL zeroValue44) fun b5=>?_)))))))
   refine SL.O2 (sK 0 zT44 I I I I I sB) ?_
   refine SL.nT (SC.sR (lU (fA uT39 I zT3 I) (lK (qL (v:=vi e.kind) iT3 I (cO (q + 1) hq I)) (lU (SU.eq (v':=vb false) (eQ I I) (congrArg vb (decide_eq_false h4))) (lM I (lZ I I I (lZ I I I (lZ I I I (lZ I I I (lU (pF I I) (SL.nT (cF I (kP (bN (tN (rG (lU (aD I I oM) (lM I (nL (dR (s':=s) (.cons _ (.refl _)) ?_))))))))))))))))))))
   exact ST.again (k + 1) sB I I ⟨oM,hsucc fun h=>absurd h h4⟩ oM
 ·refine xI (tX (tX (bX (tN (SC.sR (lM I (lA I (SL.nT (rE ?_)))))))))
  exact ST.ret1 (.inl I) results44 I ⟨by
   rw [now_none fun h4 x hx=>?_]
   obtain ⟨j,hj,rfl⟩:=List.getElem_of_mem hx
   exact hno h4 j oM hj,I,I⟩
theorem repairProg_spec (E : World) (g : PH) (s : Own) (v mv ev : Value) (l : List Cl) (m : List Pr) (e : Ed) (code : Int) (D : List Cl) (hv : Cells g v l) (hm : SlA encPr g mv m) (he : EdR g ev e) (hml : m.length < 499999999999) (hpl : e.pairs.length < 1099511627776) (ha : ApplyTo l e code D) (hD : code = 0 → Fits D ∧ D.length ≤ 100000) :
  Ctr Tryz.prog E 20 #[.agg #[v],mv,ev] g s (fun r g' s'=>s = s' ∧ Le g g' ∧ RepairR (repairOut m e code D) r g'):=by
 have he0:=he
 obtain ⟨sv,pv,rfl,hsv,hpv⟩:=he
 obtain ⟨sp,sc,rfl⟩:=SlA.form hsv
 obtain ⟨pq,pc,rfl⟩:=SlA.form hpv
 obtain ⟨p,c,rfl⟩:=hv.form
 obtain ⟨q,d,rfl⟩:=SlA.form hm
 refine Ctr.of (args:=[.agg #[.slice p l.length c],.slice q m.length d,.agg #[vi e.kind,vi e.cell,vi e.dim,vi e.new,vi e.other,.slice sp e.sides.length sc,.slice pq e.pairs.length pc]]) func20 I ntmps20 (bE I) ?_
 refine SC.sR (SL.bx (bO I) fun b3=>?_)
 refine SL.bx (bO I) fun b5=>?_
 refine SL.bx (aL zeroValue29) fun b6=>?_
 refine lA I (lA I (SL.nT (SC.sR (lK (qV 2 iT29 zT29 I I I) (lK (qV 1 isAgg39 sizeOf39 I I I) (lW (SO.call call43 I (ha E g _ _ _ hv he0)) ?_))))))
 rintro _ g1 _ ⟨rfl,hle1,u1,p1,n1,c1,k1,rfl,hu1⟩
 obtain ⟨pu,cu,rfl⟩:=hu1.form
 refine lM I (lU (xT I I) (lU (xT I I) (lU (xT I I) (SL.bx (aL zeroValue29) fun b9=>?_))))
 refine SL.bx (aL zeroValue89) fun b10=>?_
 refine SL.O2 (sK 1 zT29 I I I I I sB) ?_
 refine SL.O2 (sK 0 zT89 I I I I I sB) ?_
 refine lA I (SL.nT (sQ (SC.sR (lM I (lU (nQ I I) (SL.nT ?_))))))
 refine iP I (fun hc0=>?_) (fun hc0=>?_)
 ·have ho : repairOut m e code D = (code,[],[]):=if_pos hc0
  rw [ho]
  refine SC.sR (lU (SU.build I buildE29) (lM I (SL.O2 (sK 2 zT29 I I I I I sB) ?_)))
  refine lA I (lA I (SL.nT (rE (tR ?_))))
  exact ST.retCTT 2 s (.inl I) results20 I I I iT29 zT29 I I (.cons _ (.cons _ (.cons _ (.cons _ (.cons _ (.refl _)))))) ⟨I,hle1,_,_,I,Cells.nil _,Sl.nil _ _⟩
 ·have hc : code = 0:=Decidable.not_not.1 hc0
  subst hc
  obtain ⟨hDf,hDl⟩:=hD rfl
  have ho : repairOut m e 0 D = (0,D,extendR D (m.map fun p=>(nowC e p.1,nowC e p.2))):=rfl
  rw [ho]
  have hm1:=SlA.mono hm hle1
  have hpv1:=SlA.mono hpv hle1
  refine kP (tN (SC.sR (lU (SU.mkFunc I) (lA I (SL.nT (SC.sR (lA I (SL.nT (sQ (SC.sR (lM I (lU (eN uT31 I) (lM I (SL.nT (bK (SC.nilRow 44 2 ?_))))))))))))))))
  refine oP (ι:=Nat × Value) (fun i=>[(6,pp b6 0),(9,pp b9 0),(12,.func (.func 44) #[] #[pp b5 0]),(13,i.2),(28,.slice q m.length d),(29,vi m.length),(30,vi i.1)]) (fun _=>g1)
   (fun i=>rowA encPr 44 i.2 ((m.take i.1).map fun p=>(nowC e p.1,nowC e p.2)) :: pt b10 (.cells #[.slice p1 n1 c1,vb k1] 89 (0,0)) :: pt b9 (.cells #[.slice pu D.length cu] 29 (0,0)) :: pt b6 (.cells #[.slice none 0 0] 29 (0,0)) :: pt b5 (.cells #[vi e.kind,vi e.cell,vi e.dim,vi e.new,vi e.other,.slice sp e.sides.length sc,.slice pq e.pairs.length pc] 39 (0,0)) :: pt b3 (.cells #[.slice p l.length c] 29 (0,0)) :: s)
   (fun i=>i.1 ≤ m.length) (fun i=>m.length - i.1) (0,.slice none 0 0) sB rfl rfl (Nat.zero_le _) ?_
  rintro ⟨k,lv⟩ hk
  dsimp only at hk ⊢
  refine SC.sR (lU (lS I I) (SL.nT (sQ ?_)))
  refine iP I (fun hlt=>?_) (fun hlt=>?_)
  ·have hkl : k < m.length:=oM
   have hb1:=SlA.based hm1 oM
   have hgk : m[((k : Nat) : Int).toNat]? = some m[k]:=gE hkl
   have htk : (m.take (k + 1)).map (fun p=>(nowC e p.1,nowC e p.2)) = (m.take k).map (fun p=>(nowC e p.1,nowC e p.2)) ++ [(nowC e m[k].1,nowC e m[k].2)]:=by rw [tS hkl,List.map_append]; rfl
   have hll : ((m.take k).map fun p=>(nowC e p.1,nowC e p.2)).length = k:=by rw [List.length_map,List.length_take]; omega
   generalize m[k] = x at *
   obtain ⟨x1,x2⟩:=x
   dsimp only at htk
   refine kP (tN (sQ (bK (SC.sR (lU (iA uT31 zT44 I I hb1 oM sL) (lK (eA iT44 zT44 I (SlA.rd hm1) hgk) (SL.bx (aL zeroValue44) fun b15=>?_)))))))
   refine SL.O2 (sK 0 zT44 I I I I I sB) ?_
   refine SL.nT ?_
   refine dW [11] [(0,2),(1,2),(2,2),(3,1),(5,2),(6,2),(7,1),(4,0),(8,0),(9,2),(10,0),(11,0),(12,2)] Tryz.mixed (by kernel_rfl) ?_
   refine pU rfl (mV rfl) (pU rfl (mV rfl) (pU rfl (iB uT44 zT3 rfl rfl dC dC) (pK rfl (qL (v:=vi x1) iT3 rfl (cO 0 rfl rfl)) (pU rfl (mV rfl) (pU rfl (iB uT44 zT3 rfl rfl dC dC) (pK rfl (qL (v:=vi x2) iT3 rfl (cO 0 rfl rfl)) (SP.o rfl (SO.callV rfl rfl (now_spec E g1 _ b5 _ _ e x1 5 rfl hpv1 hpl)) dC (.inr (by rintro _ _ _ ⟨rfl,rfl,rfl⟩; exact ⟨by exact Le.refl _,(by exact .refl _)⟩)) ?_)))))))
   rintro _ _ _ ⟨rfl,rfl,rfl⟩
   refine SP.o rfl (SO.callV rfl rfl (now_spec E g1 _ b5 _ _ e x2 5 rfl hpv1 hpl)) dC (.inr (by rintro _ _ _ ⟨rfl,rfl,rfl⟩; exact ⟨by exact Le.refl _,(by exact .refl _)⟩)) ?_
   rintro _ _ _ ⟨rfl,rfl,rfl⟩
   refine pU rfl (SU.build rfl (build44 _ _)) (SP.o rfl (bS sty31 rfl rfl rfl (szs_mk sB) dC) dC (.inr (by rintro _ _ _ ⟨b44,rfl,rfl,rfl⟩; exact ⟨by exact Le.refl _,(by exact .cons _ (.refl _))⟩)) ?_)
   rintro _ _ _ ⟨b44,rfl,rfl,rfl⟩
   refine SP.o I (aP (e:=encPr) 1 (nowC e x1,nowC e x2) sty31 I I I I I oM oM) dC (.inl dC) ?_
   rintro lv' _ _ ⟨rfl,rfl⟩
   refine pU I (aS I) (pN (bN (tN (rG (lU (aD I I oM) (lM I (nL (dR (.cons _ (.refl _)) ?_))))))))
   exact ST.again (k + 1,lv') sB rfl (by dsimp only; rw [htk]; rfl) (by dsimp only; omega) (by dsimp only; omega)
  ·have hkk : m.take k = m:=tL oM
   rw [hkk]
   refine xI (tX (tX (bX (tN (sQ (fS fun g2 hle2 hs2=>?_))))))
   refine dW [4] [(0,1),(1,1),(2,2),(3,0),(4,0),(5,2),(6,2)] Tryz.mixed (by kernel_rfl) ?_
   refine pK rfl (qV 1 iT29 zT29 rfl rfl rfl) (pK rfl (qV 1 iT29 zT29 rfl rfl rfl) (pU rfl (mV rfl) (SP.o rfl (SO.call call15 rfl (extendProg_spec E g2 _ _ _ D _ (hu1.mono hle2) hDf hDl hs2 (by rw [List.length_map]; omega))) dC (.inr (by rintro v50 g3 _ ⟨rfl,hle3,hx3⟩; exact ⟨by assumption,(by exact .refl _)⟩)) ?_)))
   rintro v50 g3 _ ⟨rfl,hle3,hx3⟩
   refine SP.on I (sK 2 zT29 I I I I I sB) (.inl dC) ?_
   rintro _ _ _ ⟨rfl,rfl⟩
   refine pU I (aS I) (pU I (aS I) (pN (tN (rE ?_))))
   exact ST.retCTT 2 s (.inl I) results20 I I I iT29 zT29 I I (.cons _ (.cons _ (.cons _ (.cons _ (.cons _ (.refl _)))))) ⟨I,hle1.trans (hle2.trans hle3),_,_,I,hu1.mono (hle2.trans hle3),hx3⟩
def sanM : List Pr:=[(1,4),(2,6),(5,7)]
def remE : Ed:=⟨2,7,0,0,0,[],[]⟩
def attE : Ed:=⟨1,8,0,0,0,[],[]⟩
def remL : List Cl:=canonC (delC triL 7)
def attL : List Cl:=canonC (putC triL ⟨8,0,[]⟩)
theorem tri_canon : canonC triL = triL:=by kernel_rfl
theorem tri_keep : keepR triL [(1,4),(1,5),(2,6)] = [(1,4),(2,6)]:=by kernel_rfl
theorem tri_extend : extendR triL [(3,5)] = [(3,5),(1,4),(6,7)]:=by kernel_rfl
theorem rem_out : applyOut (removeCode triL remE) (delC triL 7) = (0,remL):=by kernel_rfl
theorem att_out : applyOut (attachCode triL attE) (putC triL ⟨8,0,[]⟩) = (0,attL):=by kernel_rfl
theorem rem_pairs : repairOut sanM remE 0 remL = (0,remL,[(1,4),(2,6)]):=by kernel_rfl
theorem att_pairs : repairOut sanM attE 0 attL = (0,attL,sanM):=by kernel_rfl
theorem rem_len : ((remL.length : Nat) : Int) = 6:=by kernel_rfl
theorem rem_fits : Fits remL:=fits_dec (by kernel_rfl) (by decide +kernel)
theorem att_fits : Fits attL:=fits_dec (by kernel_rfl) (by decide +kernel)
theorem rem_few : remL.length ≤ 100000:=by decide +kernel
theorem att_few : attL.length ≤ 100000:=by decide +kernel
theorem tri_okC : (checkC triL).2 = 0:=by rw [tri_check]
theorem rem_apply : ApplyTo triL remE 0 remL:=fun E g s v ev hv he=>by
 have h:=apply_run E g s v ev triL remE hv tri_fits he tri_okC _ _ _ true rfl (remove_run (canonC triL) (canonC_fits tri_fits) remE) (fun _=>by rw [tri_canon]; exact ⟨fits_dec (by decide +kernel) (by decide +kernel),by decide +kernel⟩)
 rw [tri_canon,show remE.cell = 7 from rfl,rem_out] at h
 exact h
theorem att_apply : ApplyTo triL attE 0 attL:=fun E g s v ev hv he=>by
 have h:=apply_run E g s v ev triL attE hv tri_fits he tri_okC _ _ _ false rfl (attach_run (canonC triL) attE dC) (fun _=>by rw [tri_canon]; exact ⟨fits_dec (by decide +kernel) (by decide +kernel),by decide +kernel⟩)
 rw [tri_canon,show (⟨attE.cell,attE.dim,attE.sides⟩ : Cl) = ⟨8,0,[]⟩ from rfl,att_out] at h
 exact h
theorem Tryz.build39 (a b : Int) (w : World) : (Instr.build 39 #[(0,vi a),(1,vi b)]).run Tryz.prog w = .ok (.agg #[vi a,vi b,vi 0,vi 0,vi 0,.slice none 0 0,.slice none 0 0]) w:=by
 have h1 : (vi a).cells = #[vi a]:=rfl
 have h2 : (vi b).cells = #[vi b]:=rfl
 simp [Instr.build,Instr.fill,h1,h2]
 rfl
theorem sane14 : Sane14:=by
 intro E g s
 refine Ctr.of (args:=[]) func9 I ntmps9 (bE I) ?_
 refine SC.sR (lA I (SL.nT (SC.sR (lW (SO.call call28 I (triangle14_spec E g _)) ?_))))
 rintro _ g1 _ ⟨rfl,hle1,u1,rfl,hv1⟩
 obtain ⟨q1,d1,rfl⟩:=hv1.form
 refine SL.bx (aL zeroValue29) fun b1=>?_
 refine SL.O2 (sK 0 zT29 I I I I I sB) ?_
 refine SL.nT (SC.sR (lU (SU.build I (build44 _ _)) (lU (SU.build I (build44 _ _)) (lU (SU.build I (build44 _ _)) (lW (bS sty31 I I I (szs_mk sB) dC) ?_)))))
 rintro _ _ _ ⟨b16,rfl,rfl,rfl⟩
 refine SL.freeze fun g2 hle2 hb2=>?_
 have hm2 : SlA encPr g2 (.slice (some ⟨b16,0,none⟩) 3 3) sanM:=SlA.lit hb2 rfl rfl
 have hv2:=hv1.mono hle2
 refine lA I (SL.nT (SC.sR (lK (qV 0 iT29 zT29 I I I) (lU (SU.build I (build44 _ _)) (lU (SU.build I (build44 _ _)) (lU (SU.build I (build44 _ _)) (lW (bS sty31 I I I (szs_mk sB) dC) ?_)))))))
 rintro _ _ _ ⟨b21,rfl,rfl,rfl⟩
 refine SL.freeze fun g3 hle3 hb3=>?_
 have hk3 : SlA encPr g3 (.slice (some ⟨b21,0,none⟩) 3 3) [(1,4),(1,5),(2,6)]:=SlA.lit hb3 rfl rfl
 have hv3:=hv2.mono hle3
 refine lW (SO.call call13 I (keepProg_spec E g3 _ _ _ triL _ hv3 tri_fits hk3 dC)) ?_
 rintro v22 g4 _ ⟨rfl,hle4,hk4⟩
 rw [tri_keep] at hk4
 have hv4:=hv3.mono hle4
 refine lA I (SL.nT (SC.sR (lK (qV 0 iT29 zT29 I I I) (lU (SU.build I (build44 _ _)) (lW (bS sty31 I I I (szs_mk ⟨I,trivial⟩) dC) ?_)))))
 rintro _ _ _ ⟨b25,rfl,rfl,rfl⟩
 refine SL.freeze fun g5 hle5 hb5=>?_
 have hk5 : SlA encPr g5 (.slice (some ⟨b25,0,none⟩) 1 1) [(3,5)]:=SlA.lit hb5 rfl rfl
 have hv5:=hv4.mono hle5
 refine lW (SO.call call15 I (extendProg_spec E g5 _ _ _ triL _ hv5 tri_fits dC hk5 dC)) ?_
 rintro v26 g6 _ ⟨rfl,hle6,hx6⟩
 rw [tri_extend] at hx6
 have hv6:=hv5.mono hle6
 have hm6:=SlA.mono hm2 (hle3.trans (hle4.trans (hle5.trans hle6)))
 refine lA I (SL.nT (SC.sR (lK (qV 0 iT29 zT29 I I I) (lM I (lU (SU.build I (build39 _ _)) (lW (SO.call call20 I (repairProg_spec E g6 _ _ _ _ triL sanM remE 0 remL hv6 hm6 ⟨_,_,I,Sl.nil _ _,Sl.nil _ _⟩ dC dC rem_apply (fun _=>⟨rem_fits,rem_few⟩))) ?_))))))
 rintro _ g7 _ ⟨rfl,hle7,hr7⟩
 rw [rem_pairs] at hr7
 obtain ⟨u7,pv7,rfl,hu7,hp7⟩:=hr7
 obtain ⟨q7,d7,rfl⟩:=hu7.form
 have hv7:=hv6.mono hle7
 have hm7:=SlA.mono hm6 hle7
 refine lM I (lU (xT I I) (lU (xT I I) (lU (xT I I) (SL.bx (aL zeroValue29) fun b5=>?_))))
 refine SL.O2 (sK 0 zT29 I I I I I sB) ?_
 refine lA I (lA I (SL.nT (SC.sR (lK (qV 1 iT29 zT29 I I I) (lM I (lU (SU.build I (build39 _ _)) (lW (SO.call call20 I (repairProg_spec E g7 _ _ _ _ triL sanM attE 0 attL hv7 hm7 ⟨_,_,I,Sl.nil _ _,Sl.nil _ _⟩ dC dC att_apply (fun _=>⟨att_fits,att_few⟩))) ?_)))))))
 rintro _ g8 _ ⟨rfl,hle8,hr8⟩
 rw [att_pairs] at hr8
 obtain ⟨u8,pv8,rfl,hu8,hp8⟩:=hr8
 obtain ⟨q8,d8,rfl⟩:=hu8.form
 have hm8:=SlA.mono hm7 hle8
 have hle18:=hle1.trans (hle2.trans (hle3.trans (hle4.trans (hle5.trans (hle6.trans (hle7.trans hle8))))))
 refine lM I (lU (xT I I) (lU (xT I I) (lU (xT I I) (SL.bx (aL zeroValue29) fun b8=>?_))))
 refine SL.O2 (sK 0 zT29 I I I I I sB) ?_
 refine lA I (lA I (SL.nT (SC.sR (lM I (lU (SU.build I (build44 _ _)) (lU (SU.build I (build44 _ _)) (lW (bS sty31 I I I (szs_mk sB) dC) ?_)))))))
 rintro _ _ _ ⟨b46,rfl,rfl,rfl⟩
 refine SL.freeze fun g9 hle9 hb9=>?_
 have hk9 : SlA encPr g9 (.slice (some ⟨b46,0,none⟩) 2 2) [(1,4),(2,6)]:=SlA.lit hb9 rfl rfl
 have hle49:=hle5.trans (hle6.trans (hle7.trans (hle8.trans hle9)))
 refine lW (SO.call call12 I (same13_refl E g9 _ _ _ _ (SlA.mono hk4 hle49) hk9 dC)) ?_
 rintro _ _ _ ⟨rfl,rfl,rfl⟩
 refine lM I (lY I I I (mV I) (lY I I I (SU.build I (build44 _ _)) (lY I I I (SU.build I (build44 _ _)) (lY I I I (SU.build I (build44 _ _)) (SL.go (gT I I I dC) (bS sty31 I I I (szs_mk sB) dC) dC ?_)))))
 rintro _ _ _ ⟨b53,rfl,rfl,rfl⟩
 refine SL.freeze fun gA hleA hbA=>?_
 have hkA : SlA encPr gA (.slice (some ⟨b53,0,none⟩) 3 3) [(3,5),(1,4),(6,7)]:=SlA.lit hbA rfl rfl
 refine SL.go (gT I I I dC) (SO.call call12 I (same13_refl E gA _ _ _ _ (SlA.mono hx6 (hle7.trans (hle8.trans (hle9.trans hleA)))) hkA dC)) dC ?_
 rintro _ _ _ ⟨rfl,rfl,rfl⟩
 refine lU (pT I I) (lA I (SL.nT (SC.sR (lM I (lM I (lY I I I (mV I) (lY I I I (eQ I I) (lU (pT I I) (lM I (lY I I I (fA uT29 I zT27 I) (SL.gq (gT I I I dC) (qL iT27 I (cO 1 I I)) dC (lY I I I (eN uT27 I) (lY I I I (SU.eq (v':=vb true) (eQ I I) (congrArg vb (decide_eq_true rem_len))) (lU (pT I I) (lM I (lY I I I (mV I) (lY I I I (SU.build I (build44 _ _)) (lY I I I (SU.build I (build44 _ _)) (SL.go (gT I I I dC) (bS sty31 I I I (szs_mk sB) dC) dC ?_)))))))))))))))))))
 rintro _ _ _ ⟨b71,rfl,rfl,rfl⟩
 refine SL.freeze fun gB hleB hbB=>?_
 have hkB : SlA encPr gB (.slice (some ⟨b71,0,none⟩) 2 2) [(1,4),(2,6)]:=SlA.lit hbB rfl rfl
 have hle8B:=hle9.trans (hleA.trans hleB)
 refine SL.go (gT I I I dC) (SO.call call12 I (same13_refl E gB _ _ _ _ (SlA.mono hp7 (hle8.trans hle8B)) hkB dC)) dC ?_
 rintro _ _ _ ⟨rfl,rfl,rfl⟩
 refine lU (pT I I) (lM I (lY I I I (mV I) (lY I I I (eQ I I) (lU (pT I I) (lM I (lY I I I (mV I) (lY I I I (mV I) (SL.go (gT I I I dC) (SO.call call12 I (same13_refl E gB _ _ _ _ (SlA.mono hp8 hle8B) (SlA.mono hm8 hle8B) dC)) dC ?_))))))))
 rintro _ _ _ ⟨rfl,rfl,rfl⟩
 refine lU (pT I I) (lA I (SL.nT (rE (dR (s':=s) (.cons _ (.cons _ (.cons _ (.refl _)))) ?_))))
 exact ST.ret1 (.inl I) results9 I ⟨I,I,hle18.trans hle8B⟩
theorem keeps_done (E : World) (g : PH) (s : Own) (sp bs : Nat) (vL vG : Value) (L : List Int) (G : List Nat) (vn : Value) (ns : List Int) (hL : Ints g vL L) (hG : SlA encB g vG (G.map fun x : Nat=>(x : Int))) (hsp : sp < 256) (hbs : bs < 256) (hGb : ∀ x ∈ G,x < 256) (hn : Ints g vn ns) :
  Ctr Tryz.prog E 3 #[.agg #[.int .u8 (sp : Int),vL,vG,.int .u8 (bs : Int)],vn] g s (fun r g' s'=>r = vb true ∧ s = s' ∧ Le g g') :=
 keeps_law sane14 E g s sp bs vL vG vn L ns G hL hG hn hsp hbs hGb
open Go.ChangeShapes Go.WideShapes Go.ChangeAt Go.RowKit
set_option maxRecDepth 100000
section
variable {H : Type} {enc : TypeId × Value → H} {W : World} {base : Nat} {spare : Nat → Bool} {hd : Bool}
theorem Tryz.cells5 : Tryz.prog.cellsOf 5 = 1:=by kernel_rfl
theorem Tryz.cells25 : Tryz.prog.cellsOf 25 = 4:=by kernel_rfl
theorem u8_wf {n : Int} (h : (Lit.int .u8 n).wf = true) : ∃ k : Nat,n = (k : Int) ∧ k < 256:=by
 have h2 : IntKind.u8.min ≤ n ∧ n ≤ IntKind.u8.max:=by simpa [Lit.wf] using h
 have e1 : IntKind.u8.min = 0:=by decide
 have e2 : IntKind.u8.max = 255:=by decide
 exact ⟨n.toNat,oM,oM⟩
theorem byte_of {fuel : Nat} {v : Value} {x : DataW H × List MemPlace} (h : DataW.trod enc Tryz.prog W base spare hd fuel 5 [v] = some x) : ∃ k : Nat,v = .int .u8 (k : Int) ∧ k < 256:=by
 obtain ⟨a,e,_,w⟩:=DataW.trod_int uT5 h
 obtain ⟨k,rfl,hk⟩:=u8_wf w
 simp at e
 exact ⟨k,e,hk⟩
theorem bytes_of {fuel : Nat} {v : Value} {x : DataW H × List MemPlace} (h : DataW.trod enc Tryz.prog W base spare hd fuel 23 [v] = some x) : ∃ l : List Nat,SlA encB (held W) v (l.map fun k : Nat=>(k : Int)) ∧ ∀ k ∈ l,k < 256:=by
 rcases Go.Deep.open_slice1 underlying23 cells5 h with ⟨hcs,_⟩ | ⟨a,len,cap,m,n,V,D,Pl,hcs,_,hl,_,hmm,_,hx⟩
 ·simp at hcs
  subst hcs
  exact ⟨[],Sl.nil _ _,by simp⟩
 ·simp at hcs
  subst hcs
  have hlm : len ≤ m:=by rw [hmm]; split <;> omega
  obtain ⟨f,hf⟩:=Go.Deep.choose_lt (α:=Nat) (n:=len) (p:=fun i k=>V i = .int .u8 (k : Int) ∧ k < 256) fun i hi=>byte_of (hx i oM).2
  refine ⟨(List.range len).map f,?_,fun k hk=>?_⟩
  ·show Sl (held W) 1 _ (((List.range len).map f).map fun k : Nat=>(k : Int)).length ((((List.range len).map f).map fun k : Nat=>(k : Int)).flatMap encB.enc)
   have he : (((List.range len).map f).map fun k : Nat=>(k : Int)).flatMap encB.enc = (List.range len).map fun i=>V i:=by
    have : ∀ l : List Nat,(∀ i ∈ l,i < len) → ((l.map f).map fun k : Nat=>(k : Int)).flatMap encB.enc = l.map fun i=>V i:=by
     intro l
     induction l with
     | nil=>intro _; rfl
     | cons y t ih =>
      intro hy
      rw [List.map_cons,List.map_cons,List.flatMap_cons,ih fun i hi=>hy i (by simp [hi]),List.map_cons,(hf y (hy y (by simp))).1]
      rfl
    exact this _ fun i hi=>List.mem_range.1 hi
   rw [he,List.length_map,List.length_map,List.length_range]
   refine row_sl hl (by simp) fun i y hi=>?_
   rw [List.getElem?_map] at hi
   cases hc : (List.range len)[i]? with
   | none=>rw [hc] at hi; cases hi
   | some z =>
    rw [hc] at hi
    cases hi
    obtain ⟨h1,h2⟩:=List.getElem?_eq_some_iff.1 hc
    simp at h1 h2
    subst h2
    exact (hx i oM).1
  ·obtain ⟨i,hi,rfl⟩:=List.mem_map.1 hk
   exact (hf i (List.mem_range.1 hi)).2
theorem shape8_of {r : Reach} {b0 : Nat} {v : Value} {d : DataW H} {p : List MemPlace} (hv : Value.okWide Tryz.prog W r b0 25 v) (h : DataW.Trod enc Tryz.prog W base spare hd 25 v d p) :
  ∃ (sp bs : Nat) (vL vG : Value) (L : List Int) (G : List Nat),v = .agg #[.int .u8 (sp : Int),vL,vG,.int .u8 (bs : Int)] ∧ Ints (held W) vL L ∧ SlA encB (held W) vG (G.map fun k : Nat=>(k : Int)) ∧ sp < 256 ∧ bs < 256 ∧ ∀ x ∈ G,x < 256:=by
 obtain ⟨c0,c1,c2,c3,y0,y1,y2,y3,n,rfl,_,_,h0,h1,h2,h3⟩:=Go.Joins.open_agg4 uT25 (by kernel_rfl) cells25 hv h
 obtain ⟨sp,rfl,hsp⟩:=byte_of h0
 obtain ⟨bs,rfl,hbs⟩:=byte_of h3
 obtain ⟨L,rL,-,hL⟩:=ints_of h1
 obtain ⟨G,hG,hGb⟩:=bytes_of h2
 exact ⟨sp,bs,c1,c2,L,G,I,hL,hG,hsp,hbs,hGb⟩
theorem ints_arg {v : Value} {d : DataW H} {p : List MemPlace} (h : DataW.Trod enc Tryz.prog W base spare hd 22 v d p) (hv : v.cells = #[v]) : ∃ l : List Int,Ints (held W) v l:=by
 obtain ⟨fuel,hf⟩:=h
 rw [hv] at hf
 obtain ⟨l,r,-,hl⟩:=ints_of hf
 exact ⟨l,hl⟩
end
end Go.Proofs.YteahknngoogpaaaGreatDoor
namespace Go.Proofs.YteahknngoogpaaaGreatDoor.repairKeepsDone
open _root_.Go.Proofs.Tryz _root_.Go.Proofs.YteahknngoogpaaaGreatDoor.Tryz
open Go Go.Sy Go.Pl Go.Proofs Go.Proofs.YteahknngoogpaaaGreatDoor
open Go.ChangeShapes Go.WideShapes Go.ChangeAt Go.RowKit
set_option linter.unusedVariables false
theorem own : ownKnob Tryz.prog.godebug = none:=by kernel_rfl
theorem laidOut : laidOutB Tryz.prog = true:=by kernel_rfl
set_option maxRecDepth 100000 in
theorem lifted (os : Os) (started : os.Started) (H : Type) (enc : TypeId × Value → H) :
  ReturnsInHanded {} Tryz.checked os 3 .any (fun w args=>(Rows.repairKeepsSpec.pre enc Tryz.prog f3 Rows.repairKeepsRow.domain false w args ∧ laidMetH Tryz.prog Rows.repairKeepsRow.laid w) ∧ sizedMet enc Tryz.prog f3 (OpenSpec.ofChange Rows.repairKeepsSpec) false w args)
   (Rows.repairKeepsSpec.post enc Tryz.prog f3 false true false false):=by
 refine returnsInHanded_of_change_and (C:=Tryz.checked) (X:=fun w _=>laidMetH Tryz.prog Rows.repairKeepsRow.laid w) (fun _ _ _ hh h=>h.of_heap hh) own started (by kernel_rfl) func3
  (ChangeSpec.witness_shaped (enc:=enc) (C:=Tryz.checked) (os:=os) (X:=fun w _=>laidMetH Tryz.prog Rows.repairKeepsRow.laid w) false (World.laidAll Tryz.prog os Rows.repairKeepsRow.laid) #[.agg #[.int .u8 0,.slice none 0 0,.slice none 0 0,.int .u8 0],.slice none 0 0] 8 (World.laidAll_os _ _ _)
   (World.shaped_of_ZipB (by kernel_rfl) (by kernel_rfl)) (by kernel_rfl) (by kernel_rfl) (by kernel_rfl)
   (by rw [MakeChecks.laidMetH_plain _ _ _ (by kernel_rfl)]; exact laidMet_laidAll _ (by kernel_rfl) (by kernel_rfl))) ?_
 intro W base args ds gs before hval0 hW hcnd hsz0 hL _
 have hval : ∀ (j : Nat) t v,f3.params[j]? = some t → args[j]? = some v → Value.okWide Tryz.prog W .any base t v:=hval0
 have hW':=hW
 obtain ⟨p,q,hA0,hV,rfl,hfz,hnd⟩:=hW
 have hA : DataW.TrodAll enc Tryz.prog W 0 (fun _=>true) true f3.params.toList args.toList ds p:=hA0
 rw [params3] at hA hval
 obtain ⟨v0,vs0,d0,ds0,p0,q0,hargs,rfl,rfl,h0,r0⟩:=trodAll_cons hA
 obtain ⟨v1,vs1,d1,ds1,p1,q1,rfl,rfl,rfl,h1,r1⟩:=trodAll_cons r0
 obtain ⟨rfl,rfl,rfl⟩:=trodAll_nil r1
 obtain rfl : args = #[v0,v1]:=by cases args; simp_all
 obtain ⟨rfl,rfl⟩:=trodVars_none hV
 have lt0 : ∀ x ∈ p0,x.block < W.heap.size:=by obtain ⟨m,hm⟩:=h0; exact DataW.trod_lt m _ _ _ hm
 have lt1 : ∀ x ∈ p1,x.block < W.heap.size:=by obtain ⟨m,hm⟩:=h1; exact DataW.trod_lt m _ _ _ hm
 obtain ⟨sp,bs,vL,vG,L,G,e0,hL0,hG0,hsp,hbs,hGb⟩:=shape8_of (hval 0 25 v0 rfl rfl) h0
 obtain ⟨a1,n1,c1,s1⟩:=okWide_slice uT22 (hval 1 22 v1 rfl rfl)
 obtain ⟨ns1,hn1⟩:=ints_arg h1 (by rw [s1]; rfl)
 clear hA0 hval0
 have walk : Calls Tryz.prog 3 #[v0,v1] W fun e w'=>e = .returned (.bool true) ∧ Below W.heap.size W w':=by
  rw [e0]
  refine (keeps_done (E0 W) (held W) [] sp bs vL vG L G _ ns1 hL0 hG0 hsp hbs hGb hn1 W (at_start W)).mono ?_
  rintro e w' ⟨v,g',s',rfl,hat,rfl,rfl,hle⟩
  exact ⟨I,at_below hat hle⟩
 refine walk.mono fun e W' ⟨he,bel⟩=>?_
 subst he
 exact ⟨_,I,_,_,_,[],_,[],hW',trodAll_mk1 (shut_bool underlying4 _),(trodAll_cons_mk (Below.trod laidOut (by kernel_rfl) (of_decide_eq_true (by kernel_rfl)) h0 bel lt0) (trodAll_cons_mk (Below.trod laidOut (by kernel_rfl) (of_decide_eq_true (by kernel_rfl)) h1 bel lt1) trodAll_mk0)),I,bel.frame _,fun h=>by cases h⟩
theorem over : Rows.repairKeepsRow.holds Tryz.pinned (OpenSpec.ofChange Rows.repairKeepsSpec) :=
 OpenClaim.holds_of_wide 3 f3 rfl rfl rfl rfl rfl rfl rfl ⟨rfl,rfl,rfl,rfl,rfl⟩ rfl rfl rfl rfl rfl (by kernel_rfl) func3 (by kernel_rfl)
  (of_decide_eq_true (by kernel_rfl)) (by unfold Func.isWrapper; first | (rw [if_pos (by decide +kernel)]; kernel_rfl) | (rw [if_neg (by decide +kernel)]; exact ⟨rfl,rfl⟩))
  (fun os started H enc _=>lifted os started H enc)
theorem proved : Rows.RepairKeepsCardSaid :=
 Claim7.holds_tied_plain_at .later [] [.data,.pinned] true (true, "cc8490d755c8efa2bd5732542271e696329d87e8c2c1e45e59e8eb19c18b2b4e") false
  over (fun _ h=>by cases h) (by kernel_rfl) (fun _ h=>by cases h) repairKeeps_row_tie rfl ⟨rfl,rfl⟩ (by kernel_rfl) rfl
  (fun f fn hf hfn=>by
   obtain rfl : f = 3:=Option.some.inj ((show Tryz.prog.funcNamed "cocycle/cocyclelaw14.RepairKeeps" = some 3 by kernel_rfl).symm.trans hf) |>.symm
   obtain rfl : fn = f3:=(Option.some.inj (func3.symm.trans hfn)).symm
   exact ⟨by kernel_rfl,fun j t ht=>by
    rw [params3] at ht
    have hm : t ∈ [25,22]:=by simpa using Array.mem_of_getElem? ht
    have hall : ([25,22].all fun u=>!Tryz.prog.wantsStandIn u) = true:=by kernel_rfl
    exact (show Tryz.prog.wantsStandIn t = false by simpa using List.all_eq_true.1 hall t hm)⟩)
  (by kernel_rfl)
#print axioms proved
end Go.Proofs.YteahknngoogpaaaGreatDoor.repairKeepsDone
