/-
  The boundary of a boundary is 0: the law CellsClosed returns true, for every complex by numbers.
-/
import Derived.Test.YtkdibcicncjpdaaGreatDoorCl12
import Derived.Test.YtkdibcicncjpdaaGreatDoorCl10
import Derived.Test.YtkdibcicncjpdaaGreatDoorCl07
import Derived.Test.YtkdibcicncjpdaaGreatDoorCl09
import Derived.Test.YtkdibcicncjpdaaGreatDoorTie
import Derived.Test.YtkdibcicncjpdaaGreatDoorCards
import Derived.LaidMore
import Derived.Lay
import Derived.SevenTiedAt
import Derived.Stop.Joined
set_option linter.unusedSimpArgs false
set_option linter.unusedVariables false
namespace Go.Proofs.YtkdibcicncjpdaaGreatDoor
open _root_.Go.Proofs.Tryz _root_.Go.Proofs.YtkdibcicncjpdaaGreatDoor.Tryz
open Go Go.Sy Go.Pl Go.Proofs
set_option maxRecDepth 100000
set_option maxHeartbeats 1000000
theorem zeros_of {L : List Int} {R C : Nat} (h1 : L.length = R * C) (h2 : ∀ i < R,∀ j < C,L.getD (i * C + j) 0 = 0) : L = List.replicate (R * C) 0:=by
 refine List.eq_replicate_iff.2 ⟨h1,fun n hn=>?_⟩
 obtain ⟨x,hx,rfl⟩:=List.getElem_of_mem hn
 have hC : 0 < C:=by
  rcases Nat.eq_zero_or_pos C with e | e
  ·rw [e,Nat.mul_zero] at h1; omega
  ·exact e
 have hm : x / C < R:=by rw [Nat.div_lt_iff_lt_mul hC]; omega
 have:=h2 (x / C) hm (x % C) (Nat.mod_lt _ hC)
 rw [Nat.mul_comm,Nat.div_add_mod,List.getD_eq_getElem?_getD,gE hx] at this
 exact this
theorem cellsClosed_spec (E : World) (hE : E.drawn = 0) (g : PH) (s : Own) (v : Value) (kd y : Int) (ls : List (List Int)) (hv : Lists g v ls) :
  Ctr Tryz.prog E 5 #[.agg #[vi kd,v,vi y]] g s (fun r g' s'=>r = vb true ∧ s = s' ∧ Le g g'):=by
 obtain ⟨p,n,c,rfl⟩ : ∃ p n c,v = .slice p n c:=by
  obtain ⟨rs0,hrs0,_⟩:=hv
  obtain ⟨p,c,rfl⟩:=SlA.form hrs0
  exact ⟨_,_,_,I⟩
 have hrt:=made_right kd ls y
 have hfw:=made_few kd ls y
 have hmade:=fun g s v hv=>made_spec E g s v kd y ls hv
 generalize madeC kd ls y = M at *
 have hfm : Fits M:=⟨oM,fun c hc=>sides_few hrt hc⟩
 have hids : ∀ d,(idsC M d).length ≤ 200:=fun d=>by
  have:=ids_le M d
  rw [hrt.tab] at this
  omega
 have hmres:=fun d=>matRes_eq (M:=M) oM hrt.tab d
 have hmok : ∀ d,MatOk ((idsC M (d - 1)).length,(idsC M d).length,matE M d):=fun d=>⟨hids _,hids _,matE_len M d⟩
 refine Ctr.of (args:=[.agg #[vi kd,.slice p n c,vi y]]) func5 I ntmps5 (bE I) ?_
 refine SC.sR (SL.bx (bO I) fun b1=>?_)
 refine lA I (SL.nT (SC.sR (lW (cL call6 I (sanity_spec E hE g _)) ?_)))
 rintro _ g1 _ ⟨rfl,rfl,hle1⟩
 have hv1:=hv.mono hle1
 refine lA I (SL.nT (SC.sR (lK (qV 0 isAgg24 sizeOf24 I I I) (lW (cL call7 I (hmade g1 _ _ hv1)) ?_))))
 rintro _ g2 _ ⟨rfl,hle2,xm,rfl,hxm⟩
 obtain ⟨qm,dm,rfl⟩:=hxm.form
 refine SL.bx (aL zeroValue31) fun b4=>?_
 refine SL.O2 (sK 0 zT31 I I I I I sB) ?_
 refine SL.nT (sQ (SC.sR (lA I (SL.nT (bK ?_)))))
 have hle02:=hle1.trans hle2
 refine oP (ι:=Nat × PH) (fun i=>[(1,pp b1 0),(3,vb true),(4,pp b4 0),(5,vi i.1)]) (fun i=>i.2) (fun _=>pt b4 (.cells #[.slice qm M.length dm] 31 (0,0)) :: pt b1 (.cells #[vi kd,.slice p n c,vi y] 24 (0,0)) :: s) (fun i=>i.1 ≤ 4 ∧ Le g2 i.2) (fun i=>4 - i.1) (0,g2)
  sB rfl rfl ⟨Nat.zero_le _,Le.refl _⟩ ?_
 rintro ⟨i,g3⟩ ⟨hi,hle3⟩
 dsimp only at hi hle3 ⊢
 have hxm3:=hxm.mono hle3
 refine sQ (SC.sR (lM I (lU (lS I I) (SL.nT ?_))))
 refine iP I (fun hlt=>?_) (fun hlt=>?_)
 ·have e1:=hmres (i : Int)
  have e2:=hmres ((i : Int) + 1)
  have o1:=hmok (i : Int)
  have o2:=hmok ((i : Int) + 1)
  have hz:=fun L h1 h2=>zeros_of (L:=L) (R:=(idsC M ((i : Int) - 1)).length) (C:=(idsC M ((i : Int) + 1)).length) h1 h2
  have hdz:=fun a ha b hb=>dot_zero hrt (i : Int) (i:=a) (j:=b) ha hb
  have hA1:=matE_le hrt (i : Int)
  have hB1:=matE_le hrt ((i : Int) + 1)
  have e3 : idsC M ((i : Int) + 1 - 1) = idsC M (i : Int):=by rw [show (i : Int) + 1 - 1 = i by omega]
  have hR:=hids ((i : Int) - 1)
  have hK:=hids (i : Int)
  have hC:=hids ((i : Int) + 1)
  have hmat1:=fun g s h=>matrix_spec E g s (.slice qm M.length dm) M (i : Int) h hfm oM
  have hmat2:=fun g s h=>matrix_spec E g s (.slice qm M.length dm) M ((i : Int) + 1) h hfm oM
  have hid1:=fun g s h=>ids_spec E g s (.slice qm M.length dm) M ((i : Int) - 1) h hfm
  have hid2:=fun g s h=>ids_spec E g s (.slice qm M.length dm) M (i : Int) h hfm
  rw [e1] at hmat1
  rw [e2,e3] at hmat2
  rw [e3] at o2
  clear e1 e2 e3
  generalize matE M (i : Int) = A at *
  generalize matE M ((i : Int) + 1) = B at *
  generalize idsC M ((i : Int) - 1) = RL at *
  generalize idsC M (i : Int) = KL at *
  generalize (idsC M ((i : Int) + 1)).length = C at *
  refine kP (tN (sQ (bK (SC.sR (lK (qV 0 iT31 zT31 I I I) (lM I (lW (cL call21 I (hmat1 g3 _ hxm3)) ?_)))))))
  rintro x6 g4 _ ⟨rfl,hle4,hx6⟩
  have hx6':=hx6
  obtain ⟨p6,c6,rfl,hs6⟩:=hx6'
  dsimp only at hx6 hs6
  refine SL.bx (aL zeroValue55) fun b6=>?_
  refine SL.O2 (sK 0 zT55 I I I I I sB) ?_
  refine SL.nT (SC.sR (lK (qV 1 iT31 zT31 I I I) (lM I (lU (aD I I oM) (lW (cL call21 I (hmat2 g4 _ (hxm3.mono hle4))) ?_)))))
  rintro x7 g5 _ ⟨rfl,hle5,hx7⟩
  have hx7':=hx7
  obtain ⟨p7,c7,rfl,hs7⟩:=hx7'
  dsimp only at hx7 hs7
  have h45:=hle4.trans hle5
  have hx6:=hx6.mono hle5
  refine SL.bx (aL zeroValue55) fun b7=>?_
  refine SL.O2 (sK 0 zT55 I I I I I sB) ?_
  refine SL.nT (SC.sR (lK (qV 1 iT55 zT55 I I I) (lK (qV 0 iT55 zT55 I I I) (lW (cL call22 I (mul_spec E g5 _ _ _ RL.length KL.length C A B hx6 hx7 o1 o2 hA1 hB1)) ?_))))
  rintro _ g6 _ ⟨rfl,hle6,L,x8,rfl,hx8,hLl,hLd⟩
  obtain rfl:=hz L hLl (fun a ha b hb=>(hLd a ha b hb).trans (hdz a ha b hb))
  have hx8':=hx8
  obtain ⟨p8,c8,rfl,hs8⟩:=hx8'
  dsimp only at hx8 hs8
  have h46:=h45.trans hle6
  have hxm6:=hxm3.mono h46
  refine lM I (lU (xT I I) (lU (xT I I) (SL.bx (aL zeroValue55) fun b8=>?_)))
  refine SL.O2 (sK 0 zT55 I I I I I sB) ?_
  refine lA I (SL.nT (sQ ?_))
  refine dW [] [(0,2),(1,2),(2,2),(3,2),(4,1),(5,1),(6,2),(7,2),(8,0),(9,2),(10,2),(11,2),(12,2),(13,2),(14,1),(15,1),(16,2),(17,0),(18,2),(19,2),(20,2),(21,2),(22,1),(23,2),(24,1),(25,2),(26,1),(27,0),(28,0),(29,2),(30,2)] Tryz.mixed (by kernel_rfl) ?_
  refine pU rfl (mV rfl) (pU rfl (SU.not rfl) (pU rfl (mV rfl) (SP.gu rfl (gT rfl rfl rfl dC) (fA uT55 rfl zT3 rfl) dC (SP.gq rfl (gT rfl rfl rfl dC) (qL (v:=vi RL.length) iT3 rfl (cO 2 rfl rfl)) dC (SP.gq rfl (gT rfl rfl rfl dC) (qV 3 iT31 zT31 rfl rfl rfl) dC (SP.gu rfl (gT rfl rfl rfl dC) (mV rfl) dC (SP.gu rfl (gT rfl rfl rfl dC) (sU rfl rfl oM) dC (SP.go rfl (gT rfl rfl rfl dC) (cL call23 rfl (hid1 g6 _ hxm6)) dC (.inr (by rintro v38 g7 _ ⟨rfl,hle7,hi7⟩; exact ⟨by assumption,(by exact .refl _)⟩)) ?_))))))))
  rintro v38 g7 _ ⟨rfl,hle7,hi7⟩
  obtain ⟨q7,d7,rfl⟩:=SlA.form hi7
  have hxm7:=hxm6.mono hle7
  have h68:=hle7
  refine SP.gu I (gT I I I dC) (eN uT27 I) dC (SP.gu I (gT I I I dC) (SU.eq (v':=vb false) (nQ I I) (congrArg vb (decide_eq_false (by simp)))) dC ?_)
  refine pU rfl (pF rfl rfl) (pU rfl (mV rfl) (SP.gu rfl (gT rfl rfl rfl dC) (fA uT55 rfl zT3 rfl) dC (SP.gq rfl (gT rfl rfl rfl dC) (qL (v:=vi KL.length) iT3 rfl (cO 2 rfl rfl)) dC (SP.gq rfl (gT rfl rfl rfl dC) (qV 3 iT31 zT31 rfl rfl rfl) dC (SP.gu rfl (gT rfl rfl rfl dC) (mV rfl) dC (SP.go rfl (gT rfl rfl rfl dC) (cL call23 rfl (hid2 g7 _ hxm7)) dC (.inr (by rintro v47 g8 _ ⟨rfl,hle8,hi8⟩; exact ⟨by exact Le.trans (by assumption) (by assumption),(by exact .refl _)⟩)) ?_))))))
  rintro v47 g8 _ ⟨rfl,hle8,hi8⟩
  obtain ⟨q8,d8,rfl⟩:=SlA.form hi8
  have h68:=hle7.trans hle8
  refine SP.gu I (gT I I I dC) (eN uT27 I) dC (SP.gu I (gT I I I dC) (SU.eq (v':=vb false) (nQ I I) (congrArg vb (decide_eq_false (by simp)))) dC ?_)
  refine pU rfl (pF rfl rfl) (pU rfl (mV rfl) (SP.gq rfl (gT rfl rfl rfl dC) (qV 0 iT55 zT55 rfl rfl rfl) dC (SP.gu rfl (gT rfl rfl rfl dC) (fA uT55 rfl zT3 rfl) dC (SP.gq rfl (gT rfl rfl rfl dC) (qL (v:=vi RL.length) iT3 rfl (cO 2 rfl rfl)) dC (SP.gu rfl (gT rfl rfl rfl dC) (fA uT55 rfl zT3 rfl) dC (SP.gq rfl (gT rfl rfl rfl dC) (qL (v:=vi C) iT3 rfl (cO 1 rfl rfl)) dC (SP.go rfl (gT rfl rfl rfl dC) (cL call25 rfl (zero_own2 E g8 _ RL.length C hR hC)) dC (.inr (by rintro _ _ _ ⟨rfl,bz,rfl,rfl⟩; exact ⟨by assumption,(by exact .cons _ (.refl _))⟩)) ?_)))))))
  rintro _ _ _ ⟨rfl,bz,rfl,rfl⟩
  refine SP.freezeRow fun g9 hle9 hs9=>?_
  have h69:=h68.trans hle9
  refine SP.go rfl (gT rfl rfl rfl dC) (cL call24 rfl (progEqual_spec E g9 _ _ _ (RL.length,C,List.replicate (RL.length * C) 0) (hx8.mono h69) ⟨some ⟨bz,0,none⟩,RL.length * C,by simp,by dsimp only; rw [List.map_replicate,List.length_replicate]; exact hs9⟩ ⟨hR,hC,by simp⟩)) dC (.inr (by rintro _ _ _ ⟨rfl,rfl,rfl⟩; exact ⟨by assumption,(by exact .refl _)⟩)) ?_
  rintro _ _ _ ⟨rfl,rfl,rfl⟩
  refine SP.gu I (gT I I I dC) (SU.not I) dC (pU I (pF I I) (pN (tN (cF I (kP (bN (tN (rG (lM I (lU (aD I I oM) (lA I (nL (dR (.cons _ (.cons _ (.cons _ (.refl _)))) ?_)))))))))))))
  exact gA (i + 1,g9) sB I I ⟨by dsimp only; omega,hle3.trans (h46.trans h69)⟩ (by dsimp only; omega)
 ·refine xI (tX (tX (bX (tN (SC.sR (lM I (lA I (SL.nT (rE (dR (s':=s) (.cons _ (.cons _ (.refl _))) ?_))))))))))
  exact ST.ret1 (.inl I) results5 I ⟨I,I,hle02.trans hle3⟩
end Go.Proofs.YtkdibcicncjpdaaGreatDoor
namespace Go.Proofs.YtkdibcicncjpdaaGreatDoor.cellsClosedDone
open _root_.Go.Proofs.Tryz _root_.Go.Proofs.YtkdibcicncjpdaaGreatDoor.Tryz
open Go Go.Sy Go.Pl Go.Proofs Go.Proofs.YtkdibcicncjpdaaGreatDoor
open Go.ChangeShapes Go.WideShapes Go.ChangeAt Go.RowKit
set_option linter.unusedVariables false
theorem own : ownKnob Tryz.prog.godebug = none:=by kernel_rfl
theorem laidOut : laidOutB Tryz.prog = true:=by kernel_rfl
set_option maxRecDepth 100000 in
theorem lifted (os : Os) (started : os.Started) (H : Type) (enc : TypeId × Value → H) :
  ReturnsInHanded {} Tryz.checked os 5 .any (fun w args=>(Rows.cellsClosedSpec.pre enc Tryz.prog f5 Rows.cellsClosedRow.domain false w args ∧ laidMetH Tryz.prog Rows.cellsClosedRow.laid w) ∧ sizedMet enc Tryz.prog f5 (OpenSpec.ofChange Rows.cellsClosedSpec) false w args)
   (Rows.cellsClosedSpec.post enc Tryz.prog f5 false true false false):=by
 refine returnsInHanded_of_change_and (C:=Tryz.checked) (X:=fun w _=>laidMetH Tryz.prog Rows.cellsClosedRow.laid w) (fun _ _ _ hh h=>h.of_heap hh) own started (by kernel_rfl) func5
  (ChangeSpec.witness_shaped (enc:=enc) (C:=Tryz.checked) (os:=os) (X:=fun w _=>laidMetH Tryz.prog Rows.cellsClosedRow.laid w) false (World.laidAll Tryz.prog os Rows.cellsClosedRow.laid) #[.agg #[.int .i64 0,.slice none 0 0,.int .i64 0]] 8 (World.laidAll_os _ _ _)
   (World.shaped_of_ZipB (by kernel_rfl) (by kernel_rfl)) (by kernel_rfl) (by kernel_rfl) (by kernel_rfl)
   (by rw [MakeChecks.laidMetH_plain _ _ _ (by kernel_rfl)]; exact laidMet_laidAll _ (by kernel_rfl) (by kernel_rfl))) ?_
 intro W base args ds gs before hval0 hW hcnd hsz0 hL _
 have hval : ∀ (j : Nat) t v,f5.params[j]? = some t → args[j]? = some v → Value.okWide Tryz.prog W .any base t v:=hval0
 have hW':=hW
 obtain ⟨p,q,hA0,hV,rfl,hfz,hnd⟩:=hW
 have hA : DataW.TrodAll enc Tryz.prog W 0 (fun _=>true) true f5.params.toList args.toList ds p:=hA0
 rw [params5] at hA hval
 obtain ⟨v0,vs0,d0,ds0,p0,q0,hargs,rfl,rfl,h0,r0⟩:=trodAll_cons hA
 obtain ⟨rfl,rfl,rfl⟩:=trodAll_nil r0
 obtain rfl : args = #[v0]:=by cases args; simp_all
 obtain ⟨rfl,rfl⟩:=trodVars_none hV
 have lt0 : ∀ x ∈ p0,x.block < W.heap.size:=by obtain ⟨m,hm⟩:=h0; exact DataW.trod_lt m _ _ _ hm
 obtain ⟨kd,y,u,ls,e0,hls⟩:=shape_of (hval 0 24 v0 rfl rfl) h0
 clear hA0 hval0
 have walk : Calls Tryz.prog 5 #[v0] W fun e w'=>e = .returned (.bool true) ∧ Below W.heap.size W w':=by
  rw [e0]
  refine (cellsClosed_spec (E0 W) I (held W) [] u kd y ls hls W (at_start W)).mono ?_
  rintro e w' ⟨v,g',s',rfl,hat,rfl,rfl,hle⟩
  exact ⟨I,at_below hat hle⟩
 refine walk.mono fun e W' ⟨he,bel⟩=>?_
 subst he
 exact ⟨_,I,_,_,_,[],_,[],hW',trodAll_mk1 (shut_bool uT4 _),(trodAll_cons_mk (Below.trod laidOut (by kernel_rfl) (of_decide_eq_true (by kernel_rfl)) h0 bel lt0) trodAll_mk0),I,bel.frame _,fun h=>by cases h⟩
theorem over : Rows.cellsClosedRow.holds Tryz.pinned (OpenSpec.ofChange Rows.cellsClosedSpec) :=
 OpenClaim.holds_of_wide 5 f5 rfl rfl rfl rfl rfl rfl rfl ⟨rfl,rfl,rfl,rfl,rfl⟩ rfl rfl rfl rfl rfl (by kernel_rfl) func5 (by kernel_rfl)
  (of_decide_eq_true (by kernel_rfl)) (by unfold Func.isWrapper; first | (rw [if_pos (by decide +kernel)]; kernel_rfl) | (rw [if_neg (by decide +kernel)]; exact ⟨rfl,rfl⟩))
  (fun os started H enc _=>lifted os started H enc)
theorem proved : Rows.CellsClosedCardSaid :=
 Claim7.holds_tied_plain_at .later [] [.data,.pinned] true (true, "45ba0e11d175ab82e67e4e45093b06b162f1c5a1c8aff8897be8b5aecdf887bb") false
  over (fun _ h=>by cases h) (by kernel_rfl) (fun _ h=>by cases h) cellsClosed_row_tie rfl ⟨rfl,rfl⟩ (by kernel_rfl) rfl
  (fun f fn hf hfn=>by
   obtain rfl : f = 5:=Option.some.inj ((show Tryz.prog.funcNamed "cocycle/cocyclelaw06.CellsClosed" = some 5 by kernel_rfl).symm.trans hf) |>.symm
   obtain rfl : fn = f5:=(Option.some.inj (func5.symm.trans hfn)).symm
   exact ⟨by kernel_rfl,fun j t ht=>by
    rw [params5] at ht
    have hm : t ∈ [24]:=by simpa using Array.mem_of_getElem? ht
    have hall : ([24].all fun u=>!Tryz.prog.wantsStandIn u) = true:=by kernel_rfl
    exact (show Tryz.prog.wantsStandIn t = false by simpa using List.all_eq_true.1 hall t hm)⟩)
  (by kernel_rfl)
#print axioms proved
end Go.Proofs.YtkdibcicncjpdaaGreatDoor.cellsClosedDone
