/-
  The law MergeThrough holds: the edits from the base to a side, behind those from the other side, lead to the same as the merge, if both only attach cells.
-/
import Derived.Test.YtbbppeihhkhkcaaGreatDoorMt14
import Derived.Test.YtbbppeihhkhkcaaGreatDoorTie
import Derived.Test.YtbbppeihhkhkcaaGreatDoorCards
import Derived.JoinedOf
import Derived.LaidMore
import Derived.Lay
import Derived.SevenTiedAt
import Derived.Stop.Joined
set_option linter.unusedSimpArgs false
set_option linter.unusedVariables false
namespace Go.Proofs.YtbbppeihhkhkcaaGreatDoor.mergeThroughDone
open _root_.Go.Proofs.Tryz _root_.Go.Proofs.YtbbppeihhkhkcaaGreatDoor.Tryz
open Go Go.Sy Go.Pl Go.Proofs Go.Proofs.YtbbppeihhkhkcaaGreatDoor
open Go.ChangeShapes Go.WideShapes Go.ChangeAt Go.RowKit
set_option linter.unusedVariables false
theorem own:ownKnob Tryz.prog.godebug=none:=by kernel_rfl
theorem laidOut:laidOutB Tryz.prog=true:=by kernel_rfl
set_option maxRecDepth 100000 in
theorem lifted (os:Os)(started:os.Started)(H:Type)(enc:TypeId×Value→H) :
  ReturnsInHanded {} Tryz.checked os 7 .any (fun w args=>(Rows.mergeThroughSpec.pre enc Tryz.prog f7 Rows.mergeThroughRow.domain false w args∧laidMetH Tryz.prog Rows.mergeThroughRow.laid w)∧sizedMet enc Tryz.prog f7 (OpenSpec.ofChange Rows.mergeThroughSpec) false w args)
   (Rows.mergeThroughSpec.post enc Tryz.prog f7 false true false false):=by
 refine returnsInHanded_of_change_and (C:=Tryz.checked) (X:=fun w _=>laidMetH Tryz.prog Rows.mergeThroughRow.laid w) (fun _ _ _ hh h=>h.of_heap hh) own started kR func7
  (ChangeSpec.witness_shaped (enc:=enc) (C:=Tryz.checked) (os:=os) (X:=fun w _=>laidMetH Tryz.prog Rows.mergeThroughRow.laid w) false (World.laidAll Tryz.prog os Rows.mergeThroughRow.laid) #[.agg #[.int .i64 0,.slice none 0 0,.int .i64 0],.slice none 0 0,.slice none 0 0] 8 (World.laidAll_os _ _ _)
   (World.shaped_of_ZipB kR kR) kR kR kR
   (by rw[MakeChecks.laidMetH_plain _ _ _ kR]; exact laidMet_laidAll _ kR kR)) ?_
 intro W base args ds gs before hval0 hW hcnd hsz0 hL _;have hval:∀ (j:Nat) t v,f7.params[j]?=some t→args[j]?=some v→Value.okWide Tryz.prog W .any base t v:=hval0;have hW':=hW;obtain ⟨p,q,hA0,hV,rfl,hfz,hnd⟩:=hW;have hA:DataW.TrodAll enc Tryz.prog W 0 (fun _=>true) true f7.params.toList args.toList ds p:=hA0;rw[params7] at hA hval;obtain ⟨v0,vs0,d0,ds0,p0,q0,hargs,rfl,rfl,h0,r0⟩:=trodAll_cons hA;obtain ⟨v1,vs1,d1,ds1,p1,q1,rfl,rfl,rfl,h1,r1⟩:=trodAll_cons r0;obtain ⟨v2,vs2,d2,ds2,p2,q2,rfl,rfl,rfl,h2,r2⟩:=trodAll_cons r1;obtain ⟨rfl,rfl,rfl⟩:=trodAll_nil r2;obtain rfl:args = #[v0,v1,v2]:=by cases args; simp_all
 obtain ⟨rfl,rfl⟩:=trodVars_none hV;have lt0:∀ x∈p0,x.block<W.heap.size:=by obtain ⟨m,hm⟩:=h0; exact DataW.trod_lt m _ _ _ hm
 have lt1:∀ x∈p1,x.block<W.heap.size:=by obtain ⟨m,hm⟩:=h1; exact DataW.trod_lt m _ _ _ hm
 have lt2:∀ x∈p2,x.block<W.heap.size:=by obtain ⟨m,hm⟩:=h2; exact DataW.trod_lt m _ _ _ hm
 obtain ⟨kd,y,u,ls,e0,hls⟩:=Bp (hval 0 24 v0 rfl rfl) h0;obtain ⟨a1,n1,c1,s1⟩:=okWide_slice underlying25 (hval 1 25 v1 rfl rfl);obtain ⟨as1,ha1,hw1⟩:=pJ h1 (by rw[s1]; rfl);obtain ⟨a2,n2,c2,s2⟩:=okWide_slice underlying25 (hval 2 25 v2 rfl rfl);obtain ⟨as2,ha2,hw2⟩:=pJ h2 (by rw[s2]; rfl);clear hA0 hval0;have walk:Calls Tryz.prog 7 #[v0,v1,v2] W fun e w'=>e = .returned (.bool true)∧Below W.heap.size W w':=by
  rw[e0];refine (lQ (E0 W) (qJ W) [] u kd y ls _ as1 _ as2 hls ha1 hw1 ha2 hw2 I W (Cb W)).mono ?_;rintro e w' ⟨v,g',s',rfl,hat,rfl,rfl,hle⟩;exact⟨I,Cc hat hle⟩
 refine walk.mono fun e W' ⟨he,bel⟩=>?_;subst he;exact⟨_,I,_,_,_,[],_,[],hW',trodAll_mk1 (shut_bool uT4 _),(trodAll_cons_mk (Below.trod laidOut kR (zf9 kR) h0 bel lt0) (trodAll_cons_mk (Below.trod laidOut kR (zf9 kR) h1 bel lt1) (trodAll_cons_mk (Below.trod laidOut kR (zf9 kR) h2 bel lt2) trodAll_mk0))),I,bel.frame _,fun h=>by cases h⟩
def CB (P:Program)(fn:Func)(c:OpenClaim):Bool:=(c.kinds == (if c.domain.isEmpty then [] else fn.params.toList.map fun t=>match P.underlying t with | some (.int k)=>some k | _=>none))
theorem gy {a b:Bool}(h:a=true)(k:b=true):(a&&b)=true:=by rw[h,k]; rfl
theorem Aj {P:Program}{f:FuncId}{fn:Func}{s:ChangeSpec}{c:OpenClaim}
  (h0:(c.wf (OpenSpec.ofChange s))=true)
  (h1:(laidOutB P)=true)
  (h2:(mapsRowed P)=true)
  (h3:(fn.params.all (P.readableRec ·))=true)
  (h4:(namedTie P c.named s.vars)=true)
  (h5:((c.stops == []))=true)
  (h6:((P.stops == []))=true)
  (h7:((c.knobs == []))=true)
  (h8:((P.stopKnobs == []))=true)
  (h9:((c.inPlace == P.inPlace f))=true)
  (h10:((c.unfollowed == P.unfollowed f))=true)
  (h11:((c.recurses == P.recurses f))=true)
  (h12:((c.named == P.varsNamed f))=true)
  (h13:((c.maps == (fn.params.toList++s.plain.varTypes P).any (P.mapsRec ·)))=true)
  (h14:((c.ifaces == (fn.params.toList++s.plain.varTypes P).any (P.ifacesRec ·)))=true)
  (h15:((c.mapsOut == P.mapsAmong fn.resultTypes.toList))=true)
  (h16:((c.loops == (fn.params.toList++s.plain.varTypes P).any (P.loopsFrom ·)))=true)
  (h17:((c.wideKeys == (fn.params.toList++s.plain.varTypes P++fn.resultTypes.toList).any (P.wideKeysFrom ·)))=true)
  (h18:(s.vars.all (P.varReadable ·))=true)
  (h19:(fn.resultTypes.all (fun t=>P.readableRec t&&decide (t<P.types.size)))=true)
  (h20:((c.ifacesOut == fn.resultTypes.toList.any (P.ifacesRec ·)))=true)
  (h21:((c.loopsOut == fn.resultTypes.toList.any (P.loopsFrom ·)))=true)
  (h22:((c.plainKeys == P.plainKeys))=true)
  (h23:(c.shortTexts.isNone)=true)
  (h24:(P.stopsHeard)=true)
  (h25:(P.mayEnter)=true)
  (h26:((c.lifted == P.liftsFinal))=true)
  (h27:((P.make == some c.make))=true)
  (h28:(CB P fn c)=true)
  (h29:((c.pinned == c.pinnedBy))=true)
  (h30:((c.veiled == (fn.params.toList++s.plain.varTypes P++fn.resultTypes.toList).any (P.veiledRec ·)))=true)
  (h31:(c.veiledFits P fn.params.toList (fn.params.toList++s.plain.varTypes P++fn.resultTypes.toList))=true)
  : joinedFacts P f fn s c=true:=by
 exact gy (gy (gy (gy (gy (gy (gy (gy (gy (gy (gy (gy (gy (gy (gy (gy (gy (gy (gy (gy (gy (gy (gy (gy (gy (gy (gy (gy (gy (gy (gy h0 h1) h2) h3) h4) h5) h6) h7) h8) h9) h10) h11) h12) h13) h14) h15) h16) h17) h18) h19) h20) h21) h22) h23) h24) h25) h26) h27) h28) h29) h30) h31
theorem k0:(Rows.mergeThroughRow.wf (OpenSpec.ofChange Rows.mergeThroughSpec))=true:=by kernel_rfl
theorem k1:(laidOutB Tryz.prog)=true:=by kernel_rfl
theorem k2:(mapsRowed Tryz.prog)=true:=by kernel_rfl
theorem k3:(f7.params.all (Tryz.prog.readableRec ·))=true:=by kernel_rfl
theorem k4:(namedTie Tryz.prog Rows.mergeThroughRow.named Rows.mergeThroughSpec.vars)=true:=by kernel_rfl
theorem k5:((Rows.mergeThroughRow.stops == []))=true:=by kernel_rfl
theorem k6:((Tryz.prog.stops == []))=true:=by kernel_rfl
theorem k7:((Rows.mergeThroughRow.knobs == []))=true:=by kernel_rfl
theorem k8:((Tryz.prog.stopKnobs == []))=true:=by kernel_rfl
theorem k9:((Rows.mergeThroughRow.inPlace == Tryz.prog.inPlace 7))=true:=by kernel_rfl
theorem k10:((Rows.mergeThroughRow.unfollowed == Tryz.prog.unfollowed 7))=true:=by kernel_rfl
theorem k11:((Rows.mergeThroughRow.recurses == Tryz.prog.recurses 7))=true:=by kernel_rfl
theorem k12:((Rows.mergeThroughRow.named == Tryz.prog.varsNamed 7))=true:=by kernel_rfl
theorem k13:((Rows.mergeThroughRow.maps == (f7.params.toList++Rows.mergeThroughSpec.plain.varTypes Tryz.prog).any (Tryz.prog.mapsRec ·)))=true:=by kernel_rfl
theorem k14:((Rows.mergeThroughRow.ifaces == (f7.params.toList++Rows.mergeThroughSpec.plain.varTypes Tryz.prog).any (Tryz.prog.ifacesRec ·)))=true:=by kernel_rfl
theorem k15:((Rows.mergeThroughRow.mapsOut == Tryz.prog.mapsAmong f7.resultTypes.toList))=true:=by kernel_rfl
theorem k16:((Rows.mergeThroughRow.loops == (f7.params.toList++Rows.mergeThroughSpec.plain.varTypes Tryz.prog).any (Tryz.prog.loopsFrom ·)))=true:=by kernel_rfl
theorem k17:((Rows.mergeThroughRow.wideKeys == (f7.params.toList++Rows.mergeThroughSpec.plain.varTypes Tryz.prog++f7.resultTypes.toList).any (Tryz.prog.wideKeysFrom ·)))=true:=by kernel_rfl
theorem k18:(Rows.mergeThroughSpec.vars.all (Tryz.prog.varReadable ·))=true:=by kernel_rfl
theorem k19:(f7.resultTypes.all (fun t=>Tryz.prog.readableRec t&&decide (t<Tryz.prog.types.size)))=true:=by kernel_rfl
theorem k20:((Rows.mergeThroughRow.ifacesOut == f7.resultTypes.toList.any (Tryz.prog.ifacesRec ·)))=true:=by kernel_rfl
theorem k21:((Rows.mergeThroughRow.loopsOut == f7.resultTypes.toList.any (Tryz.prog.loopsFrom ·)))=true:=by kernel_rfl
theorem k22:((Rows.mergeThroughRow.plainKeys == Tryz.prog.plainKeys))=true:=by kernel_rfl
theorem k23:(Rows.mergeThroughRow.shortTexts.isNone)=true:=by kernel_rfl
theorem k24:(Tryz.prog.stopsHeard)=true:=by kernel_rfl
theorem k25:(Tryz.prog.mayEnter)=true:=by kernel_rfl
theorem k26:((Rows.mergeThroughRow.lifted == Tryz.prog.liftsFinal))=true:=by kernel_rfl
theorem k27:((Tryz.prog.make == some Rows.mergeThroughRow.make))=true:=by kernel_rfl
theorem k28:(CB Tryz.prog f7 Rows.mergeThroughRow)=true:=by kernel_rfl
theorem k29:((Rows.mergeThroughRow.pinned == Rows.mergeThroughRow.pinnedBy))=true:=by kernel_rfl
theorem k30:((Rows.mergeThroughRow.veiled == (f7.params.toList++Rows.mergeThroughSpec.plain.varTypes Tryz.prog++f7.resultTypes.toList).any (Tryz.prog.veiledRec ·)))=true:=by kernel_rfl
theorem k31:(Rows.mergeThroughRow.veiledFits Tryz.prog f7.params.toList (f7.params.toList++Rows.mergeThroughSpec.plain.varTypes Tryz.prog++f7.resultTypes.toList))=true:=by kernel_rfl
theorem kp:Rows.mergeThroughRow.wfByText (OpenSpec.ofChange Rows.mergeThroughSpec)=true:=by kernel_rfl
theorem kf : Tryz.prog.funcNamed "cocycle/cocyclelaw18.MergeThrough" = some 7:=by kernel_rfl
theorem kr:Tryz.pinned.checked.prog.funcNamed Rows.mergeThroughRow.func=some 7:=by kernel_rfl
theorem kj:joinedFacts Tryz.pinned.checked.prog 7 f7 Rows.mergeThroughSpec Rows.mergeThroughRow=true :=
 Aj k0 k1 k2 k3 k4 k5 k6 k7 k8 k9 k10 k11 k12 k13 k14 k15 k16 k17 k18 k19 k20 k21 k22 k23 k24 k25 k26 k27 k28 k29 k30 k31
theorem ki:f7.isInstance Tryz.prog Rows.mergeThroughRow.origin Rows.mergeThroughRow.targs:=zf9 kR
theorem kw:f7.isWrapper Tryz.prog Rows.mergeThroughRow.wrapper Rows.mergeThroughRow.mainSum:=by unfold Func.isWrapper; first | (rw[zf7 (by decide +kernel)]; kernel_rfl) | (rw[zf6 (by decide +kernel)]; exact⟨I,I⟩)
theorem km : Tryz.prog.mainIs = some (true,("cdd7b8cb2f263e97c0beb24abf2d7239d76cc07e0537133e289a66fd7f1971ec" : String).toList):=by kernel_rfl
theorem kl:false=Tryz.prog.looks []:=by kernel_rfl
theorem kg:false=Rows.mergeThroughRow.goesBy Tryz.prog:=by kernel_rfl
theorem kq:([24,25,25].all fun u=>!Tryz.prog.wantsStandIn u)=true:=by kernel_rfl
theorem over:Rows.mergeThroughRow.holds Tryz.pinned (OpenSpec.ofChange Rows.mergeThroughSpec) :=
 OpenClaim.holds_of_wide 7 f7 rfl rfl rfl rfl rfl rfl rfl ⟨rfl,rfl,rfl,rfl,rfl⟩ rfl rfl rfl rfl rfl kr func7 kj ki kw
  (fun os started H enc _=>lifted os started H enc)
theorem proved:Rows.MergeThroughCardSaid :=
 Claim7.holds_tied_plain_at .later [] [.data,.pinned] true (true, "cdd7b8cb2f263e97c0beb24abf2d7239d76cc07e0537133e289a66fd7f1971ec") false
  over (fun _ h=>by cases h) kp (fun _ h=>by cases h) mergeThrough_row_tie rfl ⟨rfl,rfl⟩ km rfl
  (fun f fn hf hfn=>by
   obtain rfl:f=7:=Option.some.inj (kf.symm.trans hf) |>.symm;obtain rfl:fn=f7:=(Option.some.inj (func7.symm.trans hfn)).symm;exact⟨kl,fun j t ht=>by
    rw[params7] at ht;have hm:t∈[24,25,25]:=by simpa using Array.mem_of_getElem? ht
    exact (show Tryz.prog.wantsStandIn t=false by simpa using zj6.1 kq t hm)⟩)
  kg
#print axioms proved
end Go.Proofs.YtbbppeihhkhkcaaGreatDoor.mergeThroughDone
