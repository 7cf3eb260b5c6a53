/-
  The law MergeSum holds: if there are no conflicts, the result is right, and each of its cells is that of a side that has changed it; merging it with a side again changes nothing.
-/
import Derived.Test.YtdepcjnaieflmaaGreatDoorMs17
import Derived.Test.YtdepcjnaieflmaaGreatDoorTie
import Derived.Test.YtdepcjnaieflmaaGreatDoorCards
import Derived.JoinedOf
import Derived.LaidMore
import Derived.Lay
import Derived.SevenTiedAt
import Derived.Stop.Joined
set_option linter.unusedSimpArgs false
set_option linter.unusedVariables false
namespace Go.Proofs.YtdepcjnaieflmaaGreatDoor.mergeSumDone
open _root_.Go.Proofs.Tryz _root_.Go.Proofs.YtdepcjnaieflmaaGreatDoor.Tryz
open Go Go.Sy Go.Pl Go.Proofs Go.Proofs.YtdepcjnaieflmaaGreatDoor
open Go.ChangeShapes Go.WideShapes Go.ChangeAt Go.RowKit
set_option linter.unusedVariables false
theorem own:ownKnob Tryz.prog.godebug=none:=by kernel_rfl
theorem laidOut:laidOutB Tryz.prog=true:=by kernel_rfl
set_option maxRecDepth 100000 in
theorem lifted (os:Os)(b:os.Started)(H:Type)(enc:TypeId×Value→H) :
  ReturnsInHanded {} Tryz.checked os 5 .any (fun w args=>(Rows.mergeSumSpec.pre enc Tryz.prog f5 Rows.mergeSumRow.domain false w args∧laidMetH Tryz.prog Rows.mergeSumRow.laid w)∧sizedMet enc Tryz.prog f5 (OpenSpec.ofChange Rows.mergeSumSpec) false w args)
   (Rows.mergeSumSpec.post enc Tryz.prog f5 false true false false):=by
 refine returnsInHanded_of_change_and (C:=Tryz.checked) (X:=fun w _=>laidMetH Tryz.prog Rows.mergeSumRow.laid w) (fun _ _ _ K h=>h.of_heap K) own b kR func5
  (ChangeSpec.witness_shaped (enc:=enc) (C:=Tryz.checked) (os:=os) (X:=fun w _=>laidMetH Tryz.prog Rows.mergeSumRow.laid w) false (World.laidAll Tryz.prog os Rows.mergeSumRow.laid) #[.agg #[.int .i64 0,.slice none 0 0,.int .i64 0],.slice none 0 0,.slice none 0 0] 8 (World.laidAll_os _ _ _)
   (World.shaped_of_ZipB kR kR) kR kR kR
   (by rw[MakeChecks.laidMetH_plain _ _ _ kR];exact laidMet_laidAll _ kR kR)) ?_
 intro W base args ds gs before c hW G J hL _;have a:∀ (j:Nat) t v,f5.params[j]?=some t→args[j]?=some v→Value.okWide Tryz.prog W .any base t v:=c;have g:=hW;obtain ⟨p,q,f,L,rfl,M,N⟩:=hW;have hA:DataW.TrodAll enc Tryz.prog W 0 (fun _=>true) true f5.params.toList args.toList ds p:=f;rw[params5] at hA a;obtain ⟨v0,O,d0,P,Q,q0,i,rfl,rfl,k,R⟩:=trodAll_cons hA;obtain ⟨v1,S,d1,T,U,q1,rfl,rfl,rfl,l,V⟩:=trodAll_cons R;obtain ⟨v2,Y,d2,Z,p2,q2,rfl,rfl,rfl,n,r2⟩:=trodAll_cons V;obtain ⟨rfl,rfl,rfl⟩:=trodAll_nil r2;obtain rfl:args = #[v0,v1,v2]:=by cases args;simp_all
 obtain ⟨rfl,rfl⟩:=trodVars_none L;have lt0:∀ x∈Q,x.block<W.heap.size:=by obtain ⟨m,hm⟩:=k;exact DataW.trod_lt m _ _ _ hm
 have lt1:∀ x∈U,x.block<W.heap.size:=by obtain ⟨m,hm⟩:=l;exact DataW.trod_lt m _ _ _ hm
 have lt2:∀ x∈p2,x.block<W.heap.size:=by obtain ⟨m,hm⟩:=n;exact DataW.trod_lt m _ _ _ hm
 obtain ⟨kd,y,u,ls,e0,o⟩:=DE (a 0 24 v0 rfl rfl) k;obtain ⟨a1,n1,c1,s1⟩:=okWide_slice underlying25<|a 1 25 v1 rfl rfl;obtain ⟨r,s,z⟩:=si l (by rw[s1];rfl);obtain ⟨a2,n2,c2,s2⟩:=okWide_slice underlying25<|a 2 25 v2 rfl rfl;obtain ⟨A,B,D⟩:=si n (by rw[s2];rfl);clear f c;have walk:Calls Tryz.prog 5 #[v0,v1,v2] W fun e w'=>e = .returned (.bool true)∧Below W.heap.size W w':=by
  rw[e0];refine (tV (E0 W) (tE W) [] u kd y ls _ r _ A o s z B D I W (Es W)).mono ?_;rintro e w' ⟨v,g',s',rfl,E,rfl,rfl,F⟩;exact⟨I,Et E F⟩
 refine walk.mono fun e W' ⟨he,d⟩=>?_;subst he;exact⟨_,I,_,_,_,[],_,[],g,trodAll_mk1<|shut_bool uT4 _,(trodAll_cons_mk (Below.trod laidOut kR (zg6 kR) k d lt0)<|trodAll_cons_mk (Below.trod laidOut kR (zg6 kR) l d lt1)<|trodAll_cons_mk (Below.trod laidOut kR (zg6 kR) n d lt2) trodAll_mk0),I,d.frame _,fun h=>by cases h⟩
def EP (P:Program)(fn:Func)(c:OpenClaim):Bool:=(c.kinds == (if c.domain.isEmpty then [] else fn.params.toList.map fun t=>match P.underlying t with | some (.int k)=>some k | _=>none))
theorem iZ {a b:Bool}(h:a=true)(k:b=true):(a&&b)=true:=by rw[h,k];rfl
theorem CF {P:Program}{f:FuncId}{fn:Func}{s:ChangeSpec}{c:OpenClaim}
  (B:(c.wf<|OpenSpec.ofChange s)=true)
  (C:(laidOutB P)=true)
  (D:(mapsRowed P)=true)
  (E:(fn.params.all (P.readableRec ·))=true)
  (F:(namedTie P c.named s.vars)=true)
  (G:((c.stops == []))=true)
  (H:((P.stops == []))=true)
  (J:((c.knobs == []))=true)
  (K:((P.stopKnobs == []))=true)
  (L:((c.inPlace == P.inPlace f))=true)
  (a:((c.unfollowed == P.unfollowed f))=true)
  (b:((c.recurses == P.recurses f))=true)
  (d:((c.named == P.varsNamed f))=true)
  (e:((c.maps == (fn.params.toList++s.plain.varTypes P).any (P.mapsRec ·)))=true)
  (g:((c.ifaces == (fn.params.toList++s.plain.varTypes P).any (P.ifacesRec ·)))=true)
  (i:((c.mapsOut == P.mapsAmong fn.resultTypes.toList))=true)
  (j:((c.loops == (fn.params.toList++s.plain.varTypes P).any (P.loopsFrom ·)))=true)
  (k:((c.wideKeys == (fn.params.toList++s.plain.varTypes P++fn.resultTypes.toList).any (P.wideKeysFrom ·)))=true)
  (l:(s.vars.all (P.varReadable ·))=true)
  (m:(fn.resultTypes.all<|fun t=>P.readableRec t&&decide (t<P.types.size))=true)
  (n:((c.ifacesOut == fn.resultTypes.toList.any (P.ifacesRec ·)))=true)
  (o:((c.loopsOut == fn.resultTypes.toList.any (P.loopsFrom ·)))=true)
  (p:((c.plainKeys == P.plainKeys))=true)
  (q:(c.shortTexts.isNone)=true)
  (r:(P.stopsHeard)=true)
  (u:(P.mayEnter)=true)
  (v:((c.lifted == P.liftsFinal))=true)
  (w:((P.make == some c.make))=true)
  (x:(EP P fn c)=true)
  (y:((c.pinned == c.pinnedBy))=true)
  (z:((c.veiled == (fn.params.toList++s.plain.varTypes P++fn.resultTypes.toList).any (P.veiledRec ·)))=true)
  (A:(c.veiledFits P fn.params.toList<|fn.params.toList++s.plain.varTypes P++fn.resultTypes.toList)=true)
  : joinedFacts P f fn s c=true:=by
 exact iZ (iZ (iZ (iZ (iZ (iZ (iZ (iZ (iZ (iZ (iZ (iZ (iZ (iZ (iZ (iZ (iZ (iZ (iZ (iZ (iZ (iZ (iZ (iZ (iZ (iZ (iZ (iZ (iZ (iZ (iZ B C) D) E) F) G) H) J) K) L) a) b) d) e) g) i) j) k) l) m) n) o) p) q) r) u) v) w) x) y) z) A
theorem k0:(Rows.mergeSumRow.wf<|OpenSpec.ofChange Rows.mergeSumSpec)=true:=by kernel_rfl
theorem k1:(laidOutB Tryz.prog)=true:=by kernel_rfl
theorem k2:(mapsRowed Tryz.prog)=true:=by kernel_rfl
theorem k3:(f5.params.all (Tryz.prog.readableRec ·))=true:=by kernel_rfl
theorem k4:(namedTie Tryz.prog Rows.mergeSumRow.named Rows.mergeSumSpec.vars)=true:=by kernel_rfl
theorem k5:((Rows.mergeSumRow.stops == []))=true:=by kernel_rfl
theorem k6:((Tryz.prog.stops == []))=true:=by kernel_rfl
theorem k7:((Rows.mergeSumRow.knobs == []))=true:=by kernel_rfl
theorem k8:((Tryz.prog.stopKnobs == []))=true:=by kernel_rfl
theorem k9:((Rows.mergeSumRow.inPlace == Tryz.prog.inPlace 5))=true:=by kernel_rfl
theorem k10:((Rows.mergeSumRow.unfollowed == Tryz.prog.unfollowed 5))=true:=by kernel_rfl
theorem k11:((Rows.mergeSumRow.recurses == Tryz.prog.recurses 5))=true:=by kernel_rfl
theorem k12:((Rows.mergeSumRow.named == Tryz.prog.varsNamed 5))=true:=by kernel_rfl
theorem k13:((Rows.mergeSumRow.maps == (f5.params.toList++Rows.mergeSumSpec.plain.varTypes Tryz.prog).any (Tryz.prog.mapsRec ·)))=true:=by kernel_rfl
theorem k14:((Rows.mergeSumRow.ifaces == (f5.params.toList++Rows.mergeSumSpec.plain.varTypes Tryz.prog).any (Tryz.prog.ifacesRec ·)))=true:=by kernel_rfl
theorem k15:((Rows.mergeSumRow.mapsOut == Tryz.prog.mapsAmong f5.resultTypes.toList))=true:=by kernel_rfl
theorem k16:((Rows.mergeSumRow.loops == (f5.params.toList++Rows.mergeSumSpec.plain.varTypes Tryz.prog).any (Tryz.prog.loopsFrom ·)))=true:=by kernel_rfl
theorem k17:((Rows.mergeSumRow.wideKeys == (f5.params.toList++Rows.mergeSumSpec.plain.varTypes Tryz.prog++f5.resultTypes.toList).any (Tryz.prog.wideKeysFrom ·)))=true:=by kernel_rfl
theorem k18:(Rows.mergeSumSpec.vars.all (Tryz.prog.varReadable ·))=true:=by kernel_rfl
theorem k19:(f5.resultTypes.all<|fun t=>Tryz.prog.readableRec t&&decide (t<Tryz.prog.types.size))=true:=by kernel_rfl
theorem k20:((Rows.mergeSumRow.ifacesOut == f5.resultTypes.toList.any (Tryz.prog.ifacesRec ·)))=true:=by kernel_rfl
theorem k21:((Rows.mergeSumRow.loopsOut == f5.resultTypes.toList.any (Tryz.prog.loopsFrom ·)))=true:=by kernel_rfl
theorem k22:((Rows.mergeSumRow.plainKeys == Tryz.prog.plainKeys))=true:=by kernel_rfl
theorem k23:(Rows.mergeSumRow.shortTexts.isNone)=true:=by kernel_rfl
theorem k24:(Tryz.prog.stopsHeard)=true:=by kernel_rfl
theorem k25:(Tryz.prog.mayEnter)=true:=by kernel_rfl
theorem k26:((Rows.mergeSumRow.lifted == Tryz.prog.liftsFinal))=true:=by kernel_rfl
theorem k27:((Tryz.prog.make == some Rows.mergeSumRow.make))=true:=by kernel_rfl
theorem k28:(EP Tryz.prog f5 Rows.mergeSumRow)=true:=by kernel_rfl
theorem k29:((Rows.mergeSumRow.pinned == Rows.mergeSumRow.pinnedBy))=true:=by kernel_rfl
theorem k30:((Rows.mergeSumRow.veiled == (f5.params.toList++Rows.mergeSumSpec.plain.varTypes Tryz.prog++f5.resultTypes.toList).any (Tryz.prog.veiledRec ·)))=true:=by kernel_rfl
theorem k31:(Rows.mergeSumRow.veiledFits Tryz.prog f5.params.toList<|f5.params.toList++Rows.mergeSumSpec.plain.varTypes Tryz.prog++f5.resultTypes.toList)=true:=by kernel_rfl
theorem kp:Rows.mergeSumRow.wfByText (OpenSpec.ofChange Rows.mergeSumSpec)=true:=by kernel_rfl
theorem kf : Tryz.prog.funcNamed "cocycle/cocyclelaw18.MergeSum" = some 5:=by kernel_rfl
theorem kr:Tryz.pinned.checked.prog.funcNamed Rows.mergeSumRow.func=some 5:=by kernel_rfl
theorem kj:joinedFacts Tryz.pinned.checked.prog 5 f5 Rows.mergeSumSpec Rows.mergeSumRow=true :=
 CF k0 k1 k2 k3 k4 k5 k6 k7 k8 k9 k10 k11 k12 k13 k14 k15 k16 k17 k18 k19 k20 k21 k22 k23 k24 k25 k26 k27 k28 k29 k30 k31
theorem ki:f5.isInstance Tryz.prog Rows.mergeSumRow.origin Rows.mergeSumRow.targs:=zg6 kR
theorem kw:f5.isWrapper Tryz.prog Rows.mergeSumRow.wrapper Rows.mergeSumRow.mainSum:=by unfold Func.isWrapper;first | (rw[zg4 (by decide +kernel)];kernel_rfl) | (rw[zg3 (by decide +kernel)];exact⟨I,I⟩)
theorem km : Tryz.prog.mainIs = some (true,("a37501a34a30dde2d9da77573ae79b7fff0b833d7fc9d23ac4f845b9060fdd91" : String).toList):=by kernel_rfl
theorem kl:false=Tryz.prog.looks []:=by kernel_rfl
theorem kg:false=Rows.mergeSumRow.goesBy Tryz.prog:=by kernel_rfl
theorem kq:([24,25,25].all fun u=>!Tryz.prog.wantsStandIn u)=true:=by kernel_rfl
theorem over:Rows.mergeSumRow.holds Tryz.pinned (OpenSpec.ofChange Rows.mergeSumSpec) :=
 OpenClaim.holds_of_wide 5 f5 rfl rfl rfl rfl rfl rfl rfl ⟨rfl,rfl,rfl,rfl,rfl⟩ rfl rfl rfl rfl rfl kr func5 kj ki kw
  (fun os a H enc _=>lifted os a H enc)
theorem proved:Rows.MergeSumCardSaid :=
 Claim7.holds_tied_plain_at .later [] [.data,.pinned] true (true, "a37501a34a30dde2d9da77573ae79b7fff0b833d7fc9d23ac4f845b9060fdd91") false
  over (fun _ h=>by cases h) kp (fun _ h=>by cases h) mergeSum_row_tie rfl ⟨rfl,rfl⟩ km rfl
  (fun f fn c a=>by
   obtain rfl:f=5:=Option.some.inj (kf.symm.trans c) |>.symm;obtain rfl:fn=f5:=(Option.some.inj (func5.symm.trans a)).symm;exact⟨kl,fun j t b=>by
    rw[params5] at b;have hm:t∈[24,25,25]:=by simpa using Array.mem_of_getElem? b
    exact (show Tryz.prog.wantsStandIn t=false by simpa using zk3.1 kq t hm)⟩)
  kg
#print axioms proved
end Go.Proofs.YtdepcjnaieflmaaGreatDoor.mergeSumDone
