/-
  Edits of merges: edits lead from one complex to the other, as many as cells that must be removed or attached, and they are those of the reference model, with the translation's given conditions.
-/
import Derived.Test.YtpmoadbbfobbcaaGreatDoorMe17
import Derived.Test.YtpmoadbbfobbcaaGreatDoorTie
import Derived.Test.YtpmoadbbfobbcaaGreatDoorCards
import Derived.JoinedOf
import Derived.LaidMore
import Derived.Lay
import Derived.SevenTiedAt
import Derived.Stop.Joined
set_option linter.unusedSimpArgs false
set_option linter.unusedVariables false
namespace Go.Proofs.YtpmoadbbfobbcaaGreatDoor.mergeEditsDone
open _root_.Go.Proofs.Tryz _root_.Go.Proofs.YtpmoadbbfobbcaaGreatDoor.Tryz
open Go Go.Sy Go.Pl Go.Proofs Go.Proofs.YtpmoadbbfobbcaaGreatDoor
open Go.ChangeShapes Go.WideShapes Go.ChangeAt Go.RowKit
set_option linter.unusedVariables false
theorem own:ownKnob Tryz.prog.godebug=none:=by kernel_rfl
theorem laidOut:laidOutB Tryz.prog=true:=by kernel_rfl
set_option maxRecDepth 100000 in
theorem lifted (os:Os)(b:os.Started)(H:Type)(enc:TypeId×Value→H) :
  ReturnsInHanded {} Tryz.checked os 3 .any (fun w args=>(Rows.mergeEditsSpec.pre enc Tryz.prog f3 Rows.mergeEditsRow.domain false w args∧laidMetH Tryz.prog Rows.mergeEditsRow.laid w)∧sizedMet enc Tryz.prog f3 (OpenSpec.ofChange Rows.mergeEditsSpec) false w args)
   (Rows.mergeEditsSpec.post enc Tryz.prog f3 false true false false):=by
 refine returnsInHanded_of_change_and (C:=Tryz.checked) (X:=fun w _=>laidMetH Tryz.prog Rows.mergeEditsRow.laid w) (fun _ _ _ K h=>h.of_heap K) own b kR func3
  (ChangeSpec.witness_shaped (enc:=enc) (C:=Tryz.checked) (os:=os) (X:=fun w _=>laidMetH Tryz.prog Rows.mergeEditsRow.laid w) false (World.laidAll Tryz.prog os Rows.mergeEditsRow.laid) #[.agg #[.int .i64 0,.slice none 0 0,.int .i64 0],.slice none 0 0,.slice none 0 0] 8 (World.laidAll_os _ _ _)
   (World.shaped_of_ZipB kR kR) kR kR kR
   (by rw[MakeChecks.laidMetH_plain _ _ _ kR];exact laidMet_laidAll _ kR kR)) ?_
 intro W base args ds gs before c hW G J hL _;have a:∀ (j:Nat) t v,f3.params[j]?=some t→args[j]?=some v→Value.okWide Tryz.prog W .any base t v:=c;have g:=hW;obtain ⟨p,q,f,L,rfl,M,N⟩:=hW;have hA:DataW.TrodAll enc Tryz.prog W 0 (fun _=>true) true f3.params.toList args.toList ds p:=f;rw[params3] at hA a;obtain ⟨v0,O,d0,P,Q,q0,i,rfl,rfl,k,R⟩:=trodAll_cons hA;obtain ⟨v1,S,d1,T,U,q1,rfl,rfl,rfl,l,V⟩:=trodAll_cons R;obtain ⟨v2,Y,d2,Z,p2,q2,rfl,rfl,rfl,n,r2⟩:=trodAll_cons V;obtain ⟨rfl,rfl,rfl⟩:=trodAll_nil r2;obtain rfl:args = #[v0,v1,v2]:=by cases args;simp_all
 obtain ⟨rfl,rfl⟩:=trodVars_none L;have lt0:∀ x∈Q,x.block<W.heap.size:=by obtain ⟨m,hm⟩:=k;exact DataW.trod_lt m _ _ _ hm
 have lt1:∀ x∈U,x.block<W.heap.size:=by obtain ⟨m,hm⟩:=l;exact DataW.trod_lt m _ _ _ hm
 have lt2:∀ x∈p2,x.block<W.heap.size:=by obtain ⟨m,hm⟩:=n;exact DataW.trod_lt m _ _ _ hm
 obtain ⟨kd,y,u,ls,e0,o⟩:=EB (a 0 24 v0 rfl rfl) k;obtain ⟨a1,n1,c1,s1⟩:=okWide_slice underlying25<|a 1 25 v1 rfl rfl;obtain ⟨r,s,z⟩:=s9 l (by rw[s1];rfl);obtain ⟨a2,n2,c2,s2⟩:=okWide_slice underlying25<|a 2 25 v2 rfl rfl;obtain ⟨A,B,D⟩:=s9 n (by rw[s2];rfl);clear f c;have walk:Calls Tryz.prog 3 #[v0,v1,v2] W fun e w'=>e = .returned (.bool true)∧Below W.heap.size W w':=by
  rw[e0];refine (qY (E0 W) (ur W) [] u kd y ls _ r _ A o s z B D I W (Fj W)).mono ?_;rintro e w' ⟨v,g',s',rfl,E,rfl,rfl,F⟩;exact⟨I,Fk E F⟩
 refine walk.mono fun e W' ⟨he,d⟩=>?_;subst he;exact⟨_,I,_,_,_,[],_,[],g,trodAll_mk1<|shut_bool uT4 _,(trodAll_cons_mk (Below.trod laidOut kR (zg4 kR) k d lt0)<|trodAll_cons_mk (Below.trod laidOut kR (zg4 kR) l d lt1)<|trodAll_cons_mk (Below.trod laidOut kR (zg4 kR) n d lt2) trodAll_mk0),I,d.frame _,fun h=>by cases h⟩
def FH (P:Program)(fn:Func)(c:OpenClaim):Bool:=(c.kinds == (if c.domain.isEmpty then [] else fn.params.toList.map fun t=>match P.underlying t with | some (.int k)=>some k | _=>none))
theorem jf {a b:Bool}(h:a=true)(k:b=true):(a&&b)=true:=by rw[h,k];rfl
theorem DD {P:Program}{f:FuncId}{fn:Func}{s:ChangeSpec}{c:OpenClaim}
  (B:(c.wf<|OpenSpec.ofChange s)=true)
  (C:(laidOutB P)=true)
  (D:(mapsRowed P)=true)
  (E:(fn.params.all (P.readableRec ·))=true)
  (F:(namedTie P c.named s.vars)=true)
  (G:((c.stops == []))=true)
  (H:((P.stops == []))=true)
  (J:((c.knobs == []))=true)
  (K:((P.stopKnobs == []))=true)
  (L:((c.inPlace == P.inPlace f))=true)
  (a:((c.unfollowed == P.unfollowed f))=true)
  (b:((c.recurses == P.recurses f))=true)
  (d:((c.named == P.varsNamed f))=true)
  (e:((c.maps == (fn.params.toList++s.plain.varTypes P).any (P.mapsRec ·)))=true)
  (g:((c.ifaces == (fn.params.toList++s.plain.varTypes P).any (P.ifacesRec ·)))=true)
  (i:((c.mapsOut == P.mapsAmong fn.resultTypes.toList))=true)
  (j:((c.loops == (fn.params.toList++s.plain.varTypes P).any (P.loopsFrom ·)))=true)
  (k:((c.wideKeys == (fn.params.toList++s.plain.varTypes P++fn.resultTypes.toList).any (P.wideKeysFrom ·)))=true)
  (l:(s.vars.all (P.varReadable ·))=true)
  (m:(fn.resultTypes.all<|fun t=>P.readableRec t&&decide (t<P.types.size))=true)
  (n:((c.ifacesOut == fn.resultTypes.toList.any (P.ifacesRec ·)))=true)
  (o:((c.loopsOut == fn.resultTypes.toList.any (P.loopsFrom ·)))=true)
  (p:((c.plainKeys == P.plainKeys))=true)
  (q:(c.shortTexts.isNone)=true)
  (r:(P.stopsHeard)=true)
  (u:(P.mayEnter)=true)
  (v:((c.lifted == P.liftsFinal))=true)
  (w:((P.make == some c.make))=true)
  (x:(FH P fn c)=true)
  (y:((c.pinned == c.pinnedBy))=true)
  (z:((c.veiled == (fn.params.toList++s.plain.varTypes P++fn.resultTypes.toList).any (P.veiledRec ·)))=true)
  (A:(c.veiledFits P fn.params.toList<|fn.params.toList++s.plain.varTypes P++fn.resultTypes.toList)=true)
  : joinedFacts P f fn s c=true:=by
 exact jf (jf (jf (jf (jf (jf (jf (jf (jf (jf (jf (jf (jf (jf (jf (jf (jf (jf (jf (jf (jf (jf (jf (jf (jf (jf (jf (jf (jf (jf (jf B C) D) E) F) G) H) J) K) L) a) b) d) e) g) i) j) k) l) m) n) o) p) q) r) u) v) w) x) y) z) A
theorem k0:(Rows.mergeEditsRow.wf<|OpenSpec.ofChange Rows.mergeEditsSpec)=true:=by kernel_rfl
theorem k1:(laidOutB Tryz.prog)=true:=by kernel_rfl
theorem k2:(mapsRowed Tryz.prog)=true:=by kernel_rfl
theorem k3:(f3.params.all (Tryz.prog.readableRec ·))=true:=by kernel_rfl
theorem k4:(namedTie Tryz.prog Rows.mergeEditsRow.named Rows.mergeEditsSpec.vars)=true:=by kernel_rfl
theorem k5:((Rows.mergeEditsRow.stops == []))=true:=by kernel_rfl
theorem k6:((Tryz.prog.stops == []))=true:=by kernel_rfl
theorem k7:((Rows.mergeEditsRow.knobs == []))=true:=by kernel_rfl
theorem k8:((Tryz.prog.stopKnobs == []))=true:=by kernel_rfl
theorem k9:((Rows.mergeEditsRow.inPlace == Tryz.prog.inPlace 3))=true:=by kernel_rfl
theorem k10:((Rows.mergeEditsRow.unfollowed == Tryz.prog.unfollowed 3))=true:=by kernel_rfl
theorem k11:((Rows.mergeEditsRow.recurses == Tryz.prog.recurses 3))=true:=by kernel_rfl
theorem k12:((Rows.mergeEditsRow.named == Tryz.prog.varsNamed 3))=true:=by kernel_rfl
theorem k13:((Rows.mergeEditsRow.maps == (f3.params.toList++Rows.mergeEditsSpec.plain.varTypes Tryz.prog).any (Tryz.prog.mapsRec ·)))=true:=by kernel_rfl
theorem k14:((Rows.mergeEditsRow.ifaces == (f3.params.toList++Rows.mergeEditsSpec.plain.varTypes Tryz.prog).any (Tryz.prog.ifacesRec ·)))=true:=by kernel_rfl
theorem k15:((Rows.mergeEditsRow.mapsOut == Tryz.prog.mapsAmong f3.resultTypes.toList))=true:=by kernel_rfl
theorem k16:((Rows.mergeEditsRow.loops == (f3.params.toList++Rows.mergeEditsSpec.plain.varTypes Tryz.prog).any (Tryz.prog.loopsFrom ·)))=true:=by kernel_rfl
theorem k17:((Rows.mergeEditsRow.wideKeys == (f3.params.toList++Rows.mergeEditsSpec.plain.varTypes Tryz.prog++f3.resultTypes.toList).any (Tryz.prog.wideKeysFrom ·)))=true:=by kernel_rfl
theorem k18:(Rows.mergeEditsSpec.vars.all (Tryz.prog.varReadable ·))=true:=by kernel_rfl
theorem k19:(f3.resultTypes.all<|fun t=>Tryz.prog.readableRec t&&decide (t<Tryz.prog.types.size))=true:=by kernel_rfl
theorem k20:((Rows.mergeEditsRow.ifacesOut == f3.resultTypes.toList.any (Tryz.prog.ifacesRec ·)))=true:=by kernel_rfl
theorem k21:((Rows.mergeEditsRow.loopsOut == f3.resultTypes.toList.any (Tryz.prog.loopsFrom ·)))=true:=by kernel_rfl
theorem k22:((Rows.mergeEditsRow.plainKeys == Tryz.prog.plainKeys))=true:=by kernel_rfl
theorem k23:(Rows.mergeEditsRow.shortTexts.isNone)=true:=by kernel_rfl
theorem k24:(Tryz.prog.stopsHeard)=true:=by kernel_rfl
theorem k25:(Tryz.prog.mayEnter)=true:=by kernel_rfl
theorem k26:((Rows.mergeEditsRow.lifted == Tryz.prog.liftsFinal))=true:=by kernel_rfl
theorem k27:((Tryz.prog.make == some Rows.mergeEditsRow.make))=true:=by kernel_rfl
theorem k28:(FH Tryz.prog f3 Rows.mergeEditsRow)=true:=by kernel_rfl
theorem k29:((Rows.mergeEditsRow.pinned == Rows.mergeEditsRow.pinnedBy))=true:=by kernel_rfl
theorem k30:((Rows.mergeEditsRow.veiled == (f3.params.toList++Rows.mergeEditsSpec.plain.varTypes Tryz.prog++f3.resultTypes.toList).any (Tryz.prog.veiledRec ·)))=true:=by kernel_rfl
theorem k31:(Rows.mergeEditsRow.veiledFits Tryz.prog f3.params.toList<|f3.params.toList++Rows.mergeEditsSpec.plain.varTypes Tryz.prog++f3.resultTypes.toList)=true:=by kernel_rfl
theorem kp:Rows.mergeEditsRow.wfByText (OpenSpec.ofChange Rows.mergeEditsSpec)=true:=by kernel_rfl
theorem kf : Tryz.prog.funcNamed "cocycle/cocyclelaw18.MergeEdits" = some 3:=by kernel_rfl
theorem kr:Tryz.pinned.checked.prog.funcNamed Rows.mergeEditsRow.func=some 3:=by kernel_rfl
theorem kj:joinedFacts Tryz.pinned.checked.prog 3 f3 Rows.mergeEditsSpec Rows.mergeEditsRow=true :=
 DD k0 k1 k2 k3 k4 k5 k6 k7 k8 k9 k10 k11 k12 k13 k14 k15 k16 k17 k18 k19 k20 k21 k22 k23 k24 k25 k26 k27 k28 k29 k30 k31
theorem ki:f3.isInstance Tryz.prog Rows.mergeEditsRow.origin Rows.mergeEditsRow.targs:=zg4 kR
theorem kw:f3.isWrapper Tryz.prog Rows.mergeEditsRow.wrapper Rows.mergeEditsRow.mainSum:=by unfold Func.isWrapper;first | (rw[zg2<|by decide +kernel];kernel_rfl) | (rw[zg1<|by decide +kernel];exact⟨I,I⟩)
theorem km : Tryz.prog.mainIs = some (true,("d7bc8c17004ccb5c553524bab96eb9c1f65b8d0462365ef299128a987933b0f6" : String).toList):=by kernel_rfl
theorem kl:false=Tryz.prog.looks []:=by kernel_rfl
theorem kg:false=Rows.mergeEditsRow.goesBy Tryz.prog:=by kernel_rfl
theorem kq:([24,25,25].all fun u=>!Tryz.prog.wantsStandIn u)=true:=by kernel_rfl
theorem over:Rows.mergeEditsRow.holds Tryz.pinned (OpenSpec.ofChange Rows.mergeEditsSpec) :=
 OpenClaim.holds_of_wide 3 f3 rfl rfl rfl rfl rfl rfl rfl ⟨rfl,rfl,rfl,rfl,rfl⟩ rfl rfl rfl rfl rfl kr func3 kj ki kw
  (fun os a H enc _=>lifted os a H enc)
theorem proved:Rows.MergeEditsCardSaid :=
 Claim7.holds_tied_plain_at .later [] [.data,.pinned] true (true, "d7bc8c17004ccb5c553524bab96eb9c1f65b8d0462365ef299128a987933b0f6") false
  over (fun _ h=>by cases h) kp (fun _ h=>by cases h) mergeEdits_row_tie rfl ⟨rfl,rfl⟩ km rfl
  (fun f fn c a=>by
   obtain rfl:f=3:=Option.some.inj (kf.symm.trans c) |>.symm;obtain rfl:fn=f3:=(Option.some.inj<|func3.symm.trans a).symm;exact⟨kl,fun j t b=>by
    rw[params3] at b;have hm:t∈[24,25,25]:=by simpa using Array.mem_of_getElem? b
    exact (show Tryz.prog.wantsStandIn t=false by simpa using zk1.1 kq t hm)⟩)
  kg
#print axioms proved
end Go.Proofs.YtpmoadbbfobbcaaGreatDoor.mergeEditsDone
