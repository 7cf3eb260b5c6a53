/-
  The law TilesMaps of the chapter on tiles.
-/
import Derived.Test.YtcfkpajlakidbaaGreatDoorTm15
import Derived.Test.YtcfkpajlakidbaaGreatDoorTie
import Derived.Test.YtcfkpajlakidbaaGreatDoorCards
import Derived.JoinedOf
import Derived.LaidMore
import Derived.Lay
import Derived.SevenTiedAt
import Derived.Stop.Joined
set_option linter.unusedSimpArgs false
set_option linter.unusedVariables false
namespace Go.Proofs.YtcfkpajlakidbaaGreatDoor
open _root_.Go.Proofs.Tryz _root_.Go.Proofs.YtcfkpajlakidbaaGreatDoor.Tryz
open Go Go.Sy Go.Pl Go.Proofs
set_option maxRecDepth 100000
set_option maxHeartbeats 2000000
theorem pO (E:World)(g:PH)(s:Own)(v:Value)(kd y:Int)(ls:List (List Int))(nv:Value)(ns:List Int)(z:Int)(hv:aM g v ls)(hn:cj g nv ns)(hE:E.drawn=0) :
  Ctr Tryz.prog E 4 #[.agg #[vi kd,v,vi y],nv,vi z] g s (fun r g' s'=>r=vb true∧s=s'∧Le g g'):=by
 obtain ⟨p,n,c,rfl⟩:∃ p n c,v = .slice p n c:=by
  obtain ⟨rs0,hrs0,_⟩:=hv;obtain ⟨p,c,rfl⟩:=za2 hrs0;exact⟨_,_,_,I⟩
 have hsm:=AW kd ls y;generalize hMd:je kd ls y=M at *;have hMf:dg M:=⟨by have:=hsm.few; omega,fun c hc=>by have:=nj (hsm.rt.form c hc); omega⟩;have hMt:(ae M).length≤1000:=by rw[hsm.rt.tab]; have:=hsm.few; omega
 refine za9 (args:=[.agg #[vi kd,.slice p n c,vi y],nv,vi z]) func4 I ntmps4 (bE I) ?_;refine rZ (bW (bO I) fun b3=>?_);refine aT I (rZ (lW (cL call5 I (sw E hE g _)) ?_));rintro _ g1 _ ⟨rfl,rfl,hle1⟩;have hv1:=hv.mono hle1;refine aT I (rZ (lK (qV 0 isAgg24 sizeOf24 I I I) (lW (cL call6 I (x5 E g1 _ _ kd y ls hv1)) ?_)));rintro _ g2 _ ⟨rfl,hle2,u2,rfl,hu2⟩;rw[hMd] at hu2;obtain ⟨q2,d2,rfl⟩:=hu2.form;refine bW (aL zk7) fun b8=>?_;refine oZ (sK 0 au I I I I I ⟨I,trivial⟩) (tZ (rZ (lK (qV 0 ba au I I I) (lM I (lM I (lW (cL call7 I (xW E g2 _ _ _ M z ns hu2 hMf hMt (za3 hn (hle1.trans hle2)))) ?_))))));rintro tv g3 _ ⟨rfl,hle3,T,hT,hok⟩;have hu3:=hu2.mono hle3;refine aT I ?_;have hTl:T.length<1099511627776:=by have:=hok.few; omega
 have hTs:∀ t∈T,t.length<1099511627776:=fun t ht=>by
  have h1:=hok.len t ht;have h2:(iU M).length≤(ae M).length:=by unfold iU; rw[ze1]; exact zc2 _ _
  omega
 obtain ⟨hmap,hmore,heul,hrt,hop⟩:=CH hsm hok;have hBf:dg (bh M T):=⟨by have:=hrt.few; omega,fun c hc=>by have:=nj (hrt.form c hc); omega⟩;have hBi:∀ c∈bh M T,dn c.id:=fun c hc=>by
  have h1:=hrt.pos c hc;have h2:c∈dM M T:=by
   unfold bh at hc;split at hc
   ·cases hc
   ·rwa [hsm.rt.tab] at hc
  have h3:=rq hsm.rt (T:=T) (by have:=hok.few; omega) c h2;unfold dn;omega
 have hck:(aN (bh M T)).2=0:=by rw[hrt.check]
 have hcB:=hrt.canon;have hMl:=hsm.few;have hBl:=hrt.few;refine rZ (lK (qV 0 ba au I I I) (lM I (lW (cL call12 I (kI E hE g3 _ _ _ M T hu3 hMf hsm.ids hT hTl hTs)) ?_)));rintro _ g4 _ ⟨rfl,hle4,u4,rfl,hB4⟩;have hpj:=fun g s=>uD E hE g s (.slice q2 M.length d2) tv M T;rw[hsm.rt.tab] at hpj;generalize bh M T=B at *;obtain ⟨q4,d4,rfl⟩:=hB4.form;have hu4:=hu3.mono hle4;have hT4:=hT.mono hle4;refine bW (aL zk7) fun b10=>?_;refine oZ (sK 0 au I I I I I ⟨I,trivial⟩) (tZ (rZ (lK (qV 0 ba au I I I) (lW (cL call13 I (ir E g4 _ _ B hB4 hBf)) ?_))));rintro _ _ _ ⟨rfl,rfl,rfl⟩;rw[hck];refine lM I (yX I (yX I (lA I (aT I (rZ (lK (qV 1 ba au I I I) (lM I (lW (cL call14 I (hpj g4 _ hu4 hMf hsm.ids hT4 hTl hTs)) ?_))))))));rintro _ g5 _ ⟨rfl,hle5,u5,rfl,hI⟩;obtain ⟨is,his,hiall⟩:=id hI;obtain ⟨q5,d5,rfl⟩:=za2 his;have hil:=hiall.length;rw[ze1] at hil;have hu5:=hu4.mono hle5;have hB5:=hB4.mono hle5;refine bW (aL zeroValue45) fun b13=>?_;refine oZ (sK 0 sizeOf45 I I I I I ⟨I,trivial⟩) (tZ (sQ ?_));refine dW [] [(0,2),(1,2),(2,2),(3,2),(4,2),(5,2),(6,2),(7,1),(8,2),(9,2),(10,1),(11,2),(12,2),(13,2),(14,2),(15,2),(16,1),(17,2),(18,2),(19,1),(20,2),(21,2),(22,2),(23,2),(24,1),(25,1),(26,1),(27,0),(28,2),(29,2),(30,2),(31,1),(33,1),(32,0),(34,0),(35,2),(36,2),(37,2)] zd7 kR ?_;refine yM I (yM I (yJ I (zb1 I (gT I I I dC) (eQ I I) dC (pU I (wT I I) (yM I (zb1 I (gT I I I dC) (fA eU I dN I) dC (SP.gq I (gT I I I dC) (qL (v:=.slice q4 B.length d4) fD I (cO 1 I I)) dC (zb1 I (gT I I I dC) (eN aK I) dC (zb1 I (gT I I I dC) (fA eU I dN I) dC (SP.gq I (gT I I I dC) (qL (v:=.slice q2 M.length d2) fD I (cO 2 I I)) dC (zb1 I (gT I I I dC) (eN aK I) dC (zb1 I (gT I I I dC) (SU.eq (v':=vb true) (gQ I I) (zd6 vb (zf3 oM))) dC (pU I (wT I I) (yM I (zb1 I (gT I I I dC) (fA Cc I sizeOf43 I) dC (SP.gq I (gT I I I dC) (qL (v:=.slice q5 is.length d5) isAgg43 I (cO 0 I I)) dC (zb1 I (gT I I I dC) (eN Ek I) dC (zb1 I (gT I I I dC) (fA eU I dN I) dC (SP.gq I (gT I I I dC) (qL (v:=.slice q4 B.length d4) fD I (cO 1 I I)) dC (zb1 I (gT I I I dC) (eN aK I) dC (zb1 I (gT I I I dC) (SU.eq (v':=vb true) (eQ I I) (zd6 vb (zf3 oM))) dC (pU I (wT I I) (yM I (SP.gq I (gT I I I dC) (qV 1 ba au I I I) dC (SP.gq I (gT I I I dC) (qV 2 ba au I I I) dC (SP.gq I (gT I I I dC) (qV 0 isAgg45 sizeOf45 I I I) dC (SP.go I (gT I I I dC) (cL call15 I (pV E hE g5 _ _ _ _ B M (prI M T.length) hmap hB5 hu5 hBf hMf (by rw[hcB]; exact hI) hBi hsm.ids)) dC (.inr iR) ?_)))))))))))))))))))))))))));rintro _ g6 _ ⟨rfl,rfl,hle6⟩;have hu6:=hu5.mono hle6;have hB6:=hB5.mono hle6;refine zb1 I (gT I I I dC) (eQ I I) dC (pU I (wT I I) (yM I (SP.gq I (gT I I I dC) (qV 1 ba au I I I) dC (SP.gq I (gT I I I dC) (qV 2 ba au I I I) dC (SP.go I (gT I I I dC) (cL call16 I (qI E g6 _ _ B hB6 hBf)) dC (.inr iR) ?_)))));rintro _ _ _ ⟨rfl,rfl,rfl⟩;refine SP.go I (gT I I I dC) (cL call16 I (qI E g6 _ _ M hu6 hMf)) dC (.inr iR) ?_;rintro _ _ _ ⟨rfl,rfl,rfl⟩;refine zb1 I (gT I I I dC) (SU.eq (v':=vb true) (eQ I I) (zd6 vb (zf3 heul))) dC (pU I (wT I I) (pU I (aS I) (pN (tN (rE (dR (s':=s) uR ?_))))));exact za6 (.inl I) results4 I ⟨I,I,hle1.trans (hle2.trans (hle3.trans (hle4.trans (hle5.trans hle6))))⟩
end Go.Proofs.YtcfkpajlakidbaaGreatDoor
namespace Go.Proofs.YtcfkpajlakidbaaGreatDoor.tilesMapsDone
open _root_.Go.Proofs.Tryz _root_.Go.Proofs.YtcfkpajlakidbaaGreatDoor.Tryz
open Go Go.Sy Go.Pl Go.Proofs Go.Proofs.YtcfkpajlakidbaaGreatDoor
open Go.ChangeShapes Go.WideShapes Go.ChangeAt Go.RowKit
set_option linter.unusedVariables false
theorem own:ownKnob Tryz.prog.godebug=none:=by kernel_rfl
theorem laidOut:laidOutB Tryz.prog=true:=by kernel_rfl
set_option maxRecDepth 100000 in
theorem lifted (os:Os)(started:os.Started)(H:Type)(enc:TypeId×Value→H) :
  ReturnsInHanded {} Tryz.checked os 4 .any (fun w args=>(Rows.tilesMapsSpec.pre enc Tryz.prog f4 Rows.tilesMapsRow.domain false w args∧laidMetH Tryz.prog Rows.tilesMapsRow.laid w)∧sizedMet enc Tryz.prog f4 (OpenSpec.ofChange Rows.tilesMapsSpec) false w args)
   (Rows.tilesMapsSpec.post enc Tryz.prog f4 false true false false):=by
 refine returnsInHanded_of_change_and (C:=Tryz.checked) (X:=fun w _=>laidMetH Tryz.prog Rows.tilesMapsRow.laid w) (fun _ _ _ hh h=>h.of_heap hh) own started kR func4
  (ChangeSpec.witness_shaped (enc:=enc) (C:=Tryz.checked) (os:=os) (X:=fun w _=>laidMetH Tryz.prog Rows.tilesMapsRow.laid w) false (World.laidAll Tryz.prog os Rows.tilesMapsRow.laid) #[.agg #[.int .i64 0,.slice none 0 0,.int .i64 0],.slice none 0 0,.int .i64 0] 8 (World.laidAll_os _ _ _)
   (World.shaped_of_ZipB kR kR) kR kR kR
   (by rw[MakeChecks.laidMetH_plain _ _ _ kR]; exact laidMet_laidAll _ kR kR)) ?_
 intro W base args ds gs before hval0 hW hcnd hsz0 hL _;have hval:∀ (j:Nat) t v,f4.params[j]?=some t→args[j]?=some v→Value.okWide Tryz.prog W .any base t v:=hval0;have hW':=hW;obtain ⟨p,q,hA0,hV,rfl,hfz,hnd⟩:=hW;have hA:DataW.TrodAll enc Tryz.prog W 0 (fun _=>true) true f4.params.toList args.toList ds p:=hA0;rw[params4] at hA hval;obtain ⟨v0,vs0,d0,ds0,p0,q0,hargs,rfl,rfl,h0,r0⟩:=trodAll_cons hA;obtain ⟨v1,vs1,d1,ds1,p1,q1,rfl,rfl,rfl,h1,r1⟩:=trodAll_cons r0;obtain ⟨v2,vs2,d2,ds2,p2,q2,rfl,rfl,rfl,h2,r2⟩:=trodAll_cons r1;obtain ⟨rfl,rfl,rfl⟩:=trodAll_nil r2;obtain rfl:args = #[v0,v1,v2]:=by cases args; simp_all
 obtain ⟨rfl,rfl⟩:=trodVars_none hV;have lt0:∀ x∈p0,x.block<W.heap.size:=by obtain ⟨m,hm⟩:=h0; exact DataW.trod_lt m _ _ _ hm
 have lt1:∀ x∈p1,x.block<W.heap.size:=by obtain ⟨m,hm⟩:=h1; exact DataW.trod_lt m _ _ _ hm
 have lt2:∀ x∈p2,x.block<W.heap.size:=by obtain ⟨m,hm⟩:=h2; exact DataW.trod_lt m _ _ _ hm
 obtain ⟨kd,y,u,ls,e0,hls⟩:=CQ (hval 0 24 v0 rfl rfl) h0;obtain ⟨a1,n1,c1,s1⟩:=okWide_slice aj (hval 1 25 v1 rfl rfl);obtain ⟨ns1,hn1⟩:=Dp h1 (by rw[s1]; rfl);obtain ⟨n2,e2⟩:=okWide_int uT3 (hval 2 3 v2 rfl rfl);clear hA0 hval0;have walk:Calls Tryz.prog 4 #[v0,v1,v2] W fun e w'=>e = .returned (.bool true)∧Below W.heap.size W w':=by
  rw[e0,e2];refine (pO (E0 W) (wx W) [] u kd y ls _ ns1 n2 hls hn1 I W (DK W)).mono ?_;rintro e w' ⟨v,g',s',rfl,hat,rfl,rfl,hle⟩;exact⟨I,DM hat hle⟩
 refine walk.mono fun e W' ⟨he,bel⟩=>?_;subst he;exact⟨_,I,_,_,_,[],_,[],hW',trodAll_mk1 (shut_bool uT4 _),(trodAll_cons_mk (Below.trod laidOut kR (zf7 kR) h0 bel lt0) (trodAll_cons_mk (Below.trod laidOut kR (zf7 kR) h1 bel lt1) (trodAll_cons_mk (Below.trod laidOut kR (zf7 kR) h2 bel lt2) trodAll_mk0))),I,bel.frame _,fun h=>by cases h⟩
def Ea (P:Program)(fn:Func)(c:OpenClaim):Bool:=(c.kinds == (if c.domain.isEmpty then [] else fn.params.toList.map fun t=>match P.underlying t with | some (.int k)=>some k | _=>none))
theorem ie {a b:Bool}(h:a=true)(k:b=true):(a&&b)=true:=by rw[h,k]; rfl
theorem Bs {P:Program}{f:FuncId}{fn:Func}{s:ChangeSpec}{c:OpenClaim}
  (h0:(c.wf (OpenSpec.ofChange s))=true)
  (h1:(laidOutB P)=true)
  (h2:(mapsRowed P)=true)
  (h3:(fn.params.all (P.readableRec ·))=true)
  (h4:(namedTie P c.named s.vars)=true)
  (h5:((c.stops == []))=true)
  (h6:((P.stops == []))=true)
  (h7:((c.knobs == []))=true)
  (h8:((P.stopKnobs == []))=true)
  (h9:((c.inPlace == P.inPlace f))=true)
  (h10:((c.unfollowed == P.unfollowed f))=true)
  (h11:((c.recurses == P.recurses f))=true)
  (h12:((c.named == P.varsNamed f))=true)
  (h13:((c.maps == (fn.params.toList++s.plain.varTypes P).any (P.mapsRec ·)))=true)
  (h14:((c.ifaces == (fn.params.toList++s.plain.varTypes P).any (P.ifacesRec ·)))=true)
  (h15:((c.mapsOut == P.mapsAmong fn.resultTypes.toList))=true)
  (h16:((c.loops == (fn.params.toList++s.plain.varTypes P).any (P.loopsFrom ·)))=true)
  (h17:((c.wideKeys == (fn.params.toList++s.plain.varTypes P++fn.resultTypes.toList).any (P.wideKeysFrom ·)))=true)
  (h18:(s.vars.all (P.varReadable ·))=true)
  (h19:(fn.resultTypes.all (fun t=>P.readableRec t&&decide (t<P.types.size)))=true)
  (h20:((c.ifacesOut == fn.resultTypes.toList.any (P.ifacesRec ·)))=true)
  (h21:((c.loopsOut == fn.resultTypes.toList.any (P.loopsFrom ·)))=true)
  (h22:((c.plainKeys == P.plainKeys))=true)
  (h23:(c.shortTexts.isNone)=true)
  (h24:(P.stopsHeard)=true)
  (h25:(P.mayEnter)=true)
  (h26:((c.lifted == P.liftsFinal))=true)
  (h27:((P.make == some c.make))=true)
  (h28:(Ea P fn c)=true)
  (h29:((c.pinned == c.pinnedBy))=true)
  (h30:((c.veiled == (fn.params.toList++s.plain.varTypes P++fn.resultTypes.toList).any (P.veiledRec ·)))=true)
  (h31:(c.veiledFits P fn.params.toList (fn.params.toList++s.plain.varTypes P++fn.resultTypes.toList))=true)
  : joinedFacts P f fn s c=true:=by
 exact ie (ie (ie (ie (ie (ie (ie (ie (ie (ie (ie (ie (ie (ie (ie (ie (ie (ie (ie (ie (ie (ie (ie (ie (ie (ie (ie (ie (ie (ie (ie h0 h1) h2) h3) h4) h5) h6) h7) h8) h9) h10) h11) h12) h13) h14) h15) h16) h17) h18) h19) h20) h21) h22) h23) h24) h25) h26) h27) h28) h29) h30) h31
theorem k0:(Rows.tilesMapsRow.wf (OpenSpec.ofChange Rows.tilesMapsSpec))=true:=by kernel_rfl
theorem k1:(laidOutB Tryz.prog)=true:=by kernel_rfl
theorem k2:(mapsRowed Tryz.prog)=true:=by kernel_rfl
theorem k3:(f4.params.all (Tryz.prog.readableRec ·))=true:=by kernel_rfl
theorem k4:(namedTie Tryz.prog Rows.tilesMapsRow.named Rows.tilesMapsSpec.vars)=true:=by kernel_rfl
theorem k5:((Rows.tilesMapsRow.stops == []))=true:=by kernel_rfl
theorem k6:((Tryz.prog.stops == []))=true:=by kernel_rfl
theorem k7:((Rows.tilesMapsRow.knobs == []))=true:=by kernel_rfl
theorem k8:((Tryz.prog.stopKnobs == []))=true:=by kernel_rfl
theorem k9:((Rows.tilesMapsRow.inPlace == Tryz.prog.inPlace 4))=true:=by kernel_rfl
theorem k10:((Rows.tilesMapsRow.unfollowed == Tryz.prog.unfollowed 4))=true:=by kernel_rfl
theorem k11:((Rows.tilesMapsRow.recurses == Tryz.prog.recurses 4))=true:=by kernel_rfl
theorem k12:((Rows.tilesMapsRow.named == Tryz.prog.varsNamed 4))=true:=by kernel_rfl
theorem k13:((Rows.tilesMapsRow.maps == (f4.params.toList++Rows.tilesMapsSpec.plain.varTypes Tryz.prog).any (Tryz.prog.mapsRec ·)))=true:=by kernel_rfl
theorem k14:((Rows.tilesMapsRow.ifaces == (f4.params.toList++Rows.tilesMapsSpec.plain.varTypes Tryz.prog).any (Tryz.prog.ifacesRec ·)))=true:=by kernel_rfl
theorem k15:((Rows.tilesMapsRow.mapsOut == Tryz.prog.mapsAmong f4.resultTypes.toList))=true:=by kernel_rfl
theorem k16:((Rows.tilesMapsRow.loops == (f4.params.toList++Rows.tilesMapsSpec.plain.varTypes Tryz.prog).any (Tryz.prog.loopsFrom ·)))=true:=by kernel_rfl
theorem k17:((Rows.tilesMapsRow.wideKeys == (f4.params.toList++Rows.tilesMapsSpec.plain.varTypes Tryz.prog++f4.resultTypes.toList).any (Tryz.prog.wideKeysFrom ·)))=true:=by kernel_rfl
theorem k18:(Rows.tilesMapsSpec.vars.all (Tryz.prog.varReadable ·))=true:=by kernel_rfl
theorem k19:(f4.resultTypes.all (fun t=>Tryz.prog.readableRec t&&decide (t<Tryz.prog.types.size)))=true:=by kernel_rfl
theorem k20:((Rows.tilesMapsRow.ifacesOut == f4.resultTypes.toList.any (Tryz.prog.ifacesRec ·)))=true:=by kernel_rfl
theorem k21:((Rows.tilesMapsRow.loopsOut == f4.resultTypes.toList.any (Tryz.prog.loopsFrom ·)))=true:=by kernel_rfl
theorem k22:((Rows.tilesMapsRow.plainKeys == Tryz.prog.plainKeys))=true:=by kernel_rfl
theorem k23:(Rows.tilesMapsRow.shortTexts.isNone)=true:=by kernel_rfl
theorem k24:(Tryz.prog.stopsHeard)=true:=by kernel_rfl
theorem k25:(Tryz.prog.mayEnter)=true:=by kernel_rfl
theorem k26:((Rows.tilesMapsRow.lifted == Tryz.prog.liftsFinal))=true:=by kernel_rfl
theorem k27:((Tryz.prog.make == some Rows.tilesMapsRow.make))=true:=by kernel_rfl
theorem k28:(Ea Tryz.prog f4 Rows.tilesMapsRow)=true:=by kernel_rfl
theorem k29:((Rows.tilesMapsRow.pinned == Rows.tilesMapsRow.pinnedBy))=true:=by kernel_rfl
theorem k30:((Rows.tilesMapsRow.veiled == (f4.params.toList++Rows.tilesMapsSpec.plain.varTypes Tryz.prog++f4.resultTypes.toList).any (Tryz.prog.veiledRec ·)))=true:=by kernel_rfl
theorem k31:(Rows.tilesMapsRow.veiledFits Tryz.prog f4.params.toList (f4.params.toList++Rows.tilesMapsSpec.plain.varTypes Tryz.prog++f4.resultTypes.toList))=true:=by kernel_rfl
theorem kp:Rows.tilesMapsRow.wfByText (OpenSpec.ofChange Rows.tilesMapsSpec)=true:=by kernel_rfl
theorem kf : Tryz.prog.funcNamed "cocycle/cocyclelaw24.TilesMaps" = some 4:=by kernel_rfl
theorem kr:Tryz.pinned.checked.prog.funcNamed Rows.tilesMapsRow.func=some 4:=by kernel_rfl
theorem kj:joinedFacts Tryz.pinned.checked.prog 4 f4 Rows.tilesMapsSpec Rows.tilesMapsRow=true :=
 Bs k0 k1 k2 k3 k4 k5 k6 k7 k8 k9 k10 k11 k12 k13 k14 k15 k16 k17 k18 k19 k20 k21 k22 k23 k24 k25 k26 k27 k28 k29 k30 k31
theorem ki:f4.isInstance Tryz.prog Rows.tilesMapsRow.origin Rows.tilesMapsRow.targs:=zf7 kR
theorem kw:f4.isWrapper Tryz.prog Rows.tilesMapsRow.wrapper Rows.tilesMapsRow.mainSum:=by unfold Func.isWrapper; first | (rw[zf5 (by decide +kernel)]; kernel_rfl) | (rw[zf4 (by decide +kernel)]; exact⟨I,I⟩)
theorem km : Tryz.prog.mainIs = some (true,("27eb1646721a83e5082c8fc58acfba145bbfb370b2748910c2fcd072b7afacca" : String).toList):=by kernel_rfl
theorem kl:false=Tryz.prog.looks []:=by kernel_rfl
theorem kg:false=Rows.tilesMapsRow.goesBy Tryz.prog:=by kernel_rfl
theorem kq:([24,25,3].all fun u=>!Tryz.prog.wantsStandIn u)=true:=by kernel_rfl
theorem over:Rows.tilesMapsRow.holds Tryz.pinned (OpenSpec.ofChange Rows.tilesMapsSpec) :=
 OpenClaim.holds_of_wide 4 f4 rfl rfl rfl rfl rfl rfl rfl ⟨rfl,rfl,rfl,rfl,rfl⟩ rfl rfl rfl rfl rfl kr func4 kj ki kw
  (fun os started H enc _=>lifted os started H enc)
theorem proved:Rows.TilesMapsCardSaid :=
 Claim7.holds_tied_plain_at .later [] [.data,.pinned] true (true, "27eb1646721a83e5082c8fc58acfba145bbfb370b2748910c2fcd072b7afacca") false
  over (fun _ h=>by cases h) kp (fun _ h=>by cases h) tilesMaps_row_tie rfl ⟨rfl,rfl⟩ km rfl
  (fun f fn hf hfn=>by
   obtain rfl:f=4:=Option.some.inj (kf.symm.trans hf) |>.symm;obtain rfl:fn=f4:=(Option.some.inj (func4.symm.trans hfn)).symm;exact⟨kl,fun j t ht=>by
    rw[params4] at ht;have hm:t∈[24,25,3]:=by simpa using Array.mem_of_getElem? ht
    exact (show Tryz.prog.wantsStandIn t=false by simpa using List.all_eq_true.1 kq t hm)⟩)
  kg
#print axioms proved
end Go.Proofs.YtcfkpajlakidbaaGreatDoor.tilesMapsDone
