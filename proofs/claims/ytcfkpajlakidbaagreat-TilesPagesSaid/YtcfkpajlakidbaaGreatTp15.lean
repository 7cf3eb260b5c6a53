/-
  For every complex that numbers make, with at most 20 cells, and for tiles that numbers make, as they are and with a change, Pages and Betti return what the reference returns.
-/
import Derived.Test.YtcfkpajlakidbaaGreatTp14
import Derived.Test.YtcfkpajlakidbaaGreatTp12
set_option linter.unusedSimpArgs false
set_option linter.unusedVariables false
namespace Go.Proofs.YtcfkpajlakidbaaGreat
open _root_.Go.Proofs.Tryz _root_.Go.Proofs.YtcfkpajlakidbaaGreat.Tryz
open Go Go.Sy Go.Pl Go.Proofs
set_option maxRecDepth 100000
set_option maxHeartbeats 4000000
theorem C5 (n:Int):(vb (decide (n≠n)):Value)=vb false:=zd9 vb (zf5 (fun h=>h rfl))
def Cr (y:Int):Int:=([2,3,5,4,2,7]:List Int).getD (bG y 6).toNat 2
theorem zx (y:Int):([2,3,5,4,2,7]:List Int)[(bG y 6).toNat]?=some (Cr y):=by
 have h:=aO y 6 dC dC;have key:∀ m:Nat,m<6→([2,3,5,4,2,7]:List Int)[m]?=some (([2,3,5,4,2,7]:List Int).getD m 2):=by decide
 exact key _ oM
theorem Bz (y:Int):2≤Cr y∧Cr y<9:=by
 have h:=aO y 6 dC dC;have key:∀ m:Nat,m<6→2≤([2,3,5,4,2,7]:List Int).getD m 2∧([2,3,5,4,2,7]:List Int).getD m 2<9:=by decide
 exact key _ oM
theorem tj {l:List Cl}{T:List (List Int)}(hT:T.length≤20)(p:Int):(a8 l T p).length≤20∧(∀ A∈a8 l T p,A.length≤20∧∀ x∈A,x.length≤9)∧(ek l T p).length≤9:=by
 by_cases h:bB l T p=0
 ·have h1:=mE (l:=l) (T:=T) (p:=p);have h2:=pm h;have h3:=j5 h;refine⟨oM,fun A hA=>⟨by have:=(h2 A hA).1; omega,fun x hx=>?_⟩,?_⟩
  ·have h4:=((h2 A hA).2 x hx).1;have h5:=h3.dims;omega
  ·rw[qU h,em,ze4,zi2];exact h3.dims
 ·have hn:a8 l T p=[]:=by unfold a8; rw[zf8 h]
  have hb:ek l T p=[]:=by unfold ek; rw[hn]; rfl
  rw[hn,hb];exact⟨by simp,fun A hA=>by simp at hA,by simp⟩
theorem Tryz.build36 (q q':Option Addr)(m k m' k':Nat)(w:World):(Instr.build 36 #[(0,.slice q m k),(1,.slice q' m' k')]).run Tryz.prog w = .ok (.agg #[.slice q m k,.slice q' m' k']) w:=by
 have h1:∀ (q:Option Addr) (m k:Nat),(Value.slice q m k).cells = #[.slice q m k]:=fun _ _ _=>rfl;simp[Instr.build,Instr.fill,h1];rfl
theorem ax.cut4 {g:PH}{q:Option Addr}{n c:Nat}{U:List (List Int)}(h:ax g (.slice q n c) U)(h4:4<n):∃ q' c',sliced q 0 4 c 1 = .slice q' 4 c'∧ax g (.slice q' 4 c') (U.take 4):=by
 obtain ⟨us,hus,hall⟩:=h;obtain ⟨rfl,-⟩:=SlA.cap hus;have hcut:=SlA.cut (l:=0) (m:=4) (k:=1) (e:=ak) hus dC oM;rw[List.drop_zero] at hcut;obtain ⟨q',hq⟩:=m8 q 0 4 c 1;rw[hq] at hcut;exact⟨q',_,hq,us.take 4,hcut,az.take 4 hall⟩
theorem nH (E:World)(hE:E.drawn=0)(g:PH)(s:Own)(v nv:Value)(kd y:Int)(ls:List (List Int))(ns:List Int)(a0 a1 a2 a3:Int)(hv:ax g v ls)(hn:bC g nv ns) :
  Ctr Tryz.prog E 3 #[.agg #[vi kd,v,vi y],nv,.agg #[vi a0,vi a1,vi a2,vi a3]] g s (fun r g' s'=>r=vb true∧s=s'∧Le g g'):=by
 obtain ⟨p,n,c,rfl⟩:∃ p n c,v = .slice p n c:=by
  obtain ⟨rs0,hrs0,_⟩:=hv;obtain ⟨p,c,rfl⟩:=za2 hrs0;exact⟨_,_,_,I⟩
 have hsm:=xQ kd ls y;generalize hMd:im kd ls y=M at *;have hMu:=hsm.toSml.room.up;have hMf:cR M:=hMu.fits dC dC;have hMt:(ae M).length≤1000:=by rw[hsm.rt.tab]; have:=hsm.few; omega
 have hzr:=aO a3 6 dC dC;have hzg:=zx a3;obtain ⟨hp2,hp9⟩:=Bz a3;generalize Cr a3=pr at *;refine za9 (args:=[.agg #[vi kd,.slice p n c,vi y],nv,.agg #[vi a0,vi a1,vi a2,vi a3]]) func3 I ntmps3 (bE I) ?_;refine rZ (bW (bO I) fun b3=>?_);refine bW (bO I) fun b5=>?_;refine aT I (rZ (lW (cL call7 I (pT E hE g _)) ?_));rintro _ g1 _ ⟨rfl,rfl,hle1⟩;have hv1:=hv.mono hle1;refine aT I (rZ (lK (qV 1 isAgg24 sizeOf24 I I I) (lW (cL call8 I (vy E g1 _ _ kd y ls hv1)) ?_)));rintro _ g2 _ ⟨rfl,hle2,u2,rfl,hu2⟩;rw[hMd] at hu2;obtain ⟨q2,d2,rfl⟩:=hu2.form;refine bW (aL zk9) fun b8=>?_;refine oZ (sK 0 aw I I I I I ⟨I,trivial⟩) (tZ (rZ (lK (qV 0 bh aw I I I) (lU (iB ze zT3 I I dC dC) (lK (qL (v:=vi a1) iT3 I (cO 1 I I)) (lU (SU.quo I I dC) (lM I (lW (cL call9 I (vm E g2 _ _ _ M _ ns hu2 hMf hMt (za3 hn (hle1.trans hle2)))) ?_))))))));rintro tv g3 _ ⟨rfl,hle3,T,hT3,hok⟩;have hu3:=hu2.mono hle3;have hTsm:=hok.tsm hsm;refine aT I (rZ (lW (bS sty25 I I I (ab sB) dC) ?_));rintro _ _ _ ⟨b31,rfl,rfl,rfl⟩;refine zb3 fun g4 hle4 hb31=>?_;have hL31:bC g4 (.slice (some ⟨b31,0,none⟩) 6 6) [2,3,5,4,2,7]:=SlA.lit hb31 rfl rfl;refine lU (iB ze zT3 I I dC dC) (lK (qL (v:=vi a3) iT3 I (cO 1 I I)) (lW (cL gD I (aK E g4 _ a3 6 dC)) ?_));rintro _ _ _ ⟨rfl,rfl,rfl⟩;refine lU (iA ah zT3 I I I oM sL) (lK (eB (e:=encInt) iT3 I (za5 hL31) hzg I) (aT I (rZ (lK (qV 0 bh aw I I I) (lM I (lU (iB ze zT3 I I dC dC) (lK (qL (v:=vi a0) iT3 I (cO 1 I I)) (lU (iB ze zT3 I I dC dC) (lK (qL (v:=vi a1) iT3 I (cO 1 I I)) (lU (iB ze zT3 I I dC dC) (lK (qL (v:=vi a2) iT3 I (cO 1 I I)) (lU (za1 I (build35 _ _ _)) (lW (cL call11 I (sN E g4 _ _ tv M T a0 a1 a2 (hu3.mono hle4) hMf (hT3.mono hle4) hok.pos (by have:=hok.few; omega) (hok.len9 hsm))) ?_)))))))))))));rintro uv g5 _ ⟨rfl,hle5,U,hU5,hUsm⟩;obtain ⟨us,hus,hallu⟩:=id hU5;obtain ⟨up,uc,rfl⟩:=za2 hus;refine aT I ?_;have hle35:=hle4.trans hle5;replace hu3:=hu3.mono hle35;replace hT3:=hT3.mono hle35;obtain ⟨ts,hts,hallt⟩:=id hT3;obtain ⟨tp,tc,rfl⟩:=za2 hts;have hul:=hallu.length;have hucap:=(SlA.cap hus).2;refine SC.cut (ι:=Option Addr×Nat×Nat×List (List Int)) (fun z=>[(7,vb true),(8,pp b8 0),(9,.slice tp ts.length tc),(10,vi pr),(11,.slice z.1 z.2.1 z.2.2.1)]) (fun _=>g5) (fun _=>pt b8 (.cells #[.slice q2 M.length d2] 30 (0,0))::s) (fun z=>ax g5 (.slice z.1 z.2.1 z.2.2.1) z.2.2.2∧Tsm z.2.2.2) ?_ ?_
 ·refine sW I (lU (eN aY I) (lU (gR I I) (tZ ?_)));refine iP I (fun h4=>?_) (fun h4=>?_)
  ·obtain ⟨q4,c4,hq4,hU4⟩:=hU5.cut4 oM;refine rG (lM I (lU (SU.eq (v':=.slice q4 4 c4) (SU.sliceH aY aR I I dC oM) hq4) (lA I (nL (dR (.cons_cons _ (.cons _ (.cons _ (.refl _)))) ?_)))));exact za7 (q4,4,c4,U.take 4) sB I I ⟨hU4,by rw[ze2]; have:=hUsm.few; omega,fun t ht=>hUsm.len t (List.mem_of_mem_take ht)⟩
  ·refine kP (dR (.cons_cons _ (.cons _ (.cons _ (.refl _)))) ?_);exact za7 (up,us.length,uc,U) sB I I ⟨hU5,hUsm⟩
 clear hU5 hUsm hus hallu hul hucap;rintro ⟨wp,wn,wc,X⟩ ⟨hX5,hXsm⟩;dsimp only at hX5 hXsm ⊢;refine sW I (lM I (lU (za1 I (build36 _ _ _ _ _ _)) (bW (aL zeroValue36) fun b12=>?_)));refine oZ (sK 0 sizeOf36 I I I I I sB) (tZ (sQ (rZ (aT I (bK ?_)))));refine oP (ι:=Nat×PH) (fun z=>[(7,vb true),(8,pp b8 0),(10,vi pr),(12,pp b12 0),(13,vi z.1)]) (fun z=>z.2) (fun _=>pt b12 (.cells #[.slice tp ts.length tc,.slice wp wn wc] 36 (0,0))::pt b8 (.cells #[.slice q2 M.length d2] 30 (0,0))::s) (fun z=>z.1≤2∧Le g5 z.2) (fun z=>2 - z.1) (0,g5) sB I I ⟨zf4 _,zb7 _⟩ ?_;rintro ⟨i,g6⟩ ⟨hi,hle6⟩;dsimp only at hi hle6 ⊢;refine sQ (sW I (yL I (tZ ?_)));refine iP I (fun hlt=>?_) (fun hlt=>?_)
 ·have hi2:i<2:=oM;obtain ⟨aq,an,ac,A,hsel,hA5,hAsm⟩:∃ (aq:Option Addr) (an ac:Nat) (A:List (List Int)),(#[.slice tp ts.length tc,.slice wp wn wc]:Array Value)[i]?=some (.slice aq an ac)∧ax g5 (.slice aq an ac) A∧Tsm A:=by
   rcases (by omega:i=0∨i=1) with rfl | rfl
   ·exact⟨tp,ts.length,tc,T,I,hT3,hTsm⟩
   ·exact⟨wp,wn,wc,X,I,hX5,hXsm⟩
  have hAl:A.length<1099511627776:=by have:=hAsm.few; omega
  have hAs:∀ t∈A,t.length<1099511627776:=fun t ht=>by have:=hAsm.len t ht; omega
  have hAc:=hAsm.cost hMu;obtain ⟨hs1,hs2,hs3⟩:=tj (l:=M) hAsm.few pr;have hu6:=hu3.mono hle6;have hA6:=hA5.mono hle6;refine kP (tN (sQ (bK (sQ ?_))));refine dW [] [(0,1),(1,2),(2,2),(3,1),(4,2),(5,0),(6,2),(7,2),(8,2),(9,2),(10,2)] ze1 kR ?_;refine pK I (qV 1 bh aw I I I) (yM I (pU I (SU.eq (v':=.pointer (some ⟨b12,i,none⟩)) (iB underlying36 kO I I oM oM) (bk (by simp))) ?_));refine pK I (qL (v:=.slice aq an ac) lD I (cO 0 I hsel)) (yM I (SP.o I (cL call12 I (kX E hE g6 _ _ _ M A pr hu6 hMf hsm.ids hA6 hAl hAs hp2 hp9)) dC (.inr iR) ?_));rintro _ g7 _ ⟨rfl,hle7,u7,rfl,hP7⟩;have hu7:=hu6.mono hle7;have hA7:=hA6.mono hle7;refine yM I (pU I (xT I I) (pU I (xT I I) (pU I (aS I) (pU I (aS I) (pN (tN (sQ ?_)))))));refine dW [] [(0,1),(1,2),(2,2),(3,1),(4,2),(5,0),(6,2),(7,2),(8,2),(9,2),(10,2)] ze1 kR ?_;refine pK I (qV 1 bh aw I I I) (yM I (pU I (SU.eq (v':=.pointer (some ⟨b12,i,none⟩)) (iB underlying36 kO I I oM oM) (bk (by simp))) ?_));refine pK I (qL (v:=.slice aq an ac) lD I (cO 0 I hsel)) (yM I (SP.o I (cL call13 I (kz E g7 _ _ _ M A pr hu7 hMf hA7 hAl hAc hp2 hp9)) dC (.inr iR) ?_));rintro _ g8 _ ⟨rfl,hle8,u8,rfl,hP8⟩;have hu8:=hu7.mono hle8;have hA8:=hA7.mono hle8;replace hP7:=hP7.mono hle8;refine yM I (pU I (xT I I) (pU I (xT I I) (pU I (aS I) (pU I (aS I) (pN (tN (sQ ?_)))))));refine dW [] [(0,1),(1,2),(2,2),(3,1),(4,2),(5,0),(6,2),(7,2),(8,2),(9,2),(10,2)] ze1 kR ?_;refine pK I (qV 1 bh aw I I I) (yM I (pU I (SU.eq (v':=.pointer (some ⟨b12,i,none⟩)) (iB underlying36 kO I I oM oM) (bk (by simp))) ?_));refine pK I (qL (v:=.slice aq an ac) lD I (cO 0 I hsel)) (yM I (SP.o I (cL call14 I (oT E hE g8 _ _ _ M A pr hu8 hMf hsm.ids hA8 hAl hAs hp2 hp9)) dC (.inr iR) ?_));rintro _ g9 _ ⟨rfl,hle9,u9,rfl,hB9⟩;have hu9:=hu8.mono hle9;have hA9:=hA8.mono hle9;replace hP7:=hP7.mono hle9;replace hP8:=hP8.mono hle9;refine yM I (pU I (xT I I) (pU I (xT I I) (pU I (aS I) (pU I (aS I) (pN (tN (sQ ?_)))))));refine dW [] [(0,1),(1,2),(2,2),(3,1),(4,2),(5,0),(6,2),(7,2),(8,2),(9,2),(10,2)] ze1 kR ?_;refine pK I (qV 1 bh aw I I I) (yM I (pU I (SU.eq (v':=.pointer (some ⟨b12,i,none⟩)) (iB underlying36 kO I I oM oM) (bk (by simp))) ?_));refine pK I (qL (v:=.slice aq an ac) lD I (cO 0 I hsel)) (yM I (SP.o I (cL call15 I (pV E g9 _ _ _ M A pr hu9 hMf hA9 hAl hAc hp2 hp9)) dC (.inr iR) ?_));rintro _ g10 _ ⟨rfl,hle10,u10,rfl,hB10⟩;replace hP7:=hP7.mono hle10;replace hP8:=hP8.mono hle10;replace hB9:=za3 hB9 hle10;refine yM I (pU I (xT I I) (pU I (xT I I) (pU I (aS I) (pU I (aS I) (pN (tN (sW I (lM I (lU (SU.eq (v':=vb false) (nQ I I) (C5 _)) (lM I (yC I (yC I (lY I I I (SU.eq (v':=vb false) (nQ I I) (C5 _)) (yF I (lM I (yC I (yC I (zd8 (gT I I I dC) (cL call16 I (jA E g10 _ _ _ _ _ hP7 hP8 oM (fun Q hQ=>⟨by have:=(hs2 Q hQ).1; omega,fun x hx=>by have:=(hs2 Q hQ).2 x hx; omega⟩) oM (fun Q hQ=>by have:=(hs2 Q hQ).1; omega))) dC ?_))))))))))))))))));rintro _ _ _ ⟨rfl,rfl,rfl⟩;rw[zf6 rfl];refine lY I I I (SU.not I) (yF I (lM I (yC I (yC I (zd8 (gT I I I dC) (cL call17 I (mJ E g10 _ _ _ _ _ hB9 hB10 oM)) dC ?_)))));rintro _ _ _ ⟨rfl,rfl,rfl⟩;rw[zf6 rfl];refine lY I I I (SU.not I) (yF I (tZ (cF I (kP (bN (tN (rG (lM I (yD I (lA I (nL ?_)))))))))));exact gA (i+1,g10) sB I I ⟨by dsimp only; omega,hle6.trans (hle7.trans (hle8.trans (hle9.trans hle10)))⟩ (by dsimp only; omega)
 ·refine xI (tX (tX (bX (tN (sW I (aT I (rE (dR (s':=s) uR ?_))))))));exact za6 (.inl I) results3 I ⟨I,I,hle1.trans (hle2.trans (hle3.trans (hle35.trans hle6)))⟩
end Go.Proofs.YtcfkpajlakidbaaGreat
namespace Go.Proofs.YtcfkpajlakidbaaGreat.tilesPagesDone
open _root_.Go.Proofs.Tryz _root_.Go.Proofs.YtcfkpajlakidbaaGreat.Tryz
open Go Go.Sy Go.Pl Go.Proofs Go.Proofs.YtcfkpajlakidbaaGreat
open Go.ChangeShapes Go.WideShapes Go.ChangeAt Go.RowKit
set_option linter.unusedVariables false
theorem own:ownKnob Tryz.prog.godebug=none:=by kernel_rfl
theorem laidOut:laidOutB Tryz.prog=true:=by kernel_rfl
set_option maxRecDepth 100000 in
theorem lifted (os:Os)(started:os.Started)(H:Type)(enc:TypeId×Value→H) :
  ReturnsInHanded {} Tryz.checked os 3 .any (Rows.tilesPagesSpec.pre6 enc Tryz.prog f3 Rows.tilesPagesRow.domain false) (Rows.tilesPagesSpec.post enc Tryz.prog f3 false true false false):=by
 refine returnsInHanded_of_change (C:=Tryz.checked) own started kR func3
  (ChangeSpec.witness6 (enc:=enc) (C:=Tryz.checked) false ⟨#[],#[.agg #[.int .i64 0,.slice none 0 0,.int .i64 0],.slice none 0 0,.agg #[.int .i64 0,.int .i64 0,.int .i64 0,.int .i64 0]],[]⟩ 8 kR kR kR kR) ?_
 intro W base args ds gs before hval0 hW hcnd _;have hval:∀ (j:Nat) t v,f3.params[j]?=some t→args[j]?=some v→Value.okWide Tryz.prog W .any base t v:=hval0;have hW':=hW;obtain ⟨p,q,hA0,hV,rfl,hfz,hnd⟩:=hW;have hA:DataW.TrodAll enc Tryz.prog W 0 (fun _=>true) true f3.params.toList args.toList ds p:=hA0;rw[params3] at hA hval;obtain ⟨v0,vs0,d0,ds0,p0,q0,hargs,rfl,rfl,h0,r0⟩:=trodAll_cons hA;obtain ⟨v1,vs1,d1,ds1,p1,q1,rfl,rfl,rfl,h1,r1⟩:=trodAll_cons r0;obtain ⟨v2,vs2,d2,ds2,p2,q2,rfl,rfl,rfl,h2,r2⟩:=trodAll_cons r1;obtain ⟨rfl,rfl,rfl⟩:=trodAll_nil r2;obtain rfl:args = #[v0,v1,v2]:=by cases args; simp_all
 obtain ⟨rfl,rfl⟩:=trodVars_none hV;have lt0:∀ x∈p0,x.block<W.heap.size:=by obtain ⟨m,hm⟩:=h0; exact DataW.trod_lt m _ _ _ hm
 have lt1:∀ x∈p1,x.block<W.heap.size:=by obtain ⟨m,hm⟩:=h1; exact DataW.trod_lt m _ _ _ hm
 have lt2:∀ x∈p2,x.block<W.heap.size:=by obtain ⟨m,hm⟩:=h2; exact DataW.trod_lt m _ _ _ hm
 obtain ⟨kd,y,u,ls,e0,hls⟩:=zA (hval 0 24 v0 rfl rfl) h0;obtain ⟨a1,n1,c1,s1⟩:=okWide_slice ah (hval 1 25 v1 rfl rfl);obtain ⟨ns1,hn1⟩:=Ab h1 (by rw[s1]; rfl);obtain ⟨x2_0,x2_1,x2_2,x2_3,e2⟩:=Ah (hval 2 26 v2 rfl rfl) h2;clear hA0 hval0;have walk:Calls Tryz.prog 3 #[v0,v1,v2] W fun e w'=>e = .returned (.bool true)∧Below W.heap.size W w':=by
  rw[e0,e2];refine (nH (E0 W) I (tY W) [] u _ kd y ls ns1 x2_0 x2_1 x2_2 x2_3 hls hn1 W (Az W)).mono ?_;rintro e w' ⟨v,g',s',rfl,hat,rfl,rfl,hle⟩;exact⟨I,AC hat hle⟩
 refine walk.mono fun e W' ⟨he,bel⟩=>?_;subst he;exact⟨_,I,_,_,_,[],_,[],hW',trodAll_mk1 (shut_bool underlying4 _),(trodAll_cons_mk (Below.trod laidOut kR (zg1 kR) h0 bel lt0) (trodAll_cons_mk (Below.trod laidOut kR (zg1 kR) h1 bel lt1) (trodAll_cons_mk (Below.trod laidOut kR (zg1 kR) h2 bel lt2) trodAll_mk0))),I,bel.frame _,fun h=>by cases h⟩
theorem over:Rows.tilesPagesRow.holds Tryz.pinned (OpenSpec.ofChange Rows.tilesPagesSpec) :=
 OpenClaim.holds_of_wide 3 f3 rfl rfl rfl rfl rfl rfl rfl ⟨rfl,rfl,rfl,rfl,rfl⟩ rfl rfl rfl rfl rfl kR func3 kR
  (zg1 kR) (by unfold Func.isWrapper; first | (rw[zf8 (by decide +kernel)]; kernel_rfl) | (rw[zf7 (by decide +kernel)]; exact⟨I,I⟩))
  (fun os started H enc _=>lifted os started H enc)
theorem proved:Rows.TilesPagesSaid:=over
#print axioms proved
end Go.Proofs.YtcfkpajlakidbaaGreat.tilesPagesDone
