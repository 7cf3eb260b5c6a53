/- 13 -/
import Derived.Test.YtcfkpajlakidbaaGreatTp12
import Derived.Test.YtcfkpajlakidbaaGreatTp09
import Derived.Test.YtcfkpajlakidbaaGreatTp07
import Derived.Test.YtcfkpajlakidbaaGreatTp11
import Derived.Test.YtcfkpajlakidbaaGreatTp06
import Derived.Test.YtcfkpajlakidbaaGreatTp10
import Derived.Test.YtcfkpajlakidbaaGreatTp02
set_option linter.unusedSimpArgs false
set_option linter.unusedVariables false
namespace Go.Proofs.YtcfkpajlakidbaaGreat
open _root_.Go.Proofs.Tryz _root_.Go.Proofs.YtcfkpajlakidbaaGreat.Tryz
open Go Go.Sy Go.Pl Go.Proofs
set_option maxRecDepth 100000
set_option maxHeartbeats 2000000
theorem BP {l:List Cl}{T:List (List Int)}(h1:(aX l).2=0)(h2:T.length≤6){t:List Int}(ht:t∈T){x:Int}(hx:x∈t)(hf:(aJ (ae l) x).isSome=false):cD l T=30:=by
 unfold cD;rw[zf7 (by rw[h1]; simp),zf7 oM,zf8];exact zj3.2 ⟨t,ht,zj3.2 ⟨x,hx,by cases h:aJ (ae l) x <;> simp_all⟩⟩
theorem x4 {l:List Cl}{T:List (List Int)}(h1:(aX l).2=0)(h2:T.length≤6)(h3:∀ t∈T,∀ x∈t,(aJ (ae l) x).isSome=true):cD l T=if (ae l).any (fun c=>decide (tlB (ae l) 0 T c.id=0))=true then 45 else 0:=by
 unfold cD;rw[zf7 (by rw[h1]; simp),zf7 oM,zf7];intro h;obtain ⟨t,ht,h⟩:=zj3.1 h;obtain ⟨x,hx,h⟩:=zj3.1 h;have:=h3 t ht x hx;cases h:aJ (ae l) x <;> simp_all
theorem rH (E:World)(g:PH)(s:Own)(v tv:Value)(l:List Cl)(T:List (List Int))(hv:am g v l)(hf:cR l)(ht:ax g tv T)(hT:T.length<1099511627776)(hTl:∀ t∈T,t.length<1099511627776 - fh (ae l) []) :
  Ctr Tryz.prog E 38 #[.agg #[v],tv] g s (fun r g' s'=>r=vi (cD l T)∧s=s'∧Le g g'):=by
 obtain ⟨vp,vc,rfl⟩:=hv.form;have hck:=eV l;obtain ⟨ts,hts,hallt⟩:=id ht;obtain ⟨tp,tc,rfl⟩:=za2 hts;have htl:=hallt.length;refine za9 (args:=[.agg #[.slice vp l.length vc],.slice tp ts.length tc]) func38 I ntmps38 (bE I) ?_;refine rZ (bW (bO I) fun b2=>?_);refine aT I (rZ (lK (qV 0 bh aw I I I) (lW (cL call71 I (kA E g _ _ l hv hf)) ?_)));rintro _ g1 _ ⟨rfl,rfl,hle1⟩;rw[hck];refine lM I (yX I (yX I (lA I (aT I (sQ (sW I (lU (nQ I I) (tZ ?_))))))));refine iP I (fun hne=>?_) (fun hne=>?_)
 ·have he:cD l T=(aX l).2:=by unfold cD; rw[zf8 hne]
  refine sW I (aT I (rE (tR (dR (s':=s) uR ?_))));exact za6 (.inl I) results38 I ⟨by rw[he]; rfl,rfl,hle1⟩
 ·have hc0:(aX l).2=0:=zg7 hne;refine kP (tN (sQ (sW I (lU (eN aY I) (lU (gR I I) (tZ ?_))))));refine iP I (fun h6=>?_) (fun h6=>?_)
  ·have he:cD l T=2:=by unfold cD; rw[zf7 hne,zf8 oM]
   refine rZ (aT I (rE (tR (dR (s':=s) uR ?_))));exact za6 (.inl I) results38 I ⟨by rw[he],I,hle1⟩
  ·have hT6:T.length≤6:=oM;refine kP (tN (sQ (rZ (aT I (bK ?_)))));refine oP (ι:=Nat×PH) (fun z=>[(1,.slice tp ts.length tc),(2,pp b2 0),(7,vi z.1)]) (fun z=>z.2) (fun _=>pt b2 (.cells #[.slice vp l.length vc] 30 (0,0))::s) (fun z=>z.1≤ts.length∧Le g1 z.2∧∀ t∈T.take z.1,∀ x∈t,(aJ (ae l) x).isSome=true) (fun z=>ts.length - z.1) (0,g1) sB I I ⟨zf4 _,zb7 _,by simp⟩ ?_;rintro ⟨i,g2⟩ ⟨hi,hle2,hgood⟩;dsimp only at hi hle2 hgood ⊢;refine sQ (sW I (lM I (lU (eN aY I) (yL I (tZ ?_)))));refine iP I (fun hlt=>?_) (fun hlt=>?_)
   ·have hit:i<ts.length:=oM;have hiT:i<T.length:=oM;have hbt:=za4 hts oM;have hgt:ts[((i:Nat):Int).toNat]?=some ts[i]:=gE hit;have hR:=hallt.get (gE hiT) (gE hit);have htm:=hTl _ (gM hiT);have htT:T[i]∈T:=gM hiT;have htk:T.take (i+1)=T.take i++[T[i]]:=tS hiT;generalize T[i]=t at *;generalize ts[i]=r at *;obtain ⟨p1,n1,c1⟩:=r;have hR:bC g (.slice p1 n1 c1) t:=hR;have hn1:=(SlA.cap hR).1;subst hn1;refine kP (tN (sQ (bK (rZ (aT I (bK ?_))))));refine oP (ι:=Nat×PH) (fun z=>[(1,.slice tp ts.length tc),(2,pp b2 0),(7,vi i),(8,vi z.1)]) (fun z=>z.2) (fun _=>pt b2 (.cells #[.slice vp l.length vc] 30 (0,0))::s) (fun z=>z.1≤t.length∧Le g2 z.2∧∀ x∈t.take z.1,(aJ (ae l) x).isSome=true) (fun z=>t.length - z.1) (0,g2) sB I I ⟨zf4 _,zb7 _,by simp⟩ ?_;rintro ⟨j,g3⟩ ⟨hj,hle3,hgd⟩;dsimp only at hj hle3 hgd ⊢;have hl3:=hle1.trans (hle2.trans hle3);refine sQ (sW I (lM I (lM I (lU (iA aY aR I I hbt oM sL) (lK (eB (u:=.slice p1 t.length c1) bM I (za5 (za3 hts hl3)) hgt I) (lU (eN ah I) (yL I (tZ ?_))))))));refine iP I (fun hlt2=>?_) (fun hlt2=>?_)
    ·have hjt:j<t.length:=oM;have hbx:=za4 hR oM;have hgx:t[((j:Nat):Int).toNat]?=some t[j]:=gE hjt;have hxt:t[j]∈t:=gM hjt;have htk2:t.take (j+1)=t.take j++[t[j]]:=tS hjt;generalize t[j]=x at *;have hv3:=hv.mono hl3;have hR3:=za3 hR hl3;refine kP (tN (sQ (bK ?_)));refine SC.cut (ι:=Nat×PH×Obj) (fun z=>[(1,.slice tp ts.length tc),(2,pp b2 0),(7,vi i),(8,vi j),(10,vb (aJ (ae l) x).isSome)]) (fun z=>z.2.1) (fun z=>pt z.1 z.2.2::pt b2 (.cells #[.slice vp l.length vc] 30 (0,0))::s) (fun z=>Le g3 z.2.1) ?_ ?_
     ·refine SC.drawX [13] ze1 kR ?_;refine SX.q (i:=0) I kR (qV 0 bh aw I I I) dC (SX.u (i:=1) I kR (mV I) dC (SX.u (i:=2) I kR (mV I) dC (SX.u (i:=3) I kR (iA aY aR I I hbt oM sL) dC (SX.q (i:=4) I kR (eB (u:=.slice p1 t.length c1) bM I (za5 (za3 hts hl3)) hgt I) dC (SX.u (i:=5) I kR (mV I) dC (SX.u (i:=6) I kR (iA ah zT3 I I hbx oM sL) dC (SX.q (i:=7) I kR (eB iT3 I (za5 hR3) hgx I) dC ?_)))))))
      repeat' (first
       | (refine SB.o (i:=8) I (cL call72 I (fJ E g3 _ _ l x hv3 hf)) dC (.inr iR) ?_; rintro _ g4 _ ⟨rfl,hle4,⟨f1,f2,⟨f3,f4,f5⟩⟩,rfl,-⟩; refine SX.u (i:=9) I kD (mV I) dC ?_; refine SX.u (i:=10) I kD (xT I I) dC ?_; refine SX.u (i:=11) I kD (xT I I) dC ?_)
       | (refine SB.o (i:=8) I (cL call72 I (fJ E g3 _ _ l x hv3 hf)) dC (.inr iR) ?_; rintro _ g4 _ ⟨rfl,hle4,⟨f1,f2,⟨f3,f4,f5⟩⟩,rfl,-⟩; refine SX.u (i:=9) I kD (mV I) dC ?_; refine SX.u (i:=10) I kD (xT I I) dC ?_; refine SX.u (i:=11) I kD (xT I I) dC ?_)
       | (refine SB.o (i:=12) I (aL zk8) dC (.inr iR) ?_; rintro _ _ _ ⟨b9,rfl,rfl,rfl⟩)
       | (refine SB.o (i:=12) I (aL zk8) dC (.inr iR) ?_; rintro _ _ _ ⟨b9,rfl,rfl,rfl⟩)
       | (refine SB.on (i:=13) I (sK 0 au I I I I I sB) (.inl dC) ?_; rintro _ _ _ ⟨rfl,rfl⟩; refine SX.u (i:=14) I kD (aS I) dC ?_)
       | refine zd4 8 12 kD ?_ ?_
       | refine zd3 12 kD ?_
       | refine zd3 13 kD ?_
       | refine zd3 8 kD ?_
       | (refine SX.nil kD ?_; exact za7 (b9,g4,_) sB I I hle4))
     rintro ⟨b9,g4,o9⟩ hle4;dsimp only at hle4 ⊢;refine sW I (lU (SU.not I) (tZ ?_));refine iQ I (fun hfd=>?_) (fun hfd=>?_)
     ·have hfd:(aJ (ae l) x).isSome=false:=by simpa using hfd
      refine rZ (aT I (rE (bR (tR (tR (bR (bR (tR (tR (bR (tR (dR (s':=s) uR ?_))))))))))));exact za6 (.inl I) results38 I ⟨by rw[BP hc0 hT6 htT hxt hfd],I,hl3.trans hle4⟩
     ·have hfd:(aJ (ae l) x).isSome=true:=by simpa using hfd
      refine kP (bN (tN (rG (lM I (yD I (lA I (nL (dR (.cons _ (.refl _)) ?_))))))));exact gA (j+1,g4) sB I I ⟨by dsimp only; omega,hle3.trans hle4,fun z hz=>by
       dsimp only at hz;rw[htk2] at hz
       rcases zf1.1 hz with h | h
       ·exact hgd z h
       ·rw[zh5.1 h]; exact hfd⟩ (by dsimp only; omega)
    ·have hje:j=t.length:=oM;subst hje;rw[List.take_length] at hgd;refine xI (tX (tX (bX (bN (tN (rG (lM I (yD I (lA I (nL ?_))))))))));exact gA (i+1,g3) sB I I ⟨by dsimp only; omega,hle2.trans hle3,fun u hu=>by
      dsimp only at hu;rw[htk] at hu
      rcases zf1.1 hu with h | h
      ·exact hgood u h
      ·rw[zh5.1 h]; exact hgd⟩ (by dsimp only; omega)
   ·have hie:i=T.length:=oM;rw[hie,List.take_length] at hgood;have hrest:=x4 hc0 hT6 hgood;have hl2:=hle1.trans hle2;refine xI (tX (tX (bX (tN (rZ (lK (qV 0 bh aw I I I) (lM I (lW (cL call73 I (lq E g2 _ _ _ l T (hv.mono hl2) hf (ht.mono hl2) hT6 hTl)) ?_))))))));rintro v55 g3 _ ⟨rfl,hle3,hS⟩;obtain ⟨sp,sc,rfl⟩:=za2 hS;refine aT I (sQ (rZ (aT I (bK ?_))));have hLf:=(dG hf).1;generalize ae l=L at *;have hSl:(eD L T).length=L.length:=by unfold eD; rw[ze4]
    refine oP (ι:=Nat) (fun k=>[(11,.slice sp (eD L T).length sc),(12,vi k)]) (fun _=>g3) (fun _=>pt b2 (.cells #[.slice vp l.length vc] 30 (0,0))::s) (fun k=>k≤L.length∧∀ c∈L.take k,tlB L 0 T c.id≠0) (fun k=>L.length - k) 0 sB I I ⟨zf4 _,by simp⟩ ?_;rintro k ⟨hk,hnz⟩;refine sQ (sW I (lM I (lU (eN ah I) (yL I (tZ ?_)))));refine iP I (fun hlt2=>?_) (fun hlt2=>?_)
    ·have hkL:k<L.length:=oM;have hgk:(eD L T)[((k:Nat):Int).toNat]?=some ((tlB L 0 T L[k].id:Nat):Int):=by
      unfold eD;rw[show ((k:Nat):Int).toNat=k from rfl,zh7,gE hkL];rfl
     have hbS:=za4 hS oM;have hcm:L[k]∈L:=gM hkL;have htk2:L.take (k+1)=L.take k++[L[k]]:=tS hkL;generalize L[k]=c at *;refine kP (tN (sQ (bK (sW I (lM I (lU (iA ah zT3 I I hbS oM sL) (lK (eB iT3 I (za5 hS) hgk I) (yE I (tZ ?_)))))))));refine iP I (fun hz=>?_) (fun hz=>?_)
     ·have he:cD l T=45:=by rw[hrest,zf8 (zj3.2 ⟨c,hcm,zf6 oM⟩)]
      refine rZ (aT I (rE (bR (tR (tR (bR (tR (dR (s':=s) uR ?_))))))));exact za6 (.inl I) results38 I ⟨by rw[he],I,hl2.trans hle3⟩
     ·refine kP (bN (tN (rG (lM I (yD I (lA I (nL ?_)))))));exact gA (k+1) sB I I ⟨oM,fun d hd=>by
       rw[htk2] at hd
       rcases zf1.1 hd with h | h
       ·exact hnz d h
       ·rw[zh5.1 h]; omega⟩ oM
    ·have hke:k=L.length:=oM;rw[hke,List.take_length] at hnz;have he:cD l T=0:=by
      rw[hrest,zf7];rw[zj2,zj8];intro c hc;simpa using hnz c hc
     refine xI (tX (tX (bX (tN (rZ (aT I (rE (dR (s':=s) uR ?_))))))));exact za6 (.inl I) results38 I ⟨by rw[he],I,hl2.trans hle3⟩
set_option maxHeartbeats 4000000
def kF (b k:Nat):List Nat:=(List.range k).filter fun s=>decide (0<s)&&decide (s &&& b=s)
theorem xM {n b:Nat}(hn:n≤6)(hb:b<2 ^ n):kF b (2 ^ n)=iM b:=by
 have key:∀ n,n<7→∀ b,b<2 ^ n→kF b (2 ^ n)=iM b:=by decide +kernel
 exact key n oM b hb
theorem vv (b k:Nat):kF b (k+1)=kF b k++if 0<k∧k &&& b=k then [k] else []:=by
 unfold kF;rw[List.range_succ,zh4,zi4];congr 1;by_cases h:0<k∧k &&& b=k
 ·rw[zf8 h,zf8 (by simp[h.1,h.2])]; rfl
 ·rw[zf7 h,zf7]
  ·rfl
  ·simpa using h
theorem Cf {a b:Nat}(ha:a<64)(hb:b<64):IntKind.i64.wrap (BitVec.ofInt IntKind.i64.bits ((a:Nat):Int) &&& BitVec.ofInt IntKind.i64.bits ((b:Nat):Int)).toNat=((a &&& b:Nat):Int):=by
 have key:∀ a,a<64→∀ b,b<64→IntKind.i64.wrap (BitVec.ofInt IntKind.i64.bits ((a:Nat):Int) &&& BitVec.ofInt IntKind.i64.bits ((b:Nat):Int)).toNat=((a &&& b:Nat):Int):=by decide +kernel
 exact key a ha b hb
def cntB (s b:Nat):Nat:=((List.range b).filter fun k=>s.testBit k).length
theorem As:∀ s,s<64→∀ b,b<6→(s.testBit b=true→(cJ s).getD (cntB s b) 0=b∧cntB s b<(cJ s).length∧cntB s (b+1)=cntB s b+1)∧(s.testBit b=false→cntB s (b+1)=cntB s b):=by decide +kernel
theorem B6:∀ n,n<7→∀ s,s<2 ^ n→cntB s n=onesB s:=by decide +kernel
theorem CO:∀ s,s<64→∀ b,b<6→IntKind.i64.wrap (BitVec.ofInt IntKind.i64.bits (((s:Nat):Int).fdiv (2 ^ min ((b:Nat):Int).toNat IntKind.i64.bits)) &&& BitVec.ofInt IntKind.i64.bits 1).toNat=if s.testBit b then 1 else 0:=by decide +kernel
theorem sb {k n:Nat}(hk:k≤4000)(hn:n≤6):IntKind.i64.wrap (((k:Nat):Int) * 2 ^ min ((n:Nat):Int).toNat IntKind.i64.bits)=((k * 2 ^ n:Nat):Int):=by
 have h1:min ((n:Nat):Int).toNat IntKind.i64.bits=n:=by
  have:IntKind.i64.bits=64:=rfl;rw[this,Int.toNat_natCast];omega
 have h2:k * 2 ^ n≤4000 * 64:=Nat.mul_le_mul hk (pH hn);have h3:((k:Nat):Int) * 2 ^ n=((k * 2 ^ n:Nat):Int):=by rw[Int.natCast_mul,Int.natCast_pow]; rfl
 rw[h1,h3];exact zk4 _ oM
theorem Tryz.buildQ63 (a d:Int)(w:World):(Instr.build 63 #[(0,vi a),(1,vi d)]).run Tryz.prog w = .ok (.agg #[vi a,vi d,.slice none 0 0]) w:=by
 have h1:∀ n,(vi n).cells = #[vi n]:=fun _=>rfl;simp[Instr.build,Instr.fill,h1];rfl
def pI (L:List Cl)(T:List (List Int))(i:Nat):List Cl:=(L.zipIdx.take i).flatMap fun q=>(iM (tlB L 0 T q.1.id)).map (jW L T.length q.2 q.1)
theorem wg {L:List Cl}{T:List (List Int)}{i:Nat}{y:Cl}(h:L[i]?=some y):pI L T (i+1)=pI L T i++(iM (tlB L 0 T y.id)).map (jW L T.length i y):=by
 have hi:=(zf3.1 h).1;have hz:i<L.zipIdx.length:=by rw[List.length_zipIdx]; exact hi
 unfold pI;rw[tS hz,List.flatMap_append,List.getElem_zipIdx,(zf3.1 h).2];simp
theorem yy (L:List Cl)(T:List (List Int)):pI L T L.length=kK L T:=by
 unfold pI kK;rw[tL (by rw[List.length_zipIdx]; exact lR _)]
theorem xh {α β:Type}{f:α→List β}{m:Nat}:∀ {q:List α},(∀ x∈q,(f x).length≤m)→(q.flatMap f).length≤q.length * m
 | [],_=>by simp
 | x::q,h=>by
  have h1:=h x (by simp);have h2:=xh (q:=q) fun z hz=>h z (by simp[hz]);rw[zh3,ze3,ze6,Nat.succ_mul];omega
theorem xy {n i m k:Nat}(h:k≤m):bId n i m - ((k:Nat):Int)=bId n i (m - k):=by
 unfold bId;omega
theorem CN:∀ s,s<64→∀ b,b<6→s.testBit b=true→2 ^ b≤s:=by decide +kernel
theorem Cw (z:Int)(h:0≤z):IntKind.i64.wrap (1 - IntKind.i64.wrap (2 * z.tmod 2))=sgP z:=by
 rw[Int.tmod_eq_emod_of_nonneg h,zk4 (2 * (z % 2)) oM,zk4 _ oM];rfl
theorem wj (E:World)(g:PH)(s:Own)(v tv:Value)(l:List Cl)(T:List (List Int))(hv:am g v l)(hf:cR l)(ht:ax g tv T)(hT6:T.length≤6)(hTl:∀ t∈T,t.length<1099511627776 - fh (ae l) [])(hRt:Rt (ae l)) :
  Ctr Tryz.prog E 39 #[.agg #[v],tv] g s (fun r g' s'=>s=s'∧Le g g'∧∃ u,r = .agg #[u]∧am g' u (dv (ae l) T)):=by
 obtain ⟨vp,vc,rfl⟩:=hv.form;obtain ⟨ts,hts,hallt⟩:=id ht;obtain ⟨tp,tc,rfl⟩:=za2 hts;have htl:=hallt.length;have hp64:=pH hT6;have hbf:=iL hRt hT6;refine za9 (args:=[.agg #[.slice vp l.length vc],.slice tp ts.length tc]) func39 I ntmps39 (bE I) ?_;refine rZ (bW (bO I) fun b2=>?_);refine bW (aL zk9) fun b4=>?_;refine tZ (rZ (lK (qV 1 bh aw I I I) (lW (cL call61 I (bJ E g _ _ l hv hf)) ?_)));rintro v17 g1 _ ⟨rfl,hle1,rs,hrs,hallr⟩;obtain ⟨rp,rc,rfl⟩:=za2 hrs;have hrl:=hallr.length;refine aT I (rZ (lK (qV 1 bh aw I I I) (lM I (lW (cL call73 I (lq E g1 _ _ _ l T (hv.mono hle1) hf (ht.mono hle1) hT6 hTl)) ?_))));rintro v20 g2 _ ⟨rfl,hle2,hS⟩;obtain ⟨sp,sc,rfl⟩:=za2 hS;refine aT I (sW I (lU (eN aY I) (aT I (rZ (bW (aL zk9) fun b8=>?_)))));refine tZ (sQ (rZ (aT I (bK ?_))));have hSl:(eD (ae l) T).length=(ae l).length:=by unfold eD; rw[ze4]
 have hLf:=hRt.few;generalize hLd:ae l=L at *;refine zb4 63 3 ?_;refine oP (ι:=Nat×PH×Value×List Rc) (fun z=>[(2,pp b2 0),(4,pp b4 0),(5,.slice rp rs.length rc),(6,.slice sp (eD L T).length sc),(7,vi ts.length),(8,pp b8 0),(9,vi z.1)]) (fun z=>z.2.1) (fun z=>rowA encCell 63 z.2.2.1 z.2.2.2::pt b8 (.cells #[z.2.2.1] 30 (0,0))::pt b4 (.cells #[.slice none 0 0] 30 (0,0))::pt b2 (.cells #[.slice vp l.length vc] 30 (0,0))::s) (fun z=>z.1≤L.length∧Le g2 z.2.1∧az (aC z.2.1) (pI L T z.1) z.2.2.2) (fun z=>L.length - z.1) (0,g2,.slice none 0 0,[]) sB I I ⟨zf4 _,zb7 _,trivial⟩ ?_;rintro ⟨i,g3,ov,acc⟩ ⟨hi,hle3,hacc⟩;dsimp only at hi hle3 hacc ⊢;refine sQ (sW I (lM I (lU (eN aA I) (yL I (tZ ?_)))));refine iP I (fun hlt=>?_) (fun hlt=>?_)
 ·have hiL:i<L.length:=oM;have hir:i<rs.length:=oM;have hLi:L[i]?=some L[i]:=gE hiL;have hbr:=za4 hrs oM;have hgr:rs[((i:Nat):Int).toNat]?=some rs[i]:=gE hir;have hR:=hallr.get hLi (gE hir);have hds:=wg (T:=T) hLi;have hbS:=za4 hS oM;have hgS:(eD L T)[((i:Nat):Int).toNat]?=some ((tlB L 0 T L[i].id:Nat):Int):=by
   unfold eD;rw[show ((i:Nat):Int).toNat=i from rfl,zh7,hLi];rfl
  have hb2:=mg L L[i].id T;have hfm:=hRt.form _ (gM hiL);generalize L[i]=y at *;generalize rs[i]=r at *;generalize tlB L 0 T y.id=bb at *;obtain ⟨ri,rd,⟨yp,yn,yc⟩⟩:=r;obtain ⟨hyi,hyd,hys⟩:=hR;dsimp only at hyi hyd hys;have hyn:=(SlA.cap hys).1;subst hyi hyd hyn;refine kP (tN (sQ (bK (rZ (aT I (bK ?_))))));refine oP (ι:=Nat×PH×Value×List Rc) (fun z=>[(2,pp b2 0),(4,pp b4 0),(5,.slice rp rs.length rc),(6,.slice sp (eD L T).length sc),(7,vi ts.length),(8,pp b8 0),(9,vi i),(10,vi z.1)]) (fun z=>z.2.1) (fun z=>rowA encCell 63 z.2.2.1 z.2.2.2::pt b8 (.cells #[z.2.2.1] 30 (0,0))::pt b4 (.cells #[.slice none 0 0] 30 (0,0))::pt b2 (.cells #[.slice vp l.length vc] 30 (0,0))::s) (fun z=>1≤z.1∧z.1≤2 ^ T.length∧Le g3 z.2.1∧az (aC z.2.1) (pI L T i++(kF bb z.1).map (jW L T.length i y)) z.2.2.2) (fun z=>2 ^ T.length - z.1) (1,g3,ov,acc) sB I I ⟨lR _,Nat.one_le_two_pow,zb7 _,by
   dsimp only;rw[show kF bb 1=[] from rfl,List.map_nil,zc3];exact hacc⟩ ?_
  rintro ⟨m,g4,ov2,ac2⟩ ⟨hm1,hm2,hle4,hac2⟩;dsimp only at hm1 hm2 hle4 hac2 ⊢;refine sQ (sW I (lM I (lU (SU.eq (v':=vi (2 ^ T.length:Nat)) (SU.shl I I oM) (zd9 vi (by rw[← htl]; exact kL T.length oM))) ?_)));refine yL I (tZ ?_);refine iP I (fun hlt2=>?_) (fun hlt2=>?_)
  ·have hm64:m<64:=oM;have hsr:=vv bb m;refine kP (tN (sQ (bK (sQ (sW I (lM I (lM I (lU (iA ah zT3 I I hbS oM sL) (lK (eB iT3 I (za5 (za3 hS (hle3.trans hle4))) hgS I) (lU (SU.eq (v':=vi (m &&& bb:Nat)) (SU.and I I) (zd9 vi (Cf hm64 oM))) (lM I (lU (nQ I I) (tZ ?_)))))))))))));refine iP I (fun hno=>?_) (fun hno=>?_)
   ·have hsr1:kF bb (m+1)=kF bb m:=by rw[hsr,zf7 oM,zc3]
    refine xI (tX (bX (tN (rG (lM I (yD I (lA I (nL ?_))))))));exact gA (m+1,g4,ov2,ac2) sB I I ⟨by dsimp only; omega,by dsimp only; omega,hle4,by dsimp only; rw[hsr1]; exact hac2⟩ (by dsimp only; omega)
   ·have hmb:m &&& bb=m:=oM;have hsr1:kF bb (m+1)=kF bb m++[m]:=by rw[hsr,zf8 ⟨oM,hmb⟩]
    have ho6:=uz m hm64;have hdim:=hfm.dim;have hin:i * 2 ^ T.length≤4000 * 64:=Nat.mul_le_mul oM hp64;have hle24:=hle2.trans (hle3.trans hle4);have hrs4:=za3 hrs hle24;have hys4:=za3 hys hle24;refine kP (tN ?_);refine SC.cut (ι:=Nat) (fun b=>[(2,pp b2 0),(4,pp b4 0),(5,.slice rp rs.length rc),(6,.slice sp (eD L T).length sc),(7,vi ts.length),(8,pp b8 0),(9,vi i),(10,vi m),(11,pp b 0)]) (fun _=>g4) (fun b=>pt b (.cells #[vi (bId T.length i m),vi (y.dim+(onesB m:Nat) - 1),.slice none 0 0] 63 (0,0))::rowA encCell 63 ov2 ac2::pt b8 (.cells #[ov2] 30 (0,0))::pt b4 (.cells #[.slice none 0 0] 30 (0,0))::pt b2 (.cells #[.slice vp l.length vc] 30 (0,0))::s) (fun _=>True) ?_ ?_
    ·refine SC.drawX [16] ze1 kR ?_;refine SX.u (i:=0) I kR (mV I) dC (SX.u (i:=1) I kR (mV I) dC (SX.u (i:=2) I kR (SU.eq (v':=vi (i * 2 ^ T.length:Nat)) (SU.shl I I oM) (zd9 vi (by rw[← htl]; exact sb oM hT6))) dC ?_));refine SX.u (i:=3) I kR (mV I) dC (SX.u (i:=4) I kR (SU.eq (v':=vi (bId T.length i m)) (aD I I oM) (zd9 vi (by unfold bId; omega))) dC ?_);refine SX.u (i:=5) I kR (mV I) dC (SX.u (i:=6) I kR (mV I) dC (SX.u (i:=7) I kR (iA aA au I I hbr oM sL) dC (SX.u (i:=8) I kR (fC ao I zT3 I hbr) dC (SX.q (i:=9) I kR (aZ (e:=encCell) (o:=1) (u:=vi y.dim) iT3 I (za5 hrs4) hgr I) dC (SX.u (i:=10) I kR (mV I) dC ?_)))))
     repeat' (first
      | (refine SB.o (i:=11) I (cL call74 I (fI E _ _ m hm64)) dC (.inr iR) ?_; rintro _ _ _ ⟨rfl,rfl,rfl⟩; refine SX.u (i:=12) I kD (aD I I oM) dC ?_; refine SX.u (i:=13) I kD (sU I I oM) dC ?_; refine SX.u (i:=14) I kD (za1 I (buildQ63 _ _)) dC ?_)
      | (refine SB.o (i:=11) I (cL call74 I (fI E _ _ m hm64)) dC (.inr iR) ?_; rintro _ _ _ ⟨rfl,rfl,rfl⟩; refine SX.u (i:=12) I kD (aD I I oM) dC ?_; refine SX.u (i:=13) I kD (sU I I oM) dC ?_; refine SX.u (i:=14) I kD (za1 I (buildQ63 _ _)) dC ?_)
      | (refine SB.o (i:=15) I (aL zk8) dC (.inr iR) ?_; rintro _ _ _ ⟨b11,rfl,rfl,rfl⟩)
      | (refine SB.on (i:=16) I (sK 0 au I I I I I sB) (.inl dC) ?_; rintro _ _ _ ⟨rfl,rfl⟩)
      | refine zd4 11 15 kD ?_ ?_
      | refine zd3 15 kD ?_
      | refine zd3 16 kD ?_
      | refine zd3 11 kD ?_
      | (refine SX.nil kD ?_; exact za7 b11 sB I I trivial))
    rintro b11 -;try dsimp only
    refine sQ (rZ (aT I (bK (zb4 87 2 ?_))));refine oP (ι:=Nat×Value) (fun z=>[(2,pp b2 0),(4,pp b4 0),(5,.slice rp rs.length rc),(6,.slice sp (eD L T).length sc),(7,vi ts.length),(8,pp b8 0),(9,vi i),(10,vi m),(11,pp b11 0),(12,vi z.1)]) (fun _=>g4) (fun z=>rowA encSide 87 z.2 ((y.sides.take z.1).map (gB L T.length m))::pt b11 (.cells #[vi (bId T.length i m),vi (y.dim+(onesB m:Nat) - 1),z.2] 63 (0,0))::rowA encCell 63 ov2 ac2::pt b8 (.cells #[ov2] 30 (0,0))::pt b4 (.cells #[.slice none 0 0] 30 (0,0))::pt b2 (.cells #[.slice vp l.length vc] 30 (0,0))::s) (fun z=>z.1≤y.sides.length) (fun z=>y.sides.length - z.1) (0,.slice none 0 0) sB I I (zf4 _) ?_;rintro ⟨j,zv⟩ hj;dsimp only at hj ⊢;have hs64:=gJ hfm;refine sQ (sW I (lM I (lM I (lU (iA aA au I I hbr oM sL) (lU (fC ao I bI I hbr) (lK (aZ (e:=encCell) (o:=2) (u:=.slice yp y.sides.length yc) cQ I (za5 hrs4) hgr I) (lU (eN cA I) (yL I (tZ ?_)))))))));refine iP I (fun hlt3=>?_) (fun hlt3=>?_)
    ·have hjl:j<y.sides.length:=oM;have hby:=za4 hys oM;have hgj:y.sides[((j:Nat):Int).toNat]?=some y.sides[j]:=gE hjl;have htk:(y.sides.take (j+1)).map (gB L T.length m)=(y.sides.take j).map (gB L T.length m)++[gB L T.length m y.sides[j]]:=by rw[tS hjl,zg3]; rfl
     obtain ⟨d,hd,-⟩:=hfm.found _ (gM hjl);have hsg:=hfm.sg _ (gM hjl);generalize y.sides[j]=x at *;obtain ⟨hdL,hdi⟩:=cI hd;have hix:=hRt.ix_get hdL;rw[hdi] at hix;have hixl:=(zf3.1 hix).1;refine kP (tN (sQ (bK (rZ (aT I (sQ (bK ?_)))))));refine oP (ι:=Nat) (fun k=>[(2,pp b2 0),(4,pp b4 0),(5,.slice rp rs.length rc),(6,.slice sp (eD L T).length sc),(7,vi ts.length),(8,pp b8 0),(9,vi i),(10,vi m),(11,pp b11 0),(12,vi j),(13,vi k)]) (fun _=>g4) (fun _=>rowA encSide 87 zv ((y.sides.take j).map (gB L T.length m))::pt b11 (.cells #[vi (bId T.length i m),vi (y.dim+(onesB m:Nat) - 1),zv] 63 (0,0))::rowA encCell 63 ov2 ac2::pt b8 (.cells #[ov2] 30 (0,0))::pt b4 (.cells #[.slice none 0 0] 30 (0,0))::pt b2 (.cells #[.slice vp l.length vc] 30 (0,0))::s) (fun k=>k≤ixB L x.cell) (fun k=>ixB L x.cell - k) 0 sB I I (zf4 _) ?_;rintro k hk;have hkL:k<L.length:=oM;have hkr:k<rs.length:=oM;have hgk:rs[((k:Nat):Int).toNat]?=some rs[k]:=gE hkr;have hRk:=hallr.get (gE hkL) (gE hkr);have hkx:=hRt.ix (gE hkL);have hgL:L[k]?=some L[k]:=gE hkL;generalize L[k]=ck at *;generalize rs[k]=rk at *;obtain ⟨k1,k2,⟨k3,k4,k5⟩⟩:=rk;obtain ⟨hk1,-,-⟩:=hRk;dsimp only at hk1;refine sQ (sQ ?_);refine dW [] [(0,2),(1,2),(2,2),(3,2),(4,1),(5,2),(6,2),(7,2),(8,2),(9,1),(10,2),(11,2),(12,2),(13,1),(14,2)] ze1 kR ?_;refine yM I (yM I (pU I (iA aA au I I hbr oM sL) (pU I (fC ao I zT3 I hbr) (pK I (aZ (e:=encCell) (o:=0) (u:=vi k1) iT3 I (za5 hrs4) hgk I) (yM I (yM I (pU I (iA aA au I I hbr oM sL) (pU I (fC ao I bI I hbr) (pK I (aZ (e:=encCell) (o:=2) (u:=.slice yp y.sides.length yc) cQ I (za5 hrs4) hgr I) (yM I (pU I (iA cA cj I I hby oM sL) ?_)))))))))));refine pU I (fC dn I zT3 I hby) (pK I (aZ (e:=encSide) (o:=0) (u:=vi x.cell) iT3 I (za5 hys4) hgj I) (pU I (nQ I I) (pN (tN ?_))));refine iP I (fun hne=>?_) (fun hne=>?_)
     ·have hki:k<ixB L x.cell:=by
       rcases Nat.lt_or_ge k (ixB L x.cell) with h | h
       ·exact h
       ·have:k=ixB L x.cell:=oM;rw[this,hix] at hgL;injection hgL with hgL
        exact absurd (by rw[hk1,← hgL,hdi]) hne
      refine kP (tN (bK (rG (lM I (yD I (lA I (nL (bN ?_))))))));exact gA (k+1) sB I I oM oM
     ·have hkk:k=ixB L x.cell:=by
       rw[← hkx,← hk1,zg7 hne]
      have hkn:k * 2 ^ T.length≤4000 * 64:=Nat.mul_le_mul oM hp64;have hsid:(⟨bId T.length k m,x.sign⟩:aj)=gB L T.length m x:=by rw[hkk]; rfl
      have hmj:((y.sides.take j).map (gB L T.length m)).length=j:=by rw[ze4,ze2]; omega
      refine xI (tX (tX (bX (tN ?_))));refine dW [18,20] [(0,2),(1,1),(2,2),(3,2),(4,2),(5,2),(6,2),(7,2),(8,2),(9,2),(10,2),(11,1),(12,2),(13,2),(14,2),(15,1),(16,2),(17,0),(18,0),(19,2),(20,0)] ze1 kR ?_;refine pU I (fA ao I bI I) (pK I (qL (v:=zv) cQ I (cO 1 I I)) (yM I (yM I (pU I (SU.eq (v':=vi (k * 2 ^ T.length:Nat)) (SU.shl I I oM) (zd9 vi (by rw[← htl]; exact sb oM hT6))) ?_))));refine yM I (pU I (SU.eq (v':=vi (bId T.length k m)) (aD I I oM) (zd9 vi (by unfold bId; omega))) ?_);refine yM I (yM I (pU I (iA aA au I I hbr oM sL) (pU I (fC ao I bI I hbr) (pK I (aZ (e:=encCell) (o:=2) (u:=.slice yp y.sides.length yc) cQ I (za5 hrs4) hgr I) (yM I (pU I (iA cA cj I I hby oM sL) ?_))))));refine pU I (fC dn I zT3 I hby) (pK I (aZ (e:=encSide) (o:=1) (u:=vi x.sign) iT3 I (za5 hys4) hgj I) (pU I (za1 I (buildS87 _ _)) (SP.o I (bS sty61 I I I (ab ⟨I,trivial⟩) dC) dC (.inr iR) ?_)));rintro _ _ _ ⟨b102,rfl,rfl,rfl⟩;refine SP.o I (aP (e:=encSide) (l:=(y.sides.take j).map (gB L T.length m)) 0 (⟨bId T.length k m,x.sign⟩:aj) sty61 I I I I I oM oM) dC (.inl dC) ?_;rintro v103 _ _ ⟨rfl,rfl⟩;rw[hsid,← htk];refine zc8 fun ⟨w0,hw0⟩=>?_;obtain ⟨q103,d103,rfl⟩:=ag (e:=encSide) (l:=(y.sides.take (j+1)).map (gB L T.length m)) (i:=0) hw0 rfl;clear hw0 w0;refine pU I (fA ao I bI I) (SP.on I (SO.store1 1 bI I I I I (by show 2<3; decide) I) (.inl dC) ?_);rintro _ _ _ ⟨rfl,rfl⟩;refine pN (bN (tN (rG (lM I (yD I (lA I (nL ?_)))))));exact gA (j+1,_) sB I I (by dsimp only; omega) (by dsimp only; omega)
    ·have hje:j=y.sides.length:=oM;subst hje;rw[List.take_length];refine xI (tX (tX (bX (tN (rZ (aT I ?_))))));have hc0:cntB m 0=0:=rfl;refine SC.cut (ι:=Value) (fun _=>[(2,pp b2 0),(4,pp b4 0),(5,.slice rp rs.length rc),(6,.slice sp (eD L T).length sc),(7,vi ts.length),(8,pp b8 0),(9,vi i),(10,vi m),(11,pp b11 0)]) (fun _=>g4) (fun zv=>rowA encSide 87 zv (iw L T.length i y m)::pt b11 (.cells #[vi (bId T.length i m),vi (y.dim+(onesB m:Nat) - 1),zv] 63 (0,0))::rowA encCell 63 ov2 ac2::pt b8 (.cells #[ov2] 30 (0,0))::pt b4 (.cells #[.slice none 0 0] 30 (0,0))::pt b2 (.cells #[.slice vp l.length vc] 30 (0,0))::s) (fun _=>True) ?_ ?_
     ·refine rZ (aT I (bK ?_));refine oP (ι:=Nat×Value) (fun z=>[(2,pp b2 0),(4,pp b4 0),(5,.slice rp rs.length rc),(6,.slice sp (eD L T).length sc),(7,vi ts.length),(8,pp b8 0),(9,vi i),(10,vi m),(11,pp b11 0),(14,vi (cntB m z.1)),(15,vi z.1)]) (fun _=>g4) (fun z=>rowA encSide 87 z.2 (y.sides.map (gB L T.length m)++((cJ m).zipIdx.take (cntB m z.1)).map (nB T.length i m y.dim))::pt b11 (.cells #[vi (bId T.length i m),vi (y.dim+(onesB m:Nat) - 1),z.2] 63 (0,0))::rowA encCell 63 ov2 ac2::pt b8 (.cells #[ov2] 30 (0,0))::pt b4 (.cells #[.slice none 0 0] 30 (0,0))::pt b2 (.cells #[.slice vp l.length vc] 30 (0,0))::s) (fun z=>z.1≤T.length∧(onesB m≤1→z.1=0)) (fun z=>T.length - z.1) (0,zv) sB I (by dsimp only; rw[hc0,List.take_zero,List.map_nil,zc3]) ⟨zf4 _,fun _=>I⟩ ?_;rintro ⟨b,zv2⟩ ⟨hb,hb0⟩;dsimp only at hb hb0 ⊢;by_cases hbn:b<T.length
      ·obtain ⟨c1,c2⟩:=As m hm64 b oM;refine sQ (sW I (lM I (lU (SU.eq (v':=vb true) (lS I I) (zd9 vb (zf6 oM))) (lM I (yC I (zd8 (gT I I I dC) (cL call74 I (fI E g4 _ m hm64)) dC ?_))))));rintro _ _ _ ⟨rfl,rfl,rfl⟩;refine lY I I I (gR I I) (yP I (tZ ?_));refine iP I (fun hone=>?_) (fun hone=>?_)
       ·refine kP (tN (sQ (bK (sW I (lM I (lU (SU.shr I I oM) (lU (SU.eq (v':=vi (if m.testBit b then 1 else 0)) (SU.and I I) (zd9 vi (CO m hm64 b oM))) (yE I (tZ ?_)))))))));refine iP I (fun hbit=>?_) (fun hbit=>?_)
        ·have htb:m.testBit b=true:=by
          cases h:m.testBit b with
          | true=>rfl
          | false=>rw[h] at hbit; simp at hbit
         obtain ⟨e1,e2,e3⟩:=c1 htb;have h2b:=CN m hm64 b oM htb;have hmz:m - 2 ^ b≤m:=Nat.sub_le _ _;have hz:cntB m b<(cJ m).zipIdx.length:=by rw[List.length_zipIdx]; exact e2
         have hgb:(cJ m)[cntB m b]=b:=by
          rw[zg8,gE e2] at e1;exact e1
         have htk:(y.sides.map (gB L T.length m)++((cJ m).zipIdx.take (cntB m (b+1))).map (nB T.length i m y.dim))=(y.sides.map (gB L T.length m)++((cJ m).zipIdx.take (cntB m b)).map (nB T.length i m y.dim))++[(⟨bId T.length i (m - 2 ^ b),sgP (((cntB m b:Nat):Int)+y.dim)⟩:aj)]:=by
          rw[e3,tS hz,zg3,zg6,List.getElem_zipIdx,hgb,Nat.zero_add];rfl
         have hln:(y.sides.map (gB L T.length m)++((cJ m).zipIdx.take (cntB m b)).map (nB T.length i m y.dim)).length≤80:=by
          rw[ze3,ze4,ze4,ze2];have:(cJ m).length=onesB m:=rfl;omega
         have hcn:cntB m b≤6:=by
          have:(cJ m).length=onesB m:=rfl;omega
         generalize hSb:(y.sides.map (gB L T.length m)++((cJ m).zipIdx.take (cntB m b)).map (nB T.length i m y.dim))=Sb at *;refine sQ ?_;refine dW [22,24] [(0,2),(1,1),(2,2),(3,2),(4,2),(5,2),(6,2),(7,2),(8,2),(9,2),(10,2),(11,2),(12,2),(13,2),(14,2),(15,1),(16,2),(17,2),(18,2),(19,2),(20,2),(21,0),(22,0),(23,2),(24,0)] ze1 kR ?_;refine pU I (fA ao I bI I) (pK I (qL (v:=zv2) cQ I (cO 1 I I)) (yM I (yM I (pU I (SU.eq (v':=vi (i * 2 ^ T.length:Nat)) (SU.shl I I oM) (zd9 vi (by rw[← htl]; exact sb oM hT6))) ?_))));refine yM I (pU I (SU.eq (v':=vi (bId T.length i m)) (aD I I oM) (zd9 vi (by unfold bId; omega))) ?_);refine yM I (pU I (SU.eq (v':=vi (2 ^ b:Nat)) (SU.shl I I oM) (zd9 vi (kL b oM))) (pU I (SU.eq (v':=vi (bId T.length i (m - 2 ^ b))) (sU I I (by rw[xy h2b]; generalize m - 2 ^ b=z at hmz; unfold bId; omega)) (zd9 vi (xy h2b))) ?_));refine yM I (yM I (yM I (pU I (iA aA au I I hbr oM sL) (pU I (fC ao I zT3 I hbr) (pK I (aZ (e:=encCell) (o:=1) (u:=vi y.dim) iT3 I (za5 hrs4) hgr I) (pU I (aD I I oM) (pU I (zd5 I I dC) (pU I (SU.mulW I I) (pU I (SU.eq (v':=vi (sgP (((cntB m b:Nat):Int)+y.dim))) (SU.subW I I) (zd9 vi (Cw _ oM))) (pU I (za1 I (buildS87 _ _)) (SP.o I (bS sty61 I I I (ab ⟨I,trivial⟩) dC) dC (.inr iR) ?_)))))))))));rintro _ _ _ ⟨b141,rfl,rfl,rfl⟩;refine SP.o I (aP (e:=encSide) (l:=Sb) 0 (⟨bId T.length i (m - 2 ^ b),sgP (((cntB m b:Nat):Int)+y.dim)⟩:aj) sty61 I I I I I oM oM) dC (.inl dC) ?_;rintro v142 _ _ ⟨rfl,rfl⟩;rw[← htk];refine zc8 fun ⟨w0,hw0⟩=>?_;obtain ⟨q142,d142,rfl⟩:=ag (e:=encSide) (l:=(y.sides.map (gB L T.length m)++((cJ m).zipIdx.take (cntB m (b+1))).map (nB T.length i m y.dim))) (i:=0) hw0 rfl;clear hw0 w0;refine pU I (fA ao I bI I) (SP.on I (SO.store1 1 bI I I I I (by show 2<3; decide) I) (.inl dC) ?_);rintro _ _ _ ⟨rfl,rfl⟩;refine pN (tN (rG (lM I (lU (SU.eq (v':=vi (cntB m (b+1):Nat)) (aD I I oM) (zd9 vi (by rw[e3]; omega))) ?_))));refine lA I (nL (bN (tN (rG (lM I (yD I (lA I (nL ?_))))))));exact gA (b+1,_) sB I I ⟨by dsimp only; omega,fun h=>by omega⟩ (by dsimp only; omega)
        ·have htb:m.testBit b=false:=by
          cases h:m.testBit b with
          | false=>rfl
          | true=>rw[h] at hbit; simp at hbit
         rw[← c2 htb];refine kP (bN (tN (rG (lM I (yD I (lA I (nL ?_)))))));exact gA (b+1,zv2) ⟨I,I,I,I,I,I,I,I,I,by rw[c2 htb]; rfl,rfl,trivial⟩ rfl rfl ⟨by dsimp only; omega,fun h=>by omega⟩ (by dsimp only; omega)
       ·have h1:onesB m≤1:=oM;have hbz:=hb0 h1;subst hbz;have hbs:iw L T.length i y m=(y.sides.map (gB L T.length m)++((cJ m).zipIdx.take (cntB m 0)).map (nB T.length i m y.dim)):=by rw[jr,zf8 h1,hc0,List.take_zero,List.map_nil]
        rw[← hbs];refine xI (tX (tX (bX ?_)));exact za7 zv2 sB I I trivial
      ·have hbe:b=T.length:=oM;have h1:¬ onesB m≤1:=fun h=>by
        have:=hb0 h;rw[hbe] at this;rw[this] at hlt2;omega
       have hbs:iw L T.length i y m=(y.sides.map (gB L T.length m)++((cJ m).zipIdx.take (cntB m b)).map (nB T.length i m y.dim)):=by
        rw[jr,zf7 h1,hbe,B6 T.length oM m oM,tL];rw[List.length_zipIdx];exact lR _
       rw[← hbs];refine sQ (sW I (lM I (lU (SU.eq (v':=vb false) (lS I I) (zd9 vb (zf5 oM))) (lM I (yA I (yA I (yA I (yF I (tZ (cF I (xI (tX (tX (bX ?_))))))))))))));exact za7 zv2 sB I I trivial
     rintro zv3 -;try dsimp only
     refine fS fun g5 hle5 hs5=>?_;obtain ⟨q5,d5,rfl⟩:=Sl.form hs5;have hbl:=hac2.length;have hal2:ac2.length<1099511627776:=by
      have h1:(pI L T i).length≤(L.zipIdx.take i).length * 64:=xh fun q _=>by
       rw[ze4];have h2:=mg L q.1.id T;refine zk2 (zc2 _ _) ?_;rw[zi2];omega
      have h3:(kF bb m).length≤m:=zk2 (zc2 _ _) (by rw[zi2]; exact lR _);rw[ze2] at h1;rw[← hbl,ze3,ze4];omega
     refine rG (lU (fA ed I c8 I) (lK (qL (v:=ov2) eY I (cO 2 I I)) (lK (qV 0 eX au I I I) (lW (bS sty28 I I I (ab ⟨I,trivial⟩) dC) ?_))));rintro _ _ _ ⟨b149,rfl,rfl,rfl⟩;refine lW (aP (e:=encCell) (l:=ac2) 1 ⟨bId T.length i m,y.dim+(onesB m:Nat) - 1,⟨q5,(iw L T.length i y m).length,d5⟩⟩ sty28 I I I I I oM oM) ?_;rintro v150 _ _ ⟨rfl,rfl⟩;refine zc9 fun ⟨w0,hw0⟩=>?_;obtain ⟨q150,d150,rfl⟩:=ag (e:=encCell) (l:=ac2++[⟨bId T.length i m,y.dim+(onesB m:Nat) - 1,⟨q5,(iw L T.length i y m).length,d5⟩⟩]) (i:=1) hw0 rfl;clear hw0 w0;refine lU (fA ed I c8 I) (oZ (SO.store1 2 c8 I I I I (by show 0<1; decide) I) ?_);refine nL (bN (tN (rG (lM I (yD I (lA I (nL (dR (.cons _ (.refl _)) ?_))))))));exact gA (m+1,g5,_,ac2++[⟨bId T.length i m,y.dim+(onesB m:Nat) - 1,⟨q5,(iw L T.length i y m).length,d5⟩⟩]) sB I I ⟨by dsimp only; omega,by dsimp only; omega,hle4.trans hle5,by
      dsimp only;rw[hsr1,zg3,← zg6];exact (hac2.mono fun _ _=>aC.mono hle5).append ⟨⟨I,I,hs5⟩,trivial⟩⟩ (by dsimp only; omega)
  ·have hme:m=2 ^ T.length:=oM;rw[hme,xM hT6 hb2,← hds] at hac2;refine xI (tX (tX (bX (bN (tN (rG (lM I (yD I (lA I (nL ?_))))))))));exact gA (i+1,g4,ov2,ac2) sB I I ⟨by dsimp only; omega,hle3.trans hle4,hac2⟩ (by dsimp only; omega)
 ·have hie:i=L.length:=oM;rw[hie,yy] at hacc;have hal:=hacc.length;have hle13:=hle1.trans (hle2.trans hle3);refine fS fun g4 hle4 hs4=>?_;obtain ⟨q4,d4,rfl⟩:=Sl.form hs4;have hC:am g4 (.slice q4 (kK L T).length d4) (kK L T):=⟨acc,by rw[hal]; exact hs4,hacc.mono fun _ _=>aC.mono hle4⟩;refine xI (tX (tX (bX (tN (rZ (lK (qV 0 bh aw I I I) (lW (cL call75 I (ew E g4 _ _ (kK L T) (by rw[← hal]; exact hC) hbf)) ?_)))))));rintro _ g5 _ ⟨rfl,hle5,u5,rfl,hu5⟩;obtain ⟨q5,d5,rfl⟩:=hu5.form;refine oZ (sK 1 aw I I I I I ⟨I,trivial⟩) (tZ (rE ?_));exact ST.retCD 1 s (.inl I) results39 I bh aw I I uR ⟨I,hle13.trans (hle4.trans hle5),_,I,hu5⟩
structure Tsm (T:List (List Int)):Prop where
 few:T.length≤20
 len:∀ t∈T,t.length≤1000
theorem TOk.tsm {l:List Cl}(h:Sm3 l){T:List (List Int)}(hT:TOk l T):Tsm T:=⟨by have:=hT.few; omega,fun t ht=>by
 have h1:=hT.len t ht;have h2:(il l).length≤(ae l).length:=by unfold il; rw[ze4]; exact zc2 _ _
 rw[h.rt.tab] at h2;have:=h.few;omega⟩
theorem TOk.len9 {l:List Cl}(h:Sm3 l){T:List (List Int)}(hT:TOk l T):∀ t∈T,t.length≤900:=fun t ht=>by
 have h1:=hT.len t ht;have h2:(il l).length≤(ae l).length:=by unfold il; rw[ze4]; exact zc2 _ _
 rw[h.rt.tab] at h2;have:=h.few;omega
theorem Sml.room {l:List Cl}(h:Sml l):pO 20 99 l:=⟨h.few,fun c hc=>by have:=gJ (h.rt.form c hc); omega⟩
theorem pO.up {l:List Cl}(h:pO 20 99 l):pO 21 200 l:=h.mono dC dC
theorem Tsm.cost {l:List Cl}(h:pO 21 200 l){T:List (List Int)}(hT:Tsm T):∀ t∈T,t.length<1099511627776 - fh (ae l) []:=fun t ht=>by
 have h1:=hT.len t ht;have h2:=h.cost;omega
theorem na (hd:Own)(ts:Rws)(v:Sv)(l:List Int)(s:Own):(rowA encInt 3 (.slice v.p v.n v.c) l::(hd++(bu ts++s))).Perm (hd++(bu (ts++[(v,l)])++s)):=by
 have e:bu (ts++[(v,l)])++s=bu ts++(rowA encInt 3 (.slice v.p v.n v.c) l::s):=by simp[bu]
 rw[e,← zg6,← zg6];exact List.perm_middle.symm
theorem SC.freezeTsH {P:Program}{N:Nat}{E:World}{c:Code}{Q:Exit→Act→World→Prop}{f:Fr}{g:PH}{hd s:Own}{ts:Rws}(h:∀ g',Le g g'→az (a7 g') (ts.map Prod.snd) (ts.map Prod.fst)→SC P N E c Q f g' (hd++s)):SC P N E c Q f g (hd++(bu ts++s)) :=
 cP (List.perm_append_comm_assoc _ _ _) (SC.freezeTs h)
theorem ST.freezeTsH {N:Nat}{E:World}{Q:Exit→Act→World→Prop}{e:Exit}{f:Fr}{g:PH}{hd s:Own}{ts:Rws}(h:∀ g',Le g g'→az (a7 g') (ts.map Prod.snd) (ts.map Prod.fst)→ST N E Q e f g' (hd++s)):ST N E Q e f g (hd++(bu ts++s)) :=
 ST.perm (List.perm_append_comm_assoc _ _ _) fun a w ha hw=>by
  obtain ⟨g',h1,h2,h3⟩:=freezeTs ts g (hd++s) hw;exact h g' h1 h3 a w ha h2
theorem A6 {ts:Rws}{j m:Nat}{v:Sv}{l:List Int}(h:ts[j]?=some (v,l)){hd:Own}(s:Own){x:Ent}(hh:hd.length=m):((hd++(bu ts++s)).set (j+m) x)[j+m]?=some x:=by
 have hj:=(zf3.1 h).1;rw[List.getElem?_set_self];simp only[ze3,bu,ze4];omega
theorem uZ {α β:Type}{R:α→β→Prop}:∀ {l:List α} {m:List β} (k:Nat) {a:α} {b:β},az R l m→R a b→az R (l.set k a) (m.set k b)
 | [],[],_,_,_,_,_=>trivial
 | [],_::_,_,_,_,h,_=>h.elim
 | _::_,[],_,_,_,h,_=>h.elim
 | x::l,y::m,0,a,b,h,hr=>⟨hr,h.2⟩
 | x::l,y::m,k+1,a,b,h,hr=>⟨h.1,uZ k h.2 hr⟩
theorem re (g:PH):∀ n:Nat,az (a7 g) (List.replicate n []) (List.replicate n ⟨none,0,0⟩)
 | 0=>trivial
 | n+1=>⟨zb8 _ _,re g n⟩
theorem lF {ts:Rws}{T:List (List Int)}(h:ts.map Prod.snd=T){g:PH}(ha:az (a7 g) (ts.map Prod.snd) (ts.map Prod.fst)):az (a7 g) T (ts.map Prod.fst):=h ▸ ha
set_option maxHeartbeats 1000000
theorem CY:∀ n,n<9→∀ d,d<n→2≤d→n % d=0→e6 ((n:Nat):Int)=false:=by decide
theorem Cz:∀ n,n<9→2≤n→(∀ d,d<n→2≤d→n % d≠0)→e6 ((n:Nat):Int)=true:=by decide
theorem ky (E:World)(g:PH)(s:Own)(n:Nat)(h2:2≤n)(h9:n<9):Ctr Tryz.prog E 37 #[vi n] g s (fun r g' s'=>r=vb (e6 ((n:Nat):Int))∧g=g'∧s=s'):=by
 refine za9 (args:=[vi n]) func37 I ntmps37 (bE I) ?_;refine rZ (aT I (sQ (sW I (lU (SU.eq (v':=vb false) (lS I I) (zd9 vb (zf5 oM))) (lM I (yC I (lY I I I (SU.eq (v':=vb false) (gR I I) (zd9 vb (zf5 oM))) (yF I (tZ (cF I (kP (tN (sQ (rZ (aT I (bK ?_))))))))))))))));refine oP (ι:=Nat) (fun d=>[(0,vi n),(3,vi d)]) (fun _=>g) (fun _=>s) (fun d=>2≤d∧d≤n∧∀ e,e<d→2≤e→n % e≠0) (fun d=>n - d) 2 sB I I ⟨lR _,h2,fun e h1 h2=>by omega⟩ ?_;rintro d ⟨hd2,hdn,hno⟩;refine sQ (sW I (lM I (yL I (tZ ?_))));refine iP I (fun hlt=>?_) (fun hlt=>?_)
 ·have hdl:d<n:=oM;have hr:((n:Nat):Int).tmod ((d:Nat):Int)=((n % d:Nat):Int):=(Int.ofNat_tmod n d).symm;refine kP (tN (sQ (bK (sW I (lM I (lU (SU.eq (v':=vi (n % d:Nat)) (zd5 I I oM) (zd9 vi hr)) (yE I (tZ ?_))))))));refine iP I (fun hz=>?_) (fun hz=>?_)
  ·have hp:=CY n h9 d hdl hd2 oM;refine rZ (aT I (rE (bR (tR (tR (bR (tR ?_)))))));exact za6 (.inl I) results37 I ⟨by rw[hp],I,I⟩
  ·refine kP (bN (tN (rG (lM I (yD I (lA I (nL ?_)))))));exact gA (d+1) sB I I ⟨oM,oM,fun e h1 h3=>by
    by_cases k:e=d
    ·subst k; omega
    ·exact hno e oM h3⟩ oM
 ·have hde:d=n:=oM;subst hde;have hp:=Cz d h9 h2 hno;refine xI (tX (tX (bX (tN (rZ (aT I (rE ?_)))))));exact za6 (.inl I) results37 I ⟨by rw[hp],I,I⟩
theorem nf (E:World)(g:PH)(s:Own)(p:Int)(hp:Fp p):Ctr Tryz.prog E 37 #[vi p] g s (fun r g' s'=>r=vb true∧g=g'∧s=s'):=by
 have hl:=hp.lt;obtain ⟨n,rfl⟩:∃ n:Nat,p=(n:Int):=⟨p.toNat,oM⟩;have h:=ky E g s n oM oM;rw[eF.2 hp] at h;exact h
theorem og (E:World)(g:PH)(s:Own)(R C:Nat)(hr:R≤400)(hc:C≤400) :
  Ctr Tryz.prog E 161 #[vi R,vi C] g s (fun x g' s'=>x=vb true∧g=g'∧s=s'):=by
 refine za9 (args:=[vi R,vi C]) func161 I ntmps161 (bE I) ?_;refine rZ (aT I (sW I (lU (SU.eq (v':=vb true) (gQ I I) (zd9 vb (zf6 oM))) (lM I (yC I (lY I I I (SU.eq (v':=vb true) (gQ I I) (zd9 vb (zf6 oM))) (yP I (lM I (yC I (lY I I I (SU.eq (v':=vb true) (SU.leq I I) (zd9 vb (zf6 oM))) (yP I (lM I (yC I (lY I I I (SU.eq (v':=vb true) (SU.leq I I) (zd9 vb (zf6 oM))) (yP I (aT I (rE ?_)))))))))))))))));exact za6 (.inl I) results161 I ⟨I,I,I⟩
theorem s8 (E:World)(g:PH)(s:Own)(p:Int)(hp:Fp p)(r c:Nat)(hr:r≤400)(hc:c≤400) :
  Ctr Tryz.prog E 132 #[vi p,vi r,vi c] g s (fun x g' s'=>g=g'∧∃ b,x = .agg #[vi p,vi r,vi c,.slice (some ⟨b,0,none⟩) (r * c) (r * c)]∧s'=rowA encInt 3 (.slice (some ⟨b,0,none⟩) (r * c) (r * c)) (List.replicate (r * c) 0)::s):=by
 have hm:=rY hr hc;refine za9 (args:=[vi p,vi r,vi c]) func132 I ntmps132 (bE I) ?_;refine rZ (bW (aL zk6) fun b6=>?_);refine tZ (sW I (lW (cL call37 I (nf E g _ p hp)) ?_));rintro _ _ _ ⟨rfl,rfl,rfl⟩;refine aT I (sW I (lM I (lW (cL call161 I (og E g _ r c hr hc)) ?_)));rintro _ _ _ ⟨rfl,rfl,rfl⟩;refine aT I (sQ (sW I (lU (SU.not I) (lM I (yC I (lY I I I (SU.not I) (yF I (tZ (cF I (kP (tN (sW I (lM I (lM I (lM I (lM I (lU (SU.eq (v':=vi ((r * c:Nat))) (SU.mulW I I) (zd9 vi (by rw[← Int.natCast_mul]; exact zk4 _ oM))) ?_)))))))))))))))));refine lW (mK encInt 0 sty25 I I I oM oM) ?_;rintro _ _ _ ⟨b15,rfl,rfl,rfl⟩;refine lU (za1 I (build147 _ _ _ _ _ _)) ?_;refine oZ (sK 1 br rfl rfl rfl rfl rfl (by (repeat' (first | exact trivial | refine⟨by rfl,?_⟩)))) ?_;refine tZ (rE ?_);exact ST.retCD 1 _ (.inl I) results132 I ei br I I (.cons_cons _ (.cons _ (.refl _))) ⟨I,_,I,I⟩
theorem te (E:World)(g:PH)(s:Own)(v:Value)(p:Int)(hp:Fp p)(R C:Nat)(hr:R≤400)(hc:C≤400)(A:List Int)(hA:A.length=R * C)(hv:FmR g v p R C A)(h0:∀ x∈A,0≤x∧x<p) :
  Ctr Tryz.prog E 159 #[v] g s (fun x g' s'=>x=vb true∧g=g'∧s=s'):=by
 obtain ⟨q,c,rfl,hs⟩:=hv;have hm:=rY hr hc;refine za9 (args:=[.agg #[vi p,vi R,vi C,.slice q A.length c]]) func159 I ntmps159 (bE I) ?_;refine rZ (bW (bO I) fun b1=>?_);refine aT I (rZ (lU (fA aV I zT3 I) (lK (qL (v:=vi p) iT3 I (cO 0 I I)) (lW (cL call37 I (nf E g _ p hp)) ?_))));rintro _ _ _ ⟨rfl,rfl,rfl⟩;refine aT I (rZ (lU (fA aV I zT3 I) (lK (qL (v:=vi R) iT3 I (cO 0 I I)) (lU (fA aV I zT3 I) (lK (qL (v:=vi C) iT3 I (cO 0 I I)) (lW (cL call161 I (og E g _ R C hr hc)) ?_))))));rintro _ _ _ ⟨rfl,rfl,rfl⟩;refine aT I (sQ (sW I (lU (SU.not I) (lM I (yC I (lY I I I (SU.not I) (yF I (lM I (lY I I I (fA aV I aR I) (SL.gq (gT I I I dC) (qL (v:=.slice q A.length c) bM I (cO 0 I I)) dC (lY I I I (eN ah I) (lY I I I (fA aV I zT3 I) (SL.gq (gT I I I dC) (qL (v:=vi R) iT3 I (cO 0 I I)) dC (lY I I I (fA aV I zT3 I) (SL.gq (gT I I I dC) (qL (v:=vi C) iT3 I (cO 0 I I)) dC (lY I I I (SU.eq (v':=vi ((R * C:Nat))) (SU.mulW I I) (zd9 vi (by rw[← Int.natCast_mul]; exact zk4 _ oM))) ?_))))))))))))))));refine lY I I I (SU.eq (v':=vb false) (nQ I I) (zd9 vb (zf5 (by rw[hA]; simp)))) ?_;refine yF I (tZ (cF I (kP (tN (sQ (rZ (aT I (bK ?_))))))));refine oP (ι:=Nat) (fun k=>[(1,pp b1 0),(5,vi k)]) (fun _=>g) (fun _=>pt b1 (.cells #[vi p,vi R,vi C,.slice q A.length c] 147 (0,0))::s) (fun k=>k≤A.length) (fun k=>A.length - k) 0 sB I I (zf4 _) ?_;rintro k hk;refine sQ (sW I (lU (fA aV I aR I) (lK (qL (v:=.slice q A.length c) bM I (cO 0 I I)) (lU (eN ah I) (yL I (tZ ?_))))));refine iP I (fun hlt=>?_) (fun hlt=>?_)
 ·have hkl:k<A.length:=oM;have hb:=za4 hs oM;have hg:A[((k:Nat):Int).toNat]?=some A[k]:=gE hkl;have h1:=h0 _ (gM hkl);generalize A[k]=x at *;refine kP (tN (sQ (bK (sQ ?_))));refine dW [] [(0,2),(1,1),(2,2),(3,2),(4,1),(5,2),(6,2),(7,2),(8,1),(9,2),(10,2),(11,1),(12,2),(13,1),(14,2),(15,2)] ze1 kR ?_;refine pU I (fA aV I aR I) (pK I (qL (v:=.slice q A.length c) bM I (cO 0 I I)) (yM I (pU I (iA ah zT3 I I hb oM sL) (pK I (eB iT3 I (za5 hs) hg I) (pU I (SU.eq (v':=vb false) (lS I I) (zd9 vb (zf5 oM))) (yM I (zb1 I (gT I I I dC) (fA aV I aR I) dC (SP.gq I (gT I I I dC) (qL (v:=.slice q A.length c) bM I (cO 0 I I)) dC (yJ I (zb1 I (gT I I I dC) (iA ah zT3 I I hb oM sL) dC (SP.gq I (gT I I I dC) (eB iT3 I (za5 hs) hg I) dC (zb1 I (gT I I I dC) (fA aV I zT3 I) dC (SP.gq I (gT I I I dC) (qL (v:=vi p) iT3 I (cO 0 I I)) dC (zb1 I (gT I I I dC) (SU.eq (v':=vb false) (gQ I I) (zd9 vb (zf5 oM))) dC (pU I (wF I I) (pN (tN (cF I (kP (bN (tN (rG (lM I (yD I (lA I (nL ?_))))))))))))))))))))))))));exact gA (k+1) sB I I oM oM
 ·refine xI (tX (tX (bX (tN (rZ (aT I (rE (dR (s':=s) uR ?_))))))));exact za6 (.inl I) results159 I ⟨I,I,I⟩
theorem BN:∀ p,p<8→(p=2∨p=3∨p=5∨p=7)→∀ n,n<p→0<n→∃ k,k<p∧0<k∧n * k % p=1:=by decide
theorem zS:∀ p,p<8→∀ n,n<p→∀ k,k<p→n * k<64:=by decide
theorem s9 (E:World)(g:PH)(s:Own)(p n:Nat)(hp:p=2∨p=3∨p=5∨p=7)(h0:0<n)(h1:n<p) :
  Ctr Tryz.prog E 182 #[vi n,vi p] g s (fun x g' s'=>g=g'∧s=s'∧∃ k:Nat,x=vi k∧k<p∧0<k∧n * k % p=1):=by
 have h8:p<8:=oM;refine za9 (args:=[vi n,vi p]) func182 I ntmps182 (bE I) ?_;refine rZ (aT I (sQ (rZ (aT I (bK ?_)))));refine oP (ι:=Nat) (fun k=>[(0,vi n),(1,vi p),(5,vi k)]) (fun _=>g) (fun _=>s) (fun k=>1≤k∧k≤p∧∀ e,e<k→0<e→n * e % p≠1) (fun k=>p - k) 1 sB I I ⟨lR _,oM,fun e h1 h2=>by omega⟩ ?_;rintro k ⟨hk1,hk2,hno⟩;refine sQ (sW I (lM I (yL I (tZ ?_))));refine iP I (fun hlt=>?_) (fun hlt=>?_)
 ·have hkp:k<p:=oM;have hs:=zS p h8 n h1 k hkp;have hr:((n * k:Nat):Int).tmod ((p:Nat):Int)=((n * k % p:Nat):Int):=(Int.ofNat_tmod (n * k) p).symm;refine kP (tN (sQ (bK (sW I (lM I (lU (SU.eq (v':=vi ((n * k:Nat))) (SU.mulW I I) (zd9 vi (by rw[← Int.natCast_mul]; exact zk4 _ oM))) ?_))))));refine lM I (lU (SU.eq (v':=vi ((n * k % p:Nat))) (zd5 I I oM) (zd9 vi hr)) (yE I (tZ ?_)));refine iP I (fun he=>?_) (fun he=>?_)
  ·refine sW I (aT I (rE (bR (tR (tR (bR (tR ?_)))))));exact za6 (.inl I) results182 I ⟨I,I,k,I,hkp,hk1,oM⟩
  ·refine kP (bN (tN (rG (lM I (yD I (lA I (nL ?_)))))));exact gA (k+1) sB I I ⟨oM,oM,fun e h3 h4=>by
    by_cases hek:e=k
    ·subst hek; omega
    ·exact hno e oM h4⟩ oM
 ·obtain ⟨e,he1,he2,he3⟩:=BN p h8 hp n h1 h0;exact absurd he3 (hno e oM he2)
theorem rI (E:World)(g:PH)(s:Own)(p n:Int)(hp:Fp p)(h0:0<n)(h1:n<p) :
  Ctr Tryz.prog E 182 #[vi n,vi p] g s (fun x g' s'=>g=g'∧s=s'∧∃ o,x=vi o∧0<o∧o<p∧o * n % p=1):=by
 obtain ⟨q,rfl⟩:∃ q:Nat,p=(q:Int):=⟨p.toNat,by have:=hp.lt; omega⟩;obtain ⟨m,rfl⟩:∃ m:Nat,n=(m:Int):=⟨n.toNat,oM⟩;refine (s9 E g s q m (by unfold Fp at hp; omega) oM oM).mono fun x g' s' ⟨h2,h3,k,h4,h5,h6,h7⟩=>⟨h2,h3,k,h4,oM,oM,?_⟩;rw[← Int.natCast_mul,← Int.natCast_emod,Nat.mul_comm,h7];rfl
theorem CB {n p:Int}(h2:2≤p)(h7:p≤7):bG (n.tmod p) p=n % p:=by
 have hmo:=gy (a:=n) h2;have ht:n.tmod p=n % p∨n.tmod p=n % p - p:=by
  rcases Int.le_total 0 n with h | h
  ·left; exact Int.tmod_eq_emod_of_nonneg h
  ·rw[Int.tmod_eq_emod];split
   ·left; omega
   ·right; omega
 have h3:(n.tmod p).tmod p=n.tmod p:=by
  rw[Int.tmod_tmod]
 unfold bG;rw[h3,zk4 _ oM,Int.tmod_eq_emod_of_nonneg oM]
 rcases ht with h | h <;> rw[h]
 ·rw[Int.add_emod_right,Int.emod_emod]
 ·rw[Int.sub_add_cancel,Int.emod_emod]
theorem yx {p o:Int}{R C c i0:Nat}{A:Nat→Nat→Int}{L L2 M:List Int}{J:List Nat}(h:gI p A R C (atF L C) J c)(hc:c<C)(h1:J.length≤i0)(h2:i0<R)(hpos:∀ x<R,∀ y<C,0≤atF L C x y)(ho:o * atF L C i0 c % p=1)
  (hL2:∀ x<R,∀ y<C,atF L2 C x y=if x=J.length then atF L C i0 y * o % p else atF L C (swF J.length i0 x) y)
  (hM:∀ x<R,∀ y<C,atF M C x y=elG p L2 C J.length c x y):gI p A R C (atF M C) (J++[c]) (c+1):=by
 have hat:J.length<R:=oM;refine h.pivot (b:=o) hc h1 h2 ?_ fun x hx y hy=>?_
 ·refine⟨o * atF L C i0 c / p,?_⟩;have:=Int.emod_add_mul_ediv (o * atF L C i0 c) p;omega
 ·rw[hM x hx y hy];unfold elG;have e0:∀ y<C,Eqm p (atF L2 C J.length y) (o * atF L C i0 y):=fun y hy=>by
   rw[hL2 _ hat y hy,zf8 rfl,Int.mul_comm o];exact jw _ _
  by_cases e:x=J.length
  ·subst e;rw[zf7 (fun k=>k.1 rfl),zf8 rfl];exact e0 y hy
  ·have hsw:swF J.length i0 x=if x=i0 then J.length else x:=by
    unfold swF;rw[zf7 e]
   have hlt:swF J.length i0 x<R:=by
    rw[hsw];split <;> omega
   have e1:∀ y<C,atF L2 C x y=atF L C (if x=i0 then J.length else x) y:=fun y hy=>by
    rw[hL2 x hx y hy,zf7 e,hsw]
   rw[zf7 e,← e1 y hy,← e1 c hc];have hn:0≤atF L2 C x c:=by
    rw[e1 c hc,← hsw];exact hpos _ hlt c hc
   by_cases k:0<atF L2 C x c
   ·rw[zf8 ⟨e,k⟩];refine (jw _ _).trans ?_;have e2:Eqm p (atF L2 C J.length y * (p - atF L2 C x c)) (o * atF L C i0 y * (0 - atF L2 C x c)):=(e0 y hy).mul (Eqm.sub ⟨1,oM⟩ (.refl _));refine ((Eqm.refl (atF L2 C x y)).add e2).trans (Eqm.of ?_);rw[Int.mul_sub,Int.mul_zero,Int.mul_comm (o * atF L C i0 y)];omega
   ·rw[zf7 (fun q=>k q.2),show atF L2 C x c=0 by omega,Int.zero_mul,Int.sub_zero];exact .refl _
def swG (p o:Int)(L:List Int)(C r i x y:Nat):Int:=if x=r then atF L C i y * o % p else atF L C (swF r i x) y
theorem zr {p o:Int}{L M:List Int}{R C r i y:Nat}(hM:M.length=R * C)(hr:r<R)(hi:i<R)(hy:y<C)
  (h:∀ x<R,∀ z<C,atF M C x z=if z<y then swG p o L C r i x z else atF L C x z) :
  ∀ x<R,∀ z<C,atF ((M.set (i * C+y) (atF L C r y)).set (r * C+y) (atF L C i y * o % p)) C x z=if z<y+1 then swG p o L C r i x z else atF L C x z:=fun x hx z hz=>by
 have hM1:(M.set (i * C+y) (atF L C r y)).length=R * C:=by rw[zi1,hM]
 rw[fB hM1 hr hy hz,fB hM hi hy hz,h x hx z hz];by_cases e1:z=y
 ·subst e1;rw[zf8 (show z<z+1 by omega),zf7 (Nat.lt_irrefl z)];unfold swG;by_cases e2:x=r
  ·rw[zf8 ⟨e2.symm,rfl⟩,zf8 e2]
  ·rw[zf7 fun k=>e2 k.1.symm,zf7 e2];unfold swF;rw[zf7 e2];by_cases e3:x=i
   ·rw[zf8 ⟨e3.symm,rfl⟩,zf8 e3]
   ·rw[zf7 fun k=>e3 k.1.symm,zf7 e3]
 ·rw[zf7 fun k=>e1 k.2.symm,zf7 fun k=>e1 k.2.symm];by_cases e2:z<y
  ·rw[zf8 e2,zf8 oM]
  ·rw[zf7 e2,zf7 oM]
theorem Ap {p:Int}{L2 M M2:List Int}{R C r c k y:Nat}(hM:M2.length=R * C)(hk:k<R)(hy:y<C)
  (h:∀ x<R,∀ z<C,atF M2 C x z=if x=k∧z<y then elG p L2 C r c k z else atF M C x z) :
  ∀ x<R,∀ z<C,atF (M2.set (k * C+y) (elG p L2 C r c k y)) C x z=if x=k∧z<y+1 then elG p L2 C r c k z else atF M C x z:=fun x hx z hz=>by
 rw[fB hM hk hy hz,h x hx z hz];by_cases e1:x=k
 ·subst e1;by_cases e2:z=y
  ·subst e2;rw[zf8 ⟨rfl,rfl⟩,zf8 ⟨rfl,oM⟩]
  ·rw[zf7 fun k=>e2 k.2.symm];by_cases e3:z<y
   ·rw[zf8 ⟨rfl,e3⟩,zf8 ⟨rfl,oM⟩]
   ·rw[zf7 fun k=>e3 k.2,zf7 fun k=>by omega]
 ·rw[zf7 fun k=>e1 k.1.symm,zf7 fun k=>e1 k.1,zf7 fun k=>e1 k.1]
theorem rK (E:World)(g:PH)(s:Own)(v:Value)(p:Int)(hp:Fp p)(R C:Nat)(hR:R≤400)(hC:C≤400)(h0:0<R * C)(A:List Int)(hA:A.length=R * C)(hv:FmR g v p R C A)(hA0:∀ x<R,∀ y<C,0≤atF A C x y∧atF A C x y<p) :
  Ctr Tryz.prog E 160 #[v] g s (fun x g' s'=>s=s'∧Le g g'∧∃ (J:List Nat) (m y:Value),x = .tuple #[.agg #[vi p,vi R,vi C,m],y]∧(∃ q n k,m = .slice q n k)∧bC g' y (J.map fun j:Nat=>(j:Int))∧J.length=rk p (atF A C) R C∧J.length≤R):=by
 obtain ⟨q,c0,rfl,hs⟩:=hv;have hm:=rY hR hC;have hl:=hp.lt;have hC0:0<C:=Nat.pos_of_ne_zero fun e=>by rw[e,Nat.mul_zero] at h0; omega
 have hcap:=(SlA.cap hs).2;refine za9 (args:=[.agg #[vi p,vi R,vi C,.slice q A.length c0]]) func160 I ntmps160 (bE I) ?_;refine rZ (bW (bO I) fun b1=>?_);refine bW (aL zk6) fun b2=>?_;refine aT I (rZ (lU (fA aV I zT3 I) (lK (qL iT3 I (cO 1 I I)) (aT I (rZ (lU (fA aV I zT3 I) (lK (qL iT3 I (cO 1 I I)) (aT I ?_))))))));refine SC.cut (ι:=Nat×Nat×Nat) (fun z=>[(1,pp b1 0),(2,pp b2 0),(4,vi p),(5,vi C),(6,pp z.1 0)]) (fun _=>g) (fun z=>pt z.1 (.cells #[vi p,vi R,vi C,.slice (some ⟨z.2.1,0,none⟩) (R * C) z.2.2] 147 (0,0))::rowA encInt 3 (.slice (some ⟨z.2.1,0,none⟩) (R * C) z.2.2) A::pt b2 (.cells #[vi 0,vi 0,vi 0,.slice none 0 0] 147 (0,0))::pt b1 (.cells #[vi p,vi R,vi C,.slice q A.length c0] 147 (0,0))::s) (fun z=>R * C≤z.2.2) ?_ ?_
 ·refine SC.drawX [10] ze1 kR ?_;refine SX.u (i:=0) I kR (mV I) dC (SX.u (i:=1) I kR (fA aV I zT3 I) dC (SX.q (i:=2) I kR (qL (v:=vi R) iT3 I (by exact cO 1 I I)) dC ?_));refine SX.u (i:=3) I kR (mV I) dC (SX.u (i:=5) I kR (fA aV I aR I) dC (SX.q (i:=6) I kR (qL (v:=.slice q A.length c0) bM I (by exact cO 1 I I)) dC ?_))
  repeat' (first
   | (refine SB.o (i:=4) I (bS sty25 I I I (ab trivial) dC) dC (.inr iR) ?_; rintro _ _ _ ⟨b25,rfl,rfl,rfl⟩; refine SX.drop (.cons _ (.refl _)) ?_)
   | (refine SB.o (i:=4) I (bS sty25 I I I (ab trivial) dC) dC (.inr iR) ?_; rintro _ _ _ ⟨b25,rfl,rfl,rfl⟩; refine SX.drop (.cons _ (.refl _)) ?_)
   | (refine SB.o (i:=7) I (SO.appNewA (e:=encInt) sty25 I I hs oM oM) dC (.inr iR) ?_; rintro v28 _ _ ⟨rfl,rfl⟩; refine SX.facts fun hx=>?_; obtain ⟨w0,hw0⟩:=hx; obtain ⟨b,cE,rfl,hcE⟩:=ge hw0 (i:=0) rfl oM; rw[hA] at hcE ⊢; clear hw0 w0; refine SX.u (i:=8) I kD (za1 I (build147 _ _ _ _ _ _)) dC ?_)
   | (refine SB.o (i:=7) I (SO.appNewA (e:=encInt) sty25 I I hs oM oM) dC (.inr iR) ?_; rintro v28 _ _ ⟨rfl,rfl⟩; refine SX.facts fun hx=>?_; obtain ⟨w0,hw0⟩:=hx; obtain ⟨b,cE,rfl,hcE⟩:=ge hw0 (i:=0) rfl oM; rw[hA] at hcE ⊢; clear hw0 w0; refine SX.u (i:=8) I kD (za1 I (build147 _ _ _ _ _ _)) dC ?_)
   | (refine SB.o (i:=9) I (aL zk6) dC (.inr iR) ?_; rintro _ _ _ ⟨b6,rfl,rfl,rfl⟩)
   | (refine SB.o (i:=9) I (aL zk6) dC (.inr iR) ?_; rintro _ _ _ ⟨b6,rfl,rfl,rfl⟩)
   | (refine SB.on (i:=10) I (sK 0 br I I I I I sB) (.inl dC) ?_; rintro _ _ _ ⟨rfl,rfl⟩)
   | (refine SB.on (i:=10) I (sK 1 br I I I I I sB) (.inl dC) ?_; rintro _ _ _ ⟨rfl,rfl⟩)
   | refine zd4 4 9 kD ?_ ?_
   | refine zd4 7 9 kD ?_ ?_
   | refine zd3 9 kD ?_
   | refine zd3 10 kD ?_
   | refine zd3 7 kD ?_
   | refine zd3 4 kD ?_
   | (refine SX.nil kD ?_; first | exact za7 (b6,b,cE) sB rfl rfl hcE | (refine ST.perm (zj4 _ _ _) ?_; exact za7 (b6,b,cE) sB I I hcE)))
 rintro ⟨b6,b,cE⟩ hcE;dsimp only at hcE ⊢;refine rZ (aT I (rZ (aT I (sQ (rZ (aT I (bK ?_)))))));refine SC.to (g':=g) (s':=rowA encInt 3 (.slice none 0 0) (([]:List Nat).map fun j:Nat=>(j:Int))::pt b6 (.cells #[vi p,vi R,vi C,.slice (some ⟨b,0,none⟩) (R * C) cE] 147 (0,0))::rowA encInt 3 (.slice (some ⟨b,0,none⟩) (R * C) cE) A::pt b2 (.cells #[vi 0,vi 0,vi 0,.slice none 0 0] 147 (0,0))::pt b1 (.cells #[vi p,vi R,vi C,.slice q A.length c0] 147 (0,0))::s) (fun w hw=>hw.nilRow 3 1) ?_;refine oP (ι:=Nat×List Int×Value×List Nat) (fun z=>[(1,pp b1 0),(2,pp b2 0),(4,vi p),(5,vi C),(6,pp b6 0),(7,z.2.2.1),(8,vi z.2.2.2.length),(9,vi z.1)]) (fun _=>g) (fun z=>rowA encInt 3 z.2.2.1 (z.2.2.2.map fun j:Nat=>(j:Int))::pt b6 (.cells #[vi p,vi R,vi C,.slice (some ⟨b,0,none⟩) (R * C) cE] 147 (0,0))::rowA encInt 3 (.slice (some ⟨b,0,none⟩) (R * C) cE) z.2.1::pt b2 (.cells #[vi 0,vi 0,vi 0,.slice none 0 0] 147 (0,0))::pt b1 (.cells #[vi p,vi R,vi C,.slice q A.length c0] 147 (0,0))::s) (fun z=>z.1≤C∧z.2.1.length=R * C∧(∀ x<R,∀ y<C,0≤atF z.2.1 C x y∧atF z.2.1 C x y<p)∧gI p (atF A C) R C (atF z.2.1 C) z.2.2.2 z.1) (fun z=>C - z.1) (0,A,.slice none 0 0,[]) sB I I ⟨zf4 _,hA,hA0,gI.start _ _ _⟩ ?_;rintro ⟨c,L,pv,J⟩ ⟨hc,hL,hLp,hE⟩;dsimp only at hc hL hLp hE ⊢;have hJR:=hE.len;refine zd1 fun hx=>?_;obtain ⟨w1,hw1⟩:=hx;obtain ⟨pq,pc,rfl⟩:=ag hw1 (i:=0) rfl;clear hw1 w1;by_cases hcC:c<C
 ·by_cases hJr:J.length<R
  ·refine sQ (sW I (lM I (lU (SU.eq (v':=vb true) (lS I I) (zd9 vb (zf6 oM))) (lM I (yC I (lY I I I (fA aV I zT3 I) (SL.gq (gT I I I dC) (qL (v:=vi R) iT3 I (cO 4 I I)) dC (lY I I I (SU.eq (v':=vb true) (lS I I) (zd9 vb (zf6 oM))) (yP I (tZ (cT I (kP (tN (sQ (bK (sW I (aT I (sQ (bK ?_)))))))))))))))))));refine oP (ι:=Nat) (fun i=>[(1,pp b1 0),(2,pp b2 0),(4,vi p),(5,vi C),(6,pp b6 0),(7,.slice pq (J.map fun j:Nat=>(j:Int)).length pc),(8,vi J.length),(9,vi c),(10,vi i)]) (fun _=>g) (fun _=>rowA encInt 3 (.slice pq (J.map fun j:Nat=>(j:Int)).length pc) (J.map fun j:Nat=>(j:Int))::pt b6 (.cells #[vi p,vi R,vi C,.slice (some ⟨b,0,none⟩) (R * C) cE] 147 (0,0))::rowA encInt 3 (.slice (some ⟨b,0,none⟩) (R * C) cE) L::pt b2 (.cells #[vi 0,vi 0,vi 0,.slice none 0 0] 147 (0,0))::pt b1 (.cells #[vi p,vi R,vi C,.slice q A.length c0] 147 (0,0))::s) (fun i=>J.length≤i∧i≤R∧∀ x,J.length≤x→x<i→atF L C x c=0) (fun i=>R - i) J.length sB I I ⟨lR _,hJR,fun x h1 h2=>by omega⟩ ?_;rintro i ⟨hi1,hi2,hiz⟩;by_cases hiR:i<R
   ·have hin:=cM hiR hcC;have gi:=dZ hL hiR hcC;have hb0:=hLp i hiR c hcC;by_cases hz:atF L C i c=0
    ·refine sQ (sW I (lU (fA aV I zT3 I) (lK (qL (v:=vi R) iT3 I (cO 4 I I)) (lU (SU.eq (v':=vb true) (lS I I) (zd9 vb (zf6 oM))) (lM I (lY I I I (fA aV I aR I) (SL.gq (gT I I I dC) (qL (v:=.slice (some ⟨b,0,none⟩) (R * C) cE) bM I (cO 1 I I)) dC (yC I (yC I (lY I I I (SU.eq (v':=vi ((i * C:Nat))) (SU.mulW I I) (zd9 vi (by rw[← Int.natCast_mul]; exact zk4 _ oM))) ?_))))))))));refine yC I (lY I I I (SU.eq (v':=vi ((i * C+c:Nat))) (aD I I oM) (zd9 vi oM)) (lY I I I (SU.eq (v':=.pointer (some ⟨b,0+(i * C+c) * 1,none⟩)) (iA ah zT3 I I I oM sL) (bk (by simp only[Int.toNat_natCast]))) ?_));refine SL.gq (gT I I I dC) (eB (j:=i * C+c) iT3 I (zb5 2 I) gi I) dC (lY I I I (SU.eq (v':=vb true) (eQ I I) (zd9 vb (zf6 hz))) (yP I (tZ (cT I (kP (tN (bK (rG (lM I (yD I (lA I (nL (bN ?_)))))))))))));exact gA (i+1) sB I I ⟨oM,oM,fun x h1 h2=>by
      by_cases e:x=i
      ·rw[e]; exact hz
      ·exact hiz x h1 oM⟩ oM
    ·refine sQ (sW I (lU (fA aV I zT3 I) (lK (qL (v:=vi R) iT3 I (cO 4 I I)) (lU (SU.eq (v':=vb true) (lS I I) (zd9 vb (zf6 oM))) (lM I (lY I I I (fA aV I aR I) (SL.gq (gT I I I dC) (qL (v:=.slice (some ⟨b,0,none⟩) (R * C) cE) bM I (cO 1 I I)) dC (yC I (yC I (lY I I I (SU.eq (v':=vi ((i * C:Nat))) (SU.mulW I I) (zd9 vi (by rw[← Int.natCast_mul]; exact zk4 _ oM))) ?_))))))))));refine yC I (lY I I I (SU.eq (v':=vi ((i * C+c:Nat))) (aD I I oM) (zd9 vi oM)) (lY I I I (SU.eq (v':=.pointer (some ⟨b,0+(i * C+c) * 1,none⟩)) (iA ah zT3 I I I oM sL) (bk (by simp only[Int.toNat_natCast]))) ?_));refine SL.gq (gT I I I dC) (eB (j:=i * C+c) iT3 I (zb5 2 I) gi I) dC (lY I I I (SU.eq (v':=vb false) (eQ I I) (zd9 vb (zf5 hz))) (yP I (tZ (cF I (xI (tX (tX (bX (tN (sQ (sW I (lU (fA aV I zT3 I) (lK (qL (v:=vi R) iT3 I (cO 4 I I)) (lU (SU.eq (v':=vb false) (eQ I I) (zd9 vb (zf5 oM))) (tZ (cF I (kP (tN (rZ (lU (fA aV I aR I) (lK (qL (v:=.slice (some ⟨b,0,none⟩) (R * C) cE) bM I (cO 1 I I)) (lM I (lM I (lU (SU.eq (v':=vi ((i * C:Nat))) (SU.mulW I I) (zd9 vi (by rw[← Int.natCast_mul]; exact zk4 _ oM))) ?_))))))))))))))))))))))));refine lM I (lU (SU.eq (v':=vi ((i * C+c:Nat))) (aD I I oM) (zd9 vi oM)) (lU (SU.eq (v':=.pointer (some ⟨b,0+(i * C+c) * 1,none⟩)) (iA ah zT3 I I I oM sL) (bk (by simp only[Int.toNat_natCast]))) ?_));refine lK (eB (j:=i * C+c) iT3 I (zb5 2 I) gi I) (lM I (lW (cL call182 I (rI E g _ p (atF L C i c) hp oM hb0.2)) ?_));rintro _ _ _ ⟨rfl,rfl,o,rfl,ho0,ho1,ho2⟩;refine aT I (sQ (rZ (aT I (bK ?_))));refine oP (ι:=Nat×List Int) (fun z=>[(1,pp b1 0),(2,pp b2 0),(4,vi p),(5,vi C),(6,pp b6 0),(7,.slice pq (J.map fun j:Nat=>(j:Int)).length pc),(8,vi J.length),(9,vi c),(10,vi i),(11,vi o),(12,vi z.1)]) (fun _=>g) (fun z=>rowA encInt 3 (.slice pq (J.map fun j:Nat=>(j:Int)).length pc) (J.map fun j:Nat=>(j:Int))::pt b6 (.cells #[vi p,vi R,vi C,.slice (some ⟨b,0,none⟩) (R * C) cE] 147 (0,0))::rowA encInt 3 (.slice (some ⟨b,0,none⟩) (R * C) cE) z.2::pt b2 (.cells #[vi 0,vi 0,vi 0,.slice none 0 0] 147 (0,0))::pt b1 (.cells #[vi p,vi R,vi C,.slice q A.length c0] 147 (0,0))::s) (fun z=>z.1≤C∧z.2.length=R * C∧∀ x<R,∀ y<C,atF z.2 C x y=if y<z.1 then swG p o L C J.length i x y else atF L C x y) (fun z=>C - z.1) (0,L) sB I I ⟨zf4 _,hL,fun x _ y _=>by simp⟩ ?_;rintro ⟨y,M⟩ ⟨hy,hM,hMz⟩;dsimp only at hy hM hMz ⊢;refine sQ (sW I (lM I (yL I (tZ ?_))));refine iP I (fun hlt2=>?_) (fun hlt2=>?_)
     ·have hyC:y<C:=oM;have hin1:=cM hiR hyC;have hin2:=cM hJr hyC;have hLi:=hLp i hiR y hyC;have g1:=dZ hM hiR hyC;rw[hMz i hiR y hyC,zf7 (Nat.lt_irrefl y)] at g1;have g2:=dZ hM hJr hyC;rw[hMz J.length hJr y hyC,zf7 (Nat.lt_irrefl y)] at g2;have hmb:=nS hl.2 hLi.1 hLi.2 (Int.le_of_lt ho0) ho1;have hstep:=zr (o:=o) (p:=p) hM hJr hiR hyC hMz;refine kP (tN (sQ (bK (rZ (lU (fA aV I aR I) (lK (qL (v:=.slice (some ⟨b,0,none⟩) (R * C) cE) bM I (cO 1 I I)) (lM I (lM I (lU (SU.eq (v':=vi ((i * C:Nat))) (SU.mulW I I) (zd9 vi (by rw[← Int.natCast_mul]; exact zk4 _ oM))) ?_)))))))));refine lM I (lU (SU.eq (v':=vi ((i * C+y:Nat))) (aD I I oM) (zd9 vi oM)) (lU (SU.eq (v':=.pointer (some ⟨b,0+(i * C+y) * 1,none⟩)) (iA ah zT3 I I I oM sL) (bk (by simp only[Int.toNat_natCast]))) ?_));refine lK (eB (j:=i * C+y) iT3 I (zb5 2 I) g1 I) (aT I (sQ ?_));refine dW [17] [(0,2),(1,1),(2,2),(3,2),(4,2),(5,2),(6,2),(7,2),(8,1),(9,2),(10,2),(11,2),(12,2),(13,2),(14,2),(15,1),(16,2),(17,0)] ze1 kR ?_;refine pU I (fA aV I aR I) (pK I (qL (v:=.slice (some ⟨b,0,none⟩) (R * C) cE) bM I (cO 1 I I)) (yM I (yM I (pU I (SU.eq (v':=vi ((i * C:Nat))) (SU.mulW I I) (zd9 vi (by rw[← Int.natCast_mul]; exact zk4 _ oM))) ?_))));refine yM I (pU I (SU.eq (v':=vi ((i * C+y:Nat))) (aD I I oM) (zd9 vi oM)) (pU I (fA aV I aR I) (pK I (qL (v:=.slice (some ⟨b,0,none⟩) (R * C) cE) bM I (cO 1 I I)) (yM I (yM I (pU I (SU.eq (v':=vi ((J.length * C:Nat))) (SU.mulW I I) (zd9 vi (by rw[← Int.natCast_mul]; exact zk4 _ oM))) ?_))))));refine yM I (pU I (SU.eq (v':=vi ((J.length * C+y:Nat))) (aD I I oM) (zd9 vi oM)) (pU I (SU.eq (v':=.pointer (some ⟨b,0+(J.length * C+y) * 1,none⟩)) (iA ah zT3 I I I oM sL) (bk (by simp only[Int.toNat_natCast]))) ?_));refine pK I (eB (j:=J.length * C+y) iT3 I (zb5 2 I) g2 I) (pU I (SU.eq (v':=.pointer (some ⟨b,0+(i * C+y) * 1,none⟩)) (iA ah zT3 I I I oM sL) (bk (by simp only[Int.toNat_natCast]))) ?_);refine SP.on I (sT (e:=encInt) (a:=atF L C J.length y) (j:=i * C+y) 2 zT3 I I I (by rw[hM]; exact cM oM oM) I) (.inl dC) ?_;rintro _ _ _ ⟨rfl,rfl⟩;refine pN (tN ?_);refine dW [13] [(0,2),(1,1),(2,2),(3,2),(4,2),(5,2),(6,2),(7,2),(8,2),(9,2),(10,2),(11,2),(12,2),(13,0)] ze1 kR ?_;refine pU I (fA aV I aR I) (pK I (qL (v:=.slice (some ⟨b,0,none⟩) (R * C) cE) bM I (cO 1 I I)) (yM I (yM I (pU I (SU.eq (v':=vi ((J.length * C:Nat))) (SU.mulW I I) (zd9 vi (by rw[← Int.natCast_mul]; exact zk4 _ oM))) ?_))));refine yM I (pU I (SU.eq (v':=vi ((J.length * C+y:Nat))) (aD I I oM) (zd9 vi oM)) (yM I (yM I (pU I (SU.eq (v':=vi (atF L C i y * o)) (SU.mulW I I) (zd9 vi (zk4 _ oM))) (yM I (pU I (SU.eq (v':=vi (atF L C i y * o % p)) (zd5 I I oM) (zd9 vi (Int.tmod_eq_emod_of_nonneg hmb.1))) (pU I (SU.eq (v':=.pointer (some ⟨b,0+(J.length * C+y) * 1,none⟩)) (iA ah zT3 I I I oM sL) (bk (by simp only[Int.toNat_natCast]))) ?_)))))));refine SP.on I (sT (e:=encInt) (a:=atF L C i y * o % p) (j:=J.length * C+y) 2 zT3 I I I (by rw[zi1,hM]; exact cM oM oM) I) (.inl dC) ?_;rintro _ _ _ ⟨rfl,rfl⟩;refine pN (bN (tN (rG (lM I (yD I (lA I (nL ?_)))))));exact gA (y+1,(M.set (i * C+y) (atF L C J.length y)).set (J.length * C+y) (atF L C i y * o % p)) sB I I ⟨by dsimp only; omega,by dsimp only; rw[zi1,zi1,hM],hstep⟩ (by dsimp only; omega)
     ·have hyC:y=C:=oM;have hM2:∀ x<R,∀ z<C,atF M C x z=swG p o L C J.length i x z:=fun x hx z hz=>by rw[hMz x hx z hz,zf8 oM]
      clear hMz;have hMp:∀ x<R,∀ z<C,0≤atF M C x z∧atF M C x z<p:=fun x hx z hz=>by
       rw[hM2 x hx z hz];unfold swG;split
       ·exact gy hl.1
       ·exact hLp _ (AO hJr hiR hx) z hz
      refine xI (tX (tX (bX (tN (sQ (rZ (aT I (bK ?_))))))));refine oP (ι:=Nat×List Int) (fun z=>[(1,pp b1 0),(2,pp b2 0),(4,vi p),(5,vi C),(6,pp b6 0),(7,.slice pq (J.map fun j:Nat=>(j:Int)).length pc),(8,vi J.length),(9,vi c),(14,vi z.1)]) (fun _=>g) (fun z=>rowA encInt 3 (.slice pq (J.map fun j:Nat=>(j:Int)).length pc) (J.map fun j:Nat=>(j:Int))::pt b6 (.cells #[vi p,vi R,vi C,.slice (some ⟨b,0,none⟩) (R * C) cE] 147 (0,0))::rowA encInt 3 (.slice (some ⟨b,0,none⟩) (R * C) cE) z.2::pt b2 (.cells #[vi 0,vi 0,vi 0,.slice none 0 0] 147 (0,0))::pt b1 (.cells #[vi p,vi R,vi C,.slice q A.length c0] 147 (0,0))::s) (fun z=>z.1≤R∧z.2.length=R * C∧∀ x<R,∀ y<C,atF z.2 C x y=if x<z.1 then elG p M C J.length c x y else atF M C x y) (fun z=>R - z.1) (0,M) sB I I ⟨zf4 _,hM,fun x _ y _=>by simp⟩ ?_;rintro ⟨k,K⟩ ⟨hk,hK,hKz⟩;dsimp only at hk hK hKz ⊢;refine sQ (sW I (lU (fA aV I zT3 I) (lK (qL (v:=vi R) iT3 I (cO 4 I I)) (yL I (tZ ?_)))));refine iP I (fun hlt3=>?_) (fun hlt3=>?_)
      ·have hkR:k<R:=oM;have hin3:=cM hkR hcC;have gk:=dZ hK hkR hcC;rw[hKz k hkR c hcC,zf7 (Nat.lt_irrefl k)] at gk;have hkc:=hMp k hkR c hcC;generalize hnn:atF M C k c=n at *;refine kP (tN (sQ (bK (rZ (lU (fA aV I aR I) (lK (qL (v:=.slice (some ⟨b,0,none⟩) (R * C) cE) bM I (cO 1 I I)) (lM I (lM I (lU (SU.eq (v':=vi ((k * C:Nat))) (SU.mulW I I) (zd9 vi (by rw[← Int.natCast_mul]; exact zk4 _ oM))) ?_)))))))));refine lM I (lU (SU.eq (v':=vi ((k * C+c:Nat))) (aD I I oM) (zd9 vi oM)) (lU (SU.eq (v':=.pointer (some ⟨b,0+(k * C+c) * 1,none⟩)) (iA ah zT3 I I I oM sL) (bk (by simp only[Int.toNat_natCast]))) ?_));refine lK (eB (j:=k * C+c) iT3 I (zb5 2 I) gk I) (aT I (rZ (aT I (bK ?_))));refine oP (ι:=Nat×List Int) (fun z=>[(1,pp b1 0),(2,pp b2 0),(4,vi p),(5,vi C),(6,pp b6 0),(7,.slice pq (J.map fun j:Nat=>(j:Int)).length pc),(8,vi J.length),(9,vi c),(14,vi k),(15,vi n),(16,vi z.1)]) (fun _=>g) (fun z=>rowA encInt 3 (.slice pq (J.map fun j:Nat=>(j:Int)).length pc) (J.map fun j:Nat=>(j:Int))::pt b6 (.cells #[vi p,vi R,vi C,.slice (some ⟨b,0,none⟩) (R * C) cE] 147 (0,0))::rowA encInt 3 (.slice (some ⟨b,0,none⟩) (R * C) cE) z.2::pt b2 (.cells #[vi 0,vi 0,vi 0,.slice none 0 0] 147 (0,0))::pt b1 (.cells #[vi p,vi R,vi C,.slice q A.length c0] 147 (0,0))::s) (fun z=>z.1≤C∧z.2.length=R * C∧(¬ (k≠J.length∧0<n)→z.1=0)∧∀ x<R,∀ y<C,atF z.2 C x y=if x=k∧y<z.1 then elG p M C J.length c k y else atF K C x y) (fun z=>C - z.1) (0,K) sB I I ⟨zf4 _,hK,fun _=>I,fun x _ y _=>by simp⟩ ?_;rintro ⟨d,N⟩ ⟨hd,hN,hact,hNz⟩;dsimp only at hd hN hact hNz ⊢;by_cases hdC:d<C
       ·by_cases hne:k=J.length
        ·have hna:¬ (k≠J.length∧0<n):=fun q=>q.1 hne;refine sQ (sW I (lM I (lU (SU.eq (v':=vb true) (lS I I) (zd9 vb (zf6 oM))) (lM I (yC I (yC I (lY I I I (SU.eq (v':=vb false) (nQ I I) (zd9 vb (zf5 oM))) (yP I (lM I (yA I (yA I (yF I (tZ (cF I (xI (tX (tX (bX (bN (tN (rG (lM I (yD I (lA I (nL ?_)))))))))))))))))))))))));exact gA (k+1,N) sB I I ⟨by dsimp only; omega,hN,fun x hx z hz=>by
          dsimp only;rw[hNz x hx z hz,hKz x hx z hz];by_cases e:x=k
          ·subst e;rw[zf7 (Nat.lt_irrefl x),zf8 (Nat.lt_succ_self x)]
           first
            | (rw[zf8 ⟨rfl,oM⟩])
            | (rw[zf7 (fun q=>by have:=hact hna; omega)]; unfold elG; rw[zf7 (fun q=>hna ⟨q.1,by rw[← hnn]; exact q.2⟩)])
          ·rw[zf7 (fun q=>e q.1)];by_cases e2:x<k
           ·rw[zf8 e2,zf8 (Nat.lt_succ_of_lt e2)]
           ·rw[zf7 e2,zf7 (show ¬ x<k+1 by omega)]⟩ (by dsimp only; omega)
        ·by_cases hn0:0<n
         ·have hin4:=cM hkR hdC;have hin5:=cM hJr hdC;have g3:=dZ hN hkR hdC;rw[hNz k hkR d hdC,zf7 (fun q=>Nat.lt_irrefl d q.2),hKz k hkR d hdC,zf7 (Nat.lt_irrefl k)] at g3;have hrowat:atF N C J.length d=atF M C J.length d:=by
           rw[hNz _ hJr d hdC,zf7 (fun q=>hne q.1.symm),hKz _ hJr d hdC];unfold elG;split
           ·rw[zf7 fun q=>q.1 rfl]
           ·rfl
          have g4:=dZ hN hJr hdC;rw[hrowat] at g4;have hk1:=hMp k hkR d hdC;have hk2:=hMp J.length hJr d hdC;have hmb:=nS hl.2 (show 0≤p - n by omega) (show p - n<p by omega) hk2.1 hk2.2;have hval:(atF M C k d+(p - n) * atF M C J.length d) % p=elG p M C J.length c k d:=by
           unfold elG;rw[hnn,zf8 ⟨hne,hn0⟩,Int.mul_comm (p - n)]
          have hstep:=Ap (p:=p) (L2:=M) (r:=J.length) (c:=c) hN hkR hdC hNz;refine sQ (sW I (lM I (lU (SU.eq (v':=vb true) (lS I I) (zd9 vb (zf6 oM))) (lM I (yC I (yC I (lY I I I (SU.eq (v':=vb true) (nQ I I) (zd9 vb (zf6 oM))) (yP I (lM I (yC I (lY I I I (SU.eq (v':=vb true) (gR I I) (zd9 vb (zf6 hn0))) (yP I (tZ (cT I (kP (tN (sQ (bK ?_))))))))))))))))));refine dW [33] [(0,2),(1,1),(2,2),(3,2),(4,2),(5,2),(6,2),(7,2),(8,1),(9,2),(10,2),(11,2),(12,2),(13,2),(14,2),(15,1),(16,2),(17,2),(18,2),(19,2),(20,1),(21,2),(22,2),(23,2),(24,2),(25,2),(26,2),(27,1),(28,2),(29,2),(30,2),(31,2),(32,2),(33,0)] ze1 kR ?_;refine pU I (fA aV I aR I) (pK I (qL (v:=.slice (some ⟨b,0,none⟩) (R * C) cE) bM I (cO 1 I I)) (yM I (yM I (pU I (SU.eq (v':=vi ((k * C:Nat))) (SU.mulW I I) (zd9 vi (by rw[← Int.natCast_mul]; exact zk4 _ oM))) ?_))));refine yM I (pU I (SU.eq (v':=vi ((k * C+d:Nat))) (aD I I oM) (zd9 vi oM)) (pU I (fA aV I aR I) (pK I (qL (v:=.slice (some ⟨b,0,none⟩) (R * C) cE) bM I (cO 1 I I)) (yM I (yM I (pU I (SU.eq (v':=vi ((k * C:Nat))) (SU.mulW I I) (zd9 vi (by rw[← Int.natCast_mul]; exact zk4 _ oM))) ?_))))));refine yM I (pU I (SU.eq (v':=vi ((k * C+d:Nat))) (aD I I oM) (zd9 vi oM)) (pU I (SU.eq (v':=.pointer (some ⟨b,0+(k * C+d) * 1,none⟩)) (iA ah zT3 I I I oM sL) (bk (by simp only[Int.toNat_natCast]))) ?_));refine pK I (eB (j:=k * C+d) iT3 I (zb5 2 I) g3 I) (yM I (yM I (pU I (sU I I oM) (pU I (fA aV I aR I) (pK I (qL (v:=.slice (some ⟨b,0,none⟩) (R * C) cE) bM I (cO 1 I I)) (yM I (yM I (pU I (SU.eq (v':=vi ((J.length * C:Nat))) (SU.mulW I I) (zd9 vi (by rw[← Int.natCast_mul]; exact zk4 _ oM))) ?_))))))));refine yM I (pU I (SU.eq (v':=vi ((J.length * C+d:Nat))) (aD I I oM) (zd9 vi oM)) (pU I (SU.eq (v':=.pointer (some ⟨b,0+(J.length * C+d) * 1,none⟩)) (iA ah zT3 I I I oM sL) (bk (by simp only[Int.toNat_natCast]))) ?_));refine pK I (eB (j:=J.length * C+d) iT3 I (zb5 2 I) g4 I) (pU I (SU.eq (v':=vi ((p - n) * atF M C J.length d)) (SU.mulW I I) (zd9 vi (zk4 _ oM))) (pU I (aD I I oM) (yM I (pU I (SU.eq (v':=vi (elG p M C J.length c k d)) (zd5 I I oM) (zd9 vi (by rw[Int.tmod_eq_emod_of_nonneg oM]; exact hval))) ?_))));refine pU I (SU.eq (v':=.pointer (some ⟨b,0+(k * C+d) * 1,none⟩)) (iA ah zT3 I I I oM sL) (bk (by simp only[Int.toNat_natCast]))) ?_;refine SP.on I (sT (e:=encInt) (a:=elG p M C J.length c k d) (j:=k * C+d) 2 zT3 I I I (by rw[hN]; exact cM oM oM) I) (.inl dC) ?_;rintro _ _ _ ⟨rfl,rfl⟩;refine pN (bN (tN (rG (lM I (yD I (lA I (nL ?_)))))));exact gA (d+1,N.set (k * C+d) (elG p M C J.length c k d)) sB I I ⟨by dsimp only; omega,by dsimp only; rw[zi1,hN],fun q=>absurd ⟨hne,hn0⟩ q,hstep⟩ (by dsimp only; omega)
         ·have hna:¬ (k≠J.length∧0<n):=fun q=>hn0 q.2;refine sQ (sW I (lM I (lU (SU.eq (v':=vb true) (lS I I) (zd9 vb (zf6 oM))) (lM I (yC I (yC I (lY I I I (SU.eq (v':=vb true) (nQ I I) (zd9 vb (zf6 oM))) (yP I (lM I (yC I (lY I I I (SU.eq (v':=vb false) (gR I I) (zd9 vb (zf5 hn0))) (yP I (tZ (cF I (xI (tX (tX (bX (bN (tN (rG (lM I (yD I (lA I (nL ?_)))))))))))))))))))))))));exact gA (k+1,N) sB I I ⟨by dsimp only; omega,hN,fun x hx z hz=>by
           dsimp only;rw[hNz x hx z hz,hKz x hx z hz];by_cases e:x=k
           ·subst e;rw[zf7 (Nat.lt_irrefl x),zf8 (Nat.lt_succ_self x)]
            first
             | (rw[zf8 ⟨rfl,oM⟩])
             | (rw[zf7 (fun q=>by have:=hact hna; omega)]; unfold elG; rw[zf7 (fun q=>hna ⟨q.1,by rw[← hnn]; exact q.2⟩)])
           ·rw[zf7 (fun q=>e q.1)];by_cases e2:x<k
            ·rw[zf8 e2,zf8 (Nat.lt_succ_of_lt e2)]
            ·rw[zf7 e2,zf7 (show ¬ x<k+1 by omega)]⟩ (by dsimp only; omega)
       ·have hdC2:d=C:=oM;refine sQ (sW I (lM I (lU (SU.eq (v':=vb false) (lS I I) (zd9 vb (zf5 oM))) (lM I (yA I (yA I (yA I (yF I (lM I (yA I (yA I (yF I (tZ (cF I (xI (tX (tX (bX (bN (tN (rG (lM I (yD I (lA I (nL ?_)))))))))))))))))))))))));exact gA (k+1,N) sB I I ⟨by dsimp only; omega,hN,fun x hx z hz=>by
         dsimp only;rw[hNz x hx z hz,hKz x hx z hz];by_cases e:x=k
         ·subst e;rw[zf7 (Nat.lt_irrefl x),zf8 (Nat.lt_succ_self x)]
          first
           | (rw[zf8 ⟨rfl,oM⟩])
           | (rw[zf7 (fun q=>by have:=hact hna; omega)]; unfold elG; rw[zf7 (fun q=>hna ⟨q.1,by rw[← hnn]; exact q.2⟩)])
         ·rw[zf7 (fun q=>e q.1)];by_cases e2:x<k
          ·rw[zf8 e2,zf8 (Nat.lt_succ_of_lt e2)]
          ·rw[zf7 e2,zf7 (show ¬ x<k+1 by omega)]⟩ (by dsimp only; omega)
      ·have hkk:k=R:=oM;subst hkk;have hpiv:=yx hE hcC hi1 hiR (fun x hx y hy=>(hLp x hx y hy).1) ho2 hM2 (fun x hx y hy=>by rw[hKz x hx y hy,zf8 hx]);refine xI (tX (tX (bX (tN (sW I (lM I (lW (bS sty25 I I I (ab ⟨I,trivial⟩) dC) ?_)))))));rintro _ _ _ ⟨b183,rfl,rfl,rfl⟩;refine lW (aP (e:=encInt) (l:=J.map fun j:Nat=>(j:Int)) 0 (c:Int) sty25 I I I I I (by rw[ze4]; omega) (by rw[ze4]; omega)) ?_;rintro v184 _ _ ⟨rfl,rfl⟩;refine aT I (rG (lM I (lU (SU.eq (v':=vi ((J++[c]).length:Nat)) (aD I I oM) (zd9 vi (by rw[ze3,ze5]; omega))) ?_)));refine lA I (nL (bN (tN (rG (lM I (yD I (lA I (nL ?_))))))));refine ST.to (g':=g) (s':=rowA encInt 3 v184 ((J++[c]).map fun j:Nat=>(j:Int))::pt b6 (.cells #[vi p,vi k,vi C,.slice (some ⟨b,0,none⟩) (k * C) cE] 147 (0,0))::rowA encInt 3 (.slice (some ⟨b,0,none⟩) (k * C) cE) K::pt b2 (.cells #[vi 0,vi 0,vi 0,.slice none 0 0] 147 (0,0))::pt b1 (.cells #[vi p,vi k,vi C,.slice q A.length c0] 147 (0,0))::s) (fun w hw=>by rw[zg3]; exact hw) ?_;exact gA (c+1,K,v184,J++[c]) sB I I ⟨by dsimp only; omega,hK,fun x hx y hy=>by
        dsimp only;rw[hKz x hx y hy,zf8 hx];unfold elG;split
        ·exact gy hl.1
        ·exact hMp x hx y hy,hpiv⟩ (by dsimp only; omega)
   ·have hie:i=R:=oM;refine sQ (sW I (lU (fA aV I zT3 I) (lK (qL (v:=vi R) iT3 I (cO 4 I I)) (lU (SU.eq (v':=vb false) (lS I I) (zd9 vb (zf5 oM))) (lM I (yA I (yA I (yA I (yA I (yA I (yA I (yA I (yA I (yA I (yA I (yF I (tZ (cF I (xI (tX (tX (bX (tN (sQ (rZ ?_)))))))))))))))))))))))));refine lM I (lU (fA aV I zT3 I) (lK (qL (v:=vi R) iT3 I (cO 4 I I)) (lU (SU.eq (v':=vb true) (eQ I I) (zd9 vb (zf6 oM))) (tZ (cT I (xI (tX (bX (tN (rG (lM I (yD I (lA I (nL ?_))))))))))))));exact gA (c+1,L,_,J) sB I I ⟨by dsimp only; omega,hL,hLp,hE.none fun x h1 h2=>by
     rw[hiz x h1 oM];exact .refl _⟩ (by dsimp only; omega)
  ·have hJe:J.length=R:=oM;have hEC:gI p (atF A C) R C (atF L C) J C:=hE.full hJe hc;refine sQ (sW I (lM I (lU (SU.eq (v':=vb true) (lS I I) (zd9 vb (zf6 oM))) (lM I (yC I (lY I I I (fA aV I zT3 I) (SL.gq (gT I I I dC) (qL (v:=vi R) iT3 I (cO 4 I I)) dC (lY I I I (SU.eq (v':=vb false) (lS I I) (zd9 vb (zf5 oM))) (yP I (tZ (cF I (xI (tX (tX (bX (tN (rZ (lK (qV 1 ei br I I I) (lM I (oZ (sK 3 br I I I I I sB) (aT I (rE (fT fun g5 hle5 hs5=>?_)))))))))))))))))))))));exact ST.retCD1 2 s (.inl I) results160 I I ei br I I uR ⟨I,hle5,J,_,_,I,⟨_,_,_,I⟩,hs5,(hEC.rk hp.fld).symm,hJR⟩
 ·have hce:c=C:=oM;have hEC:gI p (atF A C) R C (atF L C) J C:=by rw[← hce]; rw[hce] at hE ⊢; exact hE
  refine sQ (sW I (lM I (lU (SU.eq (v':=vb false) (lS I I) (zd9 vb (zf5 oM))) (lM I (yA I (yA I (yA I (yA I (yF I (tZ (cF I (xI (tX (tX (bX (tN (rZ (lK (qV 1 ei br I I I) (lM I (oZ (sK 3 br I I I I I sB) (aT I (rE (fT fun g5 hle5 hs5=>?_)))))))))))))))))))))));exact ST.retCD1 2 s (.inl I) results160 I I ei br I I uR ⟨I,hle5,J,_,_,I,⟨_,_,_,I⟩,hs5,(hEC.rk hp.fld).symm,hJR⟩
theorem pW (E:World)(g:PH)(s:Own)(v:Value)(p:Int)(hp:Fp p)(R C:Nat)(hR:R≤400)(hC:C≤400)(h0:0<R * C)(A:List Int)(hA:A.length=R * C)(hv:FmR g v p R C A)(hA0:∀ x∈A,0≤x∧x<p) :
  Ctr Tryz.prog E 131 #[v] g s (fun x g' s'=>s=s'∧Le g g'∧∃ (J:List Nat) (m y:Value),x = .tuple #[.agg #[vi p,vi R,vi C,m],y]∧(∃ q n k,m = .slice q n k)∧bC g' y (J.map fun j:Nat=>(j:Int))∧J.length=rk p (atF A C) R C∧J.length≤R):=by
 have hv0:=hv;obtain ⟨q,c0,rfl,hs⟩:=hv;refine za9 (args:=[.agg #[vi p,vi R,vi C,.slice q A.length c0]]) func131 I ntmps131 (bE I) ?_;refine rZ (bW (bO I) fun b1=>?_);refine bW (aL zk6) fun b2=>?_;refine aT I (rZ (lK (qV 1 ei br I I I) (lW (cL call159 I (te E g _ _ p hp R C hR hC A hA hv0 hA0)) ?_)));rintro _ _ _ ⟨rfl,rfl,rfl⟩;refine aT I (sQ (sW I (lU (SU.not I) (tZ (cF I (kP (tN (rZ (lK (qV 1 ei br I I I) (lW (cL call160 I (rK E g _ _ p hp R C hR hC h0 A hA hv0 fun x hx y hy=>hA0 _ (xA hA hx hy))) ?_))))))))));rintro _ g1 _ ⟨rfl,hle1,J,_,y,rfl,⟨mq,mn,mk,rfl⟩,hy1,hJ,hJR⟩;refine yX I (yX I (oZ (sK 0 br I I I I I sB) (aT I (rE ?_))));exact ST.retCD1 0 s (.inl I) results131 I I ei br I I uR ⟨I,hle1,J,_,y,I,⟨mq,mn,mk,I⟩,hy1,hJ,hJR⟩
theorem vJ (E:World)(g:PH)(s:Own)(v:Value)(p:Int)(hp:Fp p)(R C:Nat)(hR:R≤400)(hC:C≤400)(h0:0<R * C)(A:List Int)(hA:A.length=R * C)(hv:FmR g v p R C A)(hA0:∀ x∈A,0≤x∧x<p) :
  Ctr Tryz.prog E 110 #[v] g s (fun x g' s'=>s=s'∧Le g g'∧x=vi (rk p (atF A C) R C:Nat)):=by
 have hv0:=hv;obtain ⟨q,c0,rfl,hs⟩:=hv;refine za9 (args:=[.agg #[vi p,vi R,vi C,.slice q A.length c0]]) func110 I ntmps110 (bE I) ?_;refine rZ (bW (bO I) fun b1=>?_);refine aT I (rZ (lK (qV 0 ei br I I I) (lW (cL call131 I (pW E g _ _ p hp R C hR hC h0 A hA hv0 hA0)) ?_)));rintro _ g1 _ ⟨rfl,hle1,J,_,y,rfl,⟨mq,mn,mk,rfl⟩,hy1,hJ,hJR⟩;obtain ⟨yp,yc,rfl⟩:=za2 hy1;refine lM I (yX I (yX I (bW (aL zk6) fun b3=>?_)));refine oZ (sK 0 br I I I I I sB) (aT I (sW I (lU (SU.eq (v':=vi (rk p (atF A C) R C:Nat)) (eN ah I) (by rw[ze4,hJ])) ?_)));refine aT I (rE (dR (s':=s) uR ?_));exact za6 (.inl I) results110 I ⟨I,hle1,I⟩
theorem zN (E:World)(g:PH)(s:Own)(v:Value)(p:Int)(hp:Fp p)(M:List (List Int))(C:Nat)(hv:ax g v M)(hR:M.length≤400)(hC:C≤400)(hM:∀ r∈M,r.length=C)(h0:0<M.length)(hb:∀ r∈M,∀ x∈r,x.natAbs≤1000000) :
  Ctr Tryz.prog E 111 #[vi p,v] g s (fun x g' s'=>s=s'∧Le g g'∧∃ A,FmR g' x p M.length C A∧A.length=M.length * C∧(∀ y∈A,0≤y∧y<p)∧∀ i<M.length,∀ j<C,atF A C i j=elM M i j % p):=by
 obtain ⟨rs,hrs,hall⟩:=hv;have hlen:=hall.length;have hm:=rY (show rs.length≤400 by omega) hC;have hl:=hp.lt;obtain ⟨q,c,rfl⟩:=za2 hrs;have row:∀ i (hi:i<rs.length),∃ (hi':i<M.length) (rp:Option Addr) (rc:Nat),rs[i]?=some ⟨rp,C,rc⟩∧bC g (.slice rp C rc) M[i]∧M[i].length=C:=fun i hi=>by
  have hi':i<M.length:=oM;have hx:=hM _ (gM hi');have h1:=hall.get (gE hi') (gE hi);have h2:=h1.len;generalize hr:rs[i]=r at *;obtain ⟨rp,rn,rc⟩:=r;dsimp only at h2;have h3:rn=C:=oM;subst h3;exact⟨hi',rp,rc,by rw[← hr]; exact gE hi,h1,hx⟩
 refine za9 (args:=[vi p,.slice q rs.length c]) func111 I ntmps111 (bE I) ?_;refine rZ (bW (aL zk6) fun b4=>?_);refine tZ (rZ (aT I (sQ (rZ (aT I (bK ?_))))));refine oP (ι:=Nat) (fun k=>[(0,vi p),(1,.slice q rs.length c),(4,pp b4 0),(5,vi (if k=0 then 0 else C:Nat)),(6,vi k)]) (fun _=>g) (fun _=>pt b4 (.cells #[vi 0,vi 0,vi 0,.slice none 0 0] 147 (0,0))::s) (fun k=>k≤rs.length) (fun k=>rs.length - k) 0 sB I I (zf4 _) ?_;rintro k hk;refine sQ (sW I (lM I (lU (eN aY I) (yL I (tZ ?_)))));refine iP I (fun hlt=>?_) (fun hlt=>?_)
 ·have hkl:k<rs.length:=oM;obtain ⟨hi',rp,rc,hgr,hxs,hxl⟩:=row k hkl;have hb1:=za4 hrs oM;refine kP (tN (sQ (bK (rG (lM I (lM I (lM I (lU (iA aY aR I I hb1 oM sL) (lK (eB (u:=.slice rp C rc) bM I (za5 hrs) hgr I) (lU (eN ah I) (lU (SU.eq (v':=vi (C:Nat)) (SU.maxF I I) (zd9 vi (by split <;> omega))) ?_)))))))))));refine lA I (nL (bN (tN (rG (lM I (yD I (lA I (nL ?_))))))));exact gA (k+1) ⟨I,I,I,by rw[zf7 (Nat.succ_ne_zero k)]; rfl,rfl,trivial⟩ rfl rfl oM oM
 ·have hkk:k=rs.length:=oM;subst hkk;rw[zf7 oM];refine xI (tX (tX (bX (tN (sW I (lM I (lU (eN aY I) (lM I (lW (cL call132 I (s8 E g _ p hp rs.length C oM hC)) ?_)))))))));rintro _ _ _ ⟨rfl,bz,rfl,rfl⟩;refine bW (aL zk6) fun b7=>?_;refine oZ (sK 0 br I I I I I sB) (tZ (sQ (rZ (aT I (bK ?_)))));refine SC.to (g':=g) (s':=pt b7 (.cells #[vi p,vi rs.length,vi C,.slice (some ⟨bz,0,none⟩) (rs.length * C) (rs.length * C)] 147 (0,0))::rowA encInt 3 (.slice (some ⟨bz,0,none⟩) (rs.length * C) (rs.length * C)) (List.replicate (rs.length * C) 0)::pt b4 (.cells #[vi 0,vi 0,vi 0,.slice none 0 0] 147 (0,0))::s) (fun w hw=>hw) ?_;refine oP (ι:=Nat×List Int) (fun z=>[(0,vi p),(1,.slice q rs.length c),(4,pp b4 0),(5,vi C),(7,pp b7 0),(8,vi z.1)]) (fun _=>g) (fun z=>pt b7 (.cells #[vi p,vi rs.length,vi C,.slice (some ⟨bz,0,none⟩) (rs.length * C) (rs.length * C)] 147 (0,0))::rowA encInt 3 (.slice (some ⟨bz,0,none⟩) (rs.length * C) (rs.length * C)) z.2::pt b4 (.cells #[vi 0,vi 0,vi 0,.slice none 0 0] 147 (0,0))::s) (fun z=>z.1≤rs.length∧z.2.length=rs.length * C∧(∀ y∈z.2,0≤y∧y<p)∧∀ x<z.1,∀ y<C,atF z.2 C x y=elM M x y % p) (fun z=>rs.length - z.1) (0,List.replicate (rs.length * C) 0) sB I I ⟨zf4 _,List.length_replicate,fun y hy=>by rw[(List.mem_replicate.1 hy).2]; omega,fun x hx=>absurd hx (Nat.not_lt_zero x)⟩ ?_;rintro ⟨i,L⟩ ⟨hi,hL,hLp,hz⟩;dsimp only at hi hL hLp hz ⊢;refine sQ (sW I (lU (fA aV I zT3 I) (lK (qL (v:=vi rs.length) iT3 I (cO 0 I I)) (yL I (tZ ?_)))));refine iP I (fun hlt2=>?_) (fun hlt2=>?_)
  ·have hil:i<rs.length:=oM;obtain ⟨hi',rp,rc,hgr,hxs,hxl⟩:=row i hil;have hb1:=za4 hrs oM;have hin1:=jd (C:=C) hil;have hin2:(i+1) * C=i * C+C:=by rw[Nat.add_mul,Nat.one_mul]
   refine kP (tN (sQ (bK (rZ (aT I (bK ?_))))));refine oP (ι:=Nat×List Int) (fun z=>[(0,vi p),(1,.slice q rs.length c),(4,pp b4 0),(5,vi C),(7,pp b7 0),(8,vi i),(9,vi z.1)]) (fun _=>g) (fun z=>pt b7 (.cells #[vi p,vi rs.length,vi C,.slice (some ⟨bz,0,none⟩) (rs.length * C) (rs.length * C)] 147 (0,0))::rowA encInt 3 (.slice (some ⟨bz,0,none⟩) (rs.length * C) (rs.length * C)) z.2::pt b4 (.cells #[vi 0,vi 0,vi 0,.slice none 0 0] 147 (0,0))::s) (fun z=>z.1≤C∧z.2.length=rs.length * C∧(∀ y∈z.2,0≤y∧y<p)∧(∀ x<i,∀ y<C,atF z.2 C x y=elM M x y % p)∧∀ y<z.1,atF z.2 C i y=elM M i y % p) (fun z=>C - z.1) (0,L) sB I I ⟨zf4 _,hL,hLp,hz,fun y hy=>absurd hy (Nat.not_lt_zero y)⟩ ?_;rintro ⟨j,K⟩ ⟨hj,hK,hKp,hz1,hz2⟩;dsimp only at hj hK hKp hz1 hz2 ⊢;refine sQ (sW I (lM I (lM I (lU (iA aY aR I I hb1 oM sL) (lK (eB (u:=.slice rp C rc) bM I (za5 hrs) hgr I) (lU (eN ah I) (yL I (tZ ?_))))))));refine iP I (fun hlt3=>?_) (fun hlt3=>?_)
   ·have hjC:j<C:=oM;have hij:=cM hil hjC;have hb2:=za4 hxs oM;have hjx:j<M[i].length:=oM;have hgk:M[i][((j:Nat):Int).toNat]?=some M[i][j]:=gE hjx;have hel:=o3 hi' hjx;rw[← hel] at hgk;generalize hn:elM M i j=n at *;have hmo:=gy (a:=n) hl.1;have hmw:=CB (n:=n) hl.1 hl.2;refine kP (tN (sQ (bK ?_)));refine dW [19] [(0,2),(1,1),(2,2),(3,2),(4,2),(5,2),(6,2),(7,2),(8,2),(9,2),(10,1),(11,2),(12,2),(13,1),(14,2),(15,2),(16,2),(17,0),(18,2),(19,0)] ze1 kR ?_;refine pU I (fA aV I aR I) (pK I (qL (v:=.slice (some ⟨bz,0,none⟩) (rs.length * C) (rs.length * C)) bM I (cO 0 I I)) (yM I (yM I (pU I (SU.eq (v':=vi ((i * C:Nat))) (SU.mulW I I) (zd9 vi (by rw[← Int.natCast_mul]; exact zk4 _ oM))) ?_))));refine yM I (pU I (SU.eq (v':=vi ((i * C+j:Nat))) (aD I I oM) (zd9 vi oM)) (yM I (yM I (pU I (iA aY aR I I hb1 oM sL) (pK I (eB (u:=.slice rp C rc) bM I (za5 hrs) hgr I) (yM I (pU I (iA ah zT3 I I hb2 oM sL) (pK I (eB iT3 I (za5 hxs) hgk I) (yM I (pU I (zd5 I I oM) (yM I (SP.o I (cL gD I (aK E g _ (n.tmod p) p oM)) dC (.inr iR) ?_))))))))))));rintro _ _ _ ⟨rfl,rfl,rfl⟩;rw[hmw];refine pU I (SU.eq (v':=.pointer (some ⟨bz,0+(i * C+j) * 1,none⟩)) (iA ah zT3 I I I oM sL) (bk (by simp only[Int.toNat_natCast]))) ?_;refine SP.on I (sT (e:=encInt) (a:=n % p) (j:=i * C+j) 1 zT3 I I I (by rw[hK]; exact cM hil hjC) I) (.inl dC) ?_;rintro _ _ _ ⟨rfl,rfl⟩;refine pN (bN (tN (rG (lM I (yD I (lA I (nL ?_)))))));exact gA (j+1,K.set (i * C+j) (n % p)) sB I I ⟨by dsimp only; omega,by dsimp only; rw[zi1,hK],fun y hy=>by
     rcases List.mem_or_eq_of_mem_set hy with h | h
     ·exact hKp y h
     ·rw[h]; exact hmo,fun x hx y hy=>by
     dsimp only;rw[fB hK hil hjC hy,zf7 (fun e=>by omega),hz1 x hx y hy],fun y hy=>by
     dsimp only at hy ⊢;have hyC:y<C:=oM;rw[fB hK hil hjC hyC];by_cases e:j=y
     ·subst e;rw[zf8 ⟨rfl,rfl⟩];rw[hn]
     ·rw[zf7 (fun k=>e k.2),hz2 y oM]⟩ (by dsimp only; omega)
   ·have hjC:j=C:=oM;subst hjC;refine xI (tX (tX (bX (bN (tN (rG (lM I (yD I (lA I (nL ?_))))))))));exact gA (i+1,K) sB I I ⟨by dsimp only; omega,hK,hKp,fun x hx y hy=>by
     dsimp only at hx;by_cases e:x=i
     ·rw[e]; exact hz2 y hy
     ·exact hz1 x oM y hy⟩ (by dsimp only; omega)
  ·have hii:i=rs.length:=oM;subst hii;refine xI (tX (tX (bX (tN (rZ (lK (qV 0 ei br I I I) (oZ (sK 2 br I I I I I sB) (tZ (rE (ST.perm (zj4 _ _ _) (fT fun g5 hle5 hs5=>?_)))))))))));exact ST.retCD 1 s (.inl I) results111 I ei br I I uR ⟨I,hle5,L,⟨some ⟨bz,0,none⟩,rs.length * C,by rw[hL,hlen]; rfl,by rw[hL]; exact hs5⟩,by rw[hL,hlen],hLp,fun x hx y hy=>hz x oM y hy⟩
end Go.Proofs.YtcfkpajlakidbaaGreat
