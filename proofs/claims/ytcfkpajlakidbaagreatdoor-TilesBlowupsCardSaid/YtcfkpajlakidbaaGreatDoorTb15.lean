/-
  For every complex that numbers make, and for tiles that numbers make, changed or not, Check, Blowup and Project return what the reference returns.
-/
import Derived.Test.YtcfkpajlakidbaaGreatDoorTb14
import Derived.Test.YtcfkpajlakidbaaGreatDoorTb10
import Derived.Test.YtcfkpajlakidbaaGreatDoorTb08
import Derived.Test.YtcfkpajlakidbaaGreatDoorTb13
import Derived.Test.YtcfkpajlakidbaaGreatDoorTb06
import Derived.Test.YtcfkpajlakidbaaGreatDoorTb07
import Derived.Test.YtcfkpajlakidbaaGreatDoorTb11
import Derived.Test.YtcfkpajlakidbaaGreatDoorTb12
import Derived.Test.YtcfkpajlakidbaaGreatDoorTb09
import Derived.Test.YtcfkpajlakidbaaGreatDoorTie
import Derived.Test.YtcfkpajlakidbaaGreatDoorCards
import Derived.JoinedOf
import Derived.LaidMore
import Derived.Lay
import Derived.SevenTiedAt
import Derived.Stop.Joined
set_option linter.unusedSimpArgs false
set_option linter.unusedVariables false
namespace Go.Proofs.YtcfkpajlakidbaaGreatDoor
open _root_.Go.Proofs.Tryz _root_.Go.Proofs.YtcfkpajlakidbaaGreatDoor.Tryz
open Go Go.Sy Go.Pl Go.Proofs
set_option maxRecDepth 100000
set_option maxHeartbeats 2000000
theorem BM (m:Nat)(h:m<1099511627776):IntKind.i64.wrap ((m:Int).tdiv 2)=((m / 2:Nat):Int):=by
 rw[Int.tdiv_eq_ediv_of_nonneg oM];have:((m:Int) / 2)=((m / 2:Nat):Int):=oM;rw[this];exact zk5 _ oM
theorem zZ:∀ m,m<64→onesB m=m % 2+onesB (m / 2):=by decide +kernel
theorem wg:∀ m,m<64→onesB m≤6:=by decide +kernel
theorem f9 (E:World)(g:PH)(s:Own)(n:Nat)(hn:n<64):Ctr Tryz.prog E 76 #[vi n] g s (fun r g' s'=>r=vi (onesB n)∧g=g'∧s=s'):=by
 have h6:=wg n hn;refine za9 (args:=[vi n]) func76 I ntmps76 (bE I) ?_;refine rZ (aT I (rZ (aT I (sQ (bK ?_)))));refine oP (ι:=Nat×Nat) (fun z=>[(0,vi z.1),(3,vi z.2)]) (fun _=>g) (fun _=>s) (fun z=>z.1<64∧z.2+onesB z.1=onesB n) (fun z=>z.1) (n,0) sB I I ⟨hn,Nat.zero_add _⟩ ?_;rintro ⟨m,acc⟩ ⟨hm,hac⟩;dsimp only at hm hac ⊢;refine sQ (sW I (lU (gR I I) (tZ ?_)));refine iP I (fun hgt=>?_) (fun hgt=>?_)
 ·have hst:=zZ m hm;refine kP (tN (bK (sW I (lM I (lU (SU.eq (v':=vi (m % 2:Nat)) (zd6 I I dC) (zd9 vi (Int.ofNat_tmod m 2).symm)) (lU (SU.eq (v':=vi (acc+m % 2:Nat)) (aD I I oM) (zd9 vi oM)) (aT I (rG (lM I (lU (SU.eq (v':=vi (m / 2:Nat)) (SU.quo I I dC) (zd9 vi (BM m oM))) (lA I (nL (bN ?_)))))))))))));exact gA (m / 2,acc+m % 2) sB I I ⟨by dsimp only; omega,by dsimp only; omega⟩ (by dsimp only; omega)
 ·have hm0:m=0:=oM;subst hm0;have h0:onesB 0=0:=by decide
  rw[h0,Nat.add_zero] at hac;refine xI (tX (tX (bX (tN (sW I (aT I (rE ?_)))))));exact za6 (.inl I) results76 I ⟨by rw[hac],I,I⟩
def eP (L:List Cl)(T:List (List Int)):List Int:=L.map fun c=>((tlB L 0 T c.id:Nat):Int)
def s8 (L:List Cl)(T:List (List Int))(i k:Nat):List Int:=(L.take k).map (fun c=>((tlB L 0 (T.take (i+1)) c.id:Nat):Int))++(L.drop k).map fun c=>((tlB L 0 (T.take i) c.id:Nat):Int)
theorem Du {α:Type}(A:List α)(x y:α)(B:List α){k:Nat}(hk:A.length=k):(A++x::B).set k y=A++y::B:=by
 rw[← hk,List.set_append_right _ _ (lR _),Nat.sub_self];rfl
theorem Dv {α:Type}(A:List α)(x:α)(B:List α){k:Nat}(hk:A.length=k):(A++x::B)[k]?=some x:=by
 rw[← hk,zh1 (lR _),Nat.sub_self];rfl
theorem DK {L:List Cl}(hn:(L.map Cl.id).Nodup)(q:Cl→Bool){k:Nat}{x:Cl}(hx:L[k]?=some x) :
  (q x=true→((L.filter q).map Cl.id)[((L.take k).filter q).length]?=some x.id)∧(q x=false→((L.filter q).map Cl.id)[((L.take k).filter q).length]?≠some x.id):=by
 have hk:=(zf3.1 hx).1;have e:L=L.take k++x::L.drop (k+1):=by
  conv=>lhs; rw[← zi8 k L]
  rw[zg4 hk,(zf3.1 hx).2]
 have e2:L.filter q=(L.take k).filter q++(x::L.drop (k+1)).filter q:=by
  conv=>lhs; rw[e]
  rw[zh4]
 rw[zh7,e2,zh1 (lR _),Nat.sub_self];constructor
 ·intro h;rw[List.filter_cons_of_pos h];rfl
 ·intro h;rw[List.filter_cons_of_neg (by rw[h]; simp)];cases hf:(L.drop (k+1)).filter q with
  | nil=>simp
  | cons z r =>
   have hz:z∈L.drop (k+1):=(zh2.1 (by rw[hf]; simp:z∈(L.drop (k+1)).filter q)).1;rw[e,zg3,List.nodup_append,zg2,zj6] at hn;intro k2;have k2:z.id=x.id:=by simpa using k2
   exact hn.2.1.1 (by rw[← k2]; exact ze9.2 ⟨z,hz,I⟩)
theorem mh (E:World)(g:PH)(s:Own)(v tv:Value)(l:List Cl)(T:List (List Int))(hv:ao g v l)(hf:cU l)(ht:aH g tv T)(hT:T.length≤6)(hTl:∀ t∈T,t.length<1099511627776 - fv (ae l) []) :
  Ctr Tryz.prog E 71 #[.agg #[v],tv] g s (fun r g' s'=>s=s'∧Le g g'∧bZ g' r (eP (ae l) T)):=by
 obtain ⟨vp,vc,rfl⟩:=hv.form;obtain ⟨ts,hts,hallt⟩:=ht;obtain ⟨tp,tc,rfl⟩:=za2 hts;have htl:=hallt.length;have hft:=eY hf;have hnd:=fB l;have hcl:=fun t=>iw l t;refine za9 (args:=[.agg #[.slice vp l.length vc],.slice tp ts.length tc]) func71 I ntmps71 (bE I) ?_;refine rZ (bW (bO I) fun b2=>?_);refine aT I (rZ (lK (qV 0 aY ar I I I) (lW (cL call67 I (ct E g _ _ l hv hf)) ?_)));rintro v12 g1 _ ⟨rfl,hle1,rs,hrs,hallr⟩;obtain ⟨rp,rc,rfl⟩:=za2 hrs;have hrl:=hallr.length;have hlf:=hft.1;refine aT I (sW I (lU (eN az I) (lW (mK encInt 0 sty25 I I I oM oM) ?_)));rintro _ _ _ ⟨b15,rfl,rfl,rfl⟩;refine aT I (sQ (rZ (aT I (bK ?_))));have h00:List.replicate rs.length (0:Int)=eP (ae l) (T.take 0):=by
  unfold eP;rw[← hrl,eq_comm,List.eq_replicate_iff];exact⟨by rw[ze4],fun b hb=>by obtain ⟨c,_,rfl⟩:=ze9.1 hb; rfl⟩
 rw[h00];generalize hLd:ae l=L at *;refine oP (ι:=Nat×PH) (fun z=>[(1,.slice tp ts.length tc),(2,pp b2 0),(5,.slice rp rs.length rc),(6,.slice (some ⟨b15,0,none⟩) rs.length rs.length),(7,vi z.1)]) (fun z=>z.2) (fun z=>rowA encInt 3 (.slice (some ⟨b15,0,none⟩) rs.length rs.length) (eP L (T.take z.1))::pt b2 (.cells #[.slice vp l.length vc] 31 (0,0))::s) (fun z=>z.1≤ts.length∧Le g1 z.2) (fun z=>ts.length - z.1) (0,g1) sB I I ⟨zf4 _,zb7 _⟩ ?_;rintro ⟨i,g2⟩ ⟨hi,hle2⟩;dsimp only at hi hle2 ⊢;refine sQ (sW I (lM I (lU (eN br I) (yL I (tZ ?_)))));refine iP I (fun hlt=>?_) (fun hlt=>?_)
 ·have hit:i<ts.length:=oM;have hiT:i<T.length:=oM;have hbt:=za4 hts oM;have hgt:ts[((i:Nat):Int).toNat]?=some ts[i]:=gE hit;have hR:=hallt.get (gE hiT) (gE hit);have htm:=hTl _ (gM hiT);have htk:T.take (i+1)=T.take i++[T[i]]:=tS hiT;have htil:(T.take i).length=i:=by rw[ze2]; omega
  generalize T[i]=t at *;generalize ts[i]=r at *;obtain ⟨p1,n1,c1⟩:=r;have hR:bZ g (.slice p1 n1 c1) t:=hR;have hll:=hle1.trans hle2;refine kP (tN (sQ (bK (sQ ?_))));refine dW [] [(0,1),(1,2),(2,2),(3,2),(4,1),(5,0),(6,2)] ze1 kR ?_;refine pK I (qV 1 aY ar I I I) (yM I (yM I (pU I (iA br bP I I hbt oM sL) (pK I (eB (u:=.slice p1 n1 c1) dG I (za5 (za3 hts hll)) hgt I) (SP.o I (cL call117 I (oJ E g2 _ _ _ l t (hv.mono hll) hf (za3 hR hll) (by rw[hLd]; omega))) dC (.inr iR) ?_)))));rintro v27 g3 _ ⟨rfl,hle3,hC⟩;rw[hcl t] at hC;obtain ⟨cp,cc,rfl⟩:=za2 hC;refine pU I (aS I) (pN (tN (rZ (aT I (rZ (aT I (bK ?_)))))));generalize hqd:(fun c:Cl=>(cQ L t).contains c.id)=q at *;have hq1:∀ c:Cl,(cQ L t).contains c.id=q c:=fun c=>by rw[← hqd]
  generalize hCl:(L.filter q).map Cl.id=C at *;have hstep:∀ c:Cl,((tlB L 0 (T.take (i+1)) c.id:Nat):Int)=((tlB L 0 (T.take i) c.id+if q c=true then 2 ^ i else 0:Nat):Int):=fun c=>by
   rw[htk,ud,hq1,htil,Nat.zero_add]
  refine oP (ι:=Nat) (fun k=>[(1,.slice tp ts.length tc),(2,pp b2 0),(5,.slice rp rs.length rc),(6,.slice (some ⟨b15,0,none⟩) rs.length rs.length),(7,vi i),(8,.slice cp C.length cc),(9,vi ((L.take k).filter q).length),(10,vi k)]) (fun _=>g3) (fun k=>rowA encInt 3 (.slice (some ⟨b15,0,none⟩) rs.length rs.length) (s8 L T i k)::pt b2 (.cells #[.slice vp l.length vc] 31 (0,0))::s) (fun k=>k≤rs.length) (fun k=>rs.length - k) 0 sB I I (zf4 _) ?_;rintro k hk;refine sQ (sW I (lM I (lU (eN az I) (yL I (tZ ?_)))));refine iP I (fun hlt2=>?_) (fun hlt2=>?_)
  ·have hkr:k<rs.length:=oM;have hkL:k<L.length:=oM;have hLk:L[k]?=some L[k]:=gE hkL;have hbr:=za4 hrs oM;have hgr:rs[((k:Nat):Int).toNat]?=some rs[k]:=gE hkr;have hRc:=hallr.get hLk (gE hkr);have hmk:=DK hnd q hLk;rw[hCl] at hmk;have hA:(L.take k).length=k:=by rw[ze2]; omega
   have hfl:((L.take k).filter q).length≤L.length:=zk3 (zc3 _ _) (by rw[hA]; omega);have hcur:s8 L T i k=(L.take k).map (fun c=>((tlB L 0 (T.take (i+1)) c.id:Nat):Int))++((tlB L 0 (T.take i) L[k].id:Nat):Int)::(L.drop (k+1)).map fun c=>((tlB L 0 (T.take i) c.id:Nat):Int):=by
    unfold s8;rw[zg4 hkL,zg2]
   have hnext:s8 L T i (k+1)=(L.take k).map (fun c=>((tlB L 0 (T.take (i+1)) c.id:Nat):Int))++((tlB L 0 (T.take (i+1)) L[k].id:Nat):Int)::(L.drop (k+1)).map fun c=>((tlB L 0 (T.take i) c.id:Nat):Int):=by
    unfold s8;rw[tS hkL,zg3,zg6];rfl
   have hfn:(L.take (k+1)).filter q=(L.take k).filter q++if q L[k]=true then [L[k]] else []:=by
    rw[tS hkL,zh4,zi4];rfl
   have hsk:=hstep L[k];have hold:tlB L 0 (T.take i) L[k].id<2 ^ i:=by have:=ld L L[k].id (T.take i); rwa [htil] at this
   have hal:((L.take k).map fun c=>((tlB L 0 (T.take (i+1)) c.id:Nat):Int)).length=k:=by rw[ze4,hA]
   generalize L[k]=x at *;generalize tlB L 0 (T.take i) x.id=w0 at *;generalize rs[k]=r at *;obtain ⟨r1,r2,⟨r3,r4,r5⟩⟩:=r;obtain ⟨hx1,-,-⟩:=hRc;dsimp only at hx1;rw[hcur];generalize hj:((L.take k).filter q).length=j at *;by_cases hjC:j<C.length
   ·have hgC:C[((j:Nat):Int).toNat]?=some C[j]:=gE hjC;have hbC:=za4 hC oM;have hiff:C[j]=x.id↔q x=true:=by
     rw[show ((j:Nat):Int).toNat=j from rfl] at hgC;constructor
     ·intro e;cases hq:q x with
      | true=>rfl
      | false=>exact absurd (by rw[hgC,e]) (hmk.2 hq)
     ·intro hq;have:=hmk.1 hq;rw[hgC] at this;exact Option.some.inj this
    refine kP (tN (sQ (bK (sQ ?_))));refine dW [] [(0,2),(1,2),(2,2),(3,2),(4,2),(5,2),(6,2),(7,2),(8,1),(9,2),(10,2),(11,2),(12,2),(13,1),(14,2),(15,2)] ze1 kR ?_;refine yM I (yM I (pU I (eN ak I) (pU I (SU.eq (v':=vb true) (lS I I) (zd9 vb (zf6 oM))) (yM I (yJ I (yJ I (zb1 I (gT I I I dC) (iA ak zT3 I I hbC oM sL) dC (SP.gq I (gT I I I dC) (eB iT3 I (za5 hC) hgC I) dC (yJ I (yJ I (zb1 I (gT I I I dC) (iA az aw I I hbr oM sL) dC (zb1 I (gT I I I dC) (fC am I zT3 I hbr) dC (SP.gq I (gT I I I dC) (aZ (e:=encCell) (o:=0) (u:=vi r1) iT3 I (za5 (za3 hrs (hle2.trans hle3))) hgr I) dC (zb1 I (gT I I I dC) (eQ I I) dC (pU I (wT I I) (pN (tN ?_)))))))))))))))));refine iQ I (fun heq=>?_) (fun heq=>?_)
    ·have hq:q x=true:=hiff.1 (by rw[← hx1]; exact zg1 heq);rw[hq,zf8 rfl] at hsk;rw[zf8 hq] at hfn;have hget:=Dv ((L.take k).map fun c=>((tlB L 0 (T.take (i+1)) c.id:Nat):Int)) ((w0:Nat):Int) ((L.drop (k+1)).map fun c=>((tlB L 0 (T.take i) c.id:Nat):Int)) hal;have hset:=Du ((L.take k).map fun c=>((tlB L 0 (T.take (i+1)) c.id:Nat):Int)) ((w0:Nat):Int) ((w0+2 ^ i:Nat):Int) ((L.drop (k+1)).map fun c=>((tlB L 0 (T.take i) c.id:Nat):Int)) hal;rw[← hsk,← hnext,hsk] at hset;have h64:=qR (n:=i) oM;refine sQ ?_;refine dW [10] [(0,2),(1,2),(2,2),(3,2),(4,2),(5,1),(6,2),(7,2),(8,2),(9,2),(10,0)] ze1 kR ?_;refine yM I (yM I (yM I (yM I (pU I (iA ak zT3 I I I oM sL) (pK I (eB iT3 I (zb5 (e:=encInt) 0 I) hget I) (yM I (pU I (SU.eq (v':=vi (2 ^ i:Nat)) (SU.shl I I oM) (zd9 vi (lf i oM))) (pU I (SU.eq (v':=vi (w0+2 ^ i:Nat)) (SU.or I I) (zd9 vi (Ct i oM w0 oM hold))) (pU I (SU.eq (v':=.pointer (some ⟨b15,0+k * 1,none⟩)) (iA ak zT3 I I I oM sL) I) (SP.on I (sT (e:=encInt) (a:=((w0+2 ^ i:Nat):Int)) (j:=k) 0 zT3 I I I (by rw[ze3,hal,ze6]; omega) I) (.inl dC) ?_))))))))));rintro _ _ _ ⟨rfl,rfl⟩;rw[hset];refine pN (tN (rG (lM I (yD I (lA I (nL (bN (tN (rG (lM I (yD I (lA I (nL ?_)))))))))))));exact gA (k+1) ⟨I,I,I,I,I,I,by rw[hfn,ze3,hj]; rfl,rfl,trivial⟩ rfl rfl oM oM
    ·have hq:q x=false:=by
      cases hq:q x with
      | false=>rfl
      | true=>exact absurd (by rw[hx1]; exact hiff.2 hq) (of_decide_eq_false heq)
     have hsk:((tlB L 0 (T.take (i+1)) x.id:Nat):Int)=((w0:Nat):Int):=by rw[hsk,hq]; simp
     rw[zf7 (by rw[hq]; simp),zc4] at hfn;rw[← hsk,← hnext];refine kP (bN (tN (rG (lM I (yD I (lA I (nL ?_)))))));exact gA (k+1) ⟨I,I,I,I,I,I,by rw[hfn,hj]; rfl,rfl,trivial⟩ rfl rfl oM oM
   ·have hq:q x=false:=by
     cases hq:q x with
     | false=>rfl
     | true =>
      have:=hmk.1 hq;rw[List.getElem?_eq_none oM] at this;cases this
    have hsk:((tlB L 0 (T.take (i+1)) x.id:Nat):Int)=((w0:Nat):Int):=by rw[hsk,hq]; simp
    rw[zf7 (by rw[hq]; simp),zc4] at hfn;rw[← hsk,← hnext];refine kP (tN (sQ (bK (sQ ?_))));refine dW [] [(0,2),(1,2),(2,2),(3,2),(4,2),(5,2),(6,2),(7,2),(8,1),(9,2),(10,2),(11,2),(12,2),(13,1),(14,2),(15,2)] ze1 kR ?_;refine yM I (yM I (pU I (eN ak I) (pU I (SU.eq (v':=vb false) (lS I I) (zd9 vb (zf5 oM))) (yM I (yG I (yG I (yG I (yI I (yG I (yG I (yG I (yG I (yI I (yG I (pU I (wF I I) (pN (tN (cF I (kP (bN (tN (rG (lM I (yD I (lA I (nL ?_))))))))))))))))))))))))));exact gA (k+1) ⟨I,I,I,I,I,I,by rw[hfn,hj]; rfl,rfl,trivial⟩ rfl rfl oM oM
  ·have hke:k=rs.length:=oM;subst hke;have hM:s8 L T i rs.length=eP L (T.take (i+1)):=by
    unfold s8 eP;rw[← hrl,List.take_length,List.drop_length,List.map_nil,zc4]
   rw[hM];refine xI (tX (tX (bX (bN (tN (rG (lM I (yD I (lA I (nL ?_))))))))));exact gA (i+1,g3) sB I I ⟨by dsimp only; omega,hle2.trans hle3⟩ (by dsimp only; omega)
 ·have hie:i=T.length:=oM;subst hie;rw[List.take_length];refine fS fun g3 hle3 hs3=>?_;refine xI (tX (tX (bX (tN (sW I (aT I (rE (dR (s':=s) uR ?_))))))));have hsl:(eP L T).length=rs.length:=by unfold eP; rw[ze4,hrl]
  exact za6 (.inl I) results71 I ⟨I,hle1.trans (hle2.trans hle3),by unfold bZ SlA; rw[← hsl] at hs3 ⊢; exact hs3⟩
theorem Dp {l:List Cl}{T:List (List Int)}(h1:(aU l).2=0)(h2:T.length≤6){t:List Int}(ht:t∈T){x:Int}(hx:x∈t)(hf:(aG (ae l) x).isSome=false):bU l T=30:=by
 unfold bU;rw[zf7 (by rw[h1]; simp),zf7 oM,zf8];exact zj4.2 ⟨t,ht,zj4.2 ⟨x,hx,by cases h:aG (ae l) x <;> simp_all⟩⟩
theorem zY {l:List Cl}{T:List (List Int)}(h1:(aU l).2=0)(h2:T.length≤6)(h3:∀ t∈T,∀ x∈t,(aG (ae l) x).isSome=true):bU l T=if (ae l).any (fun c=>decide (tlB (ae l) 0 T c.id=0))=true then 45 else 0:=by
 unfold bU;rw[zf7 (by rw[h1]; simp),zf7 oM,zf7];intro h;obtain ⟨t,ht,h⟩:=zj4.1 h;obtain ⟨x,hx,h⟩:=zj4.1 h;have:=h3 t ht x hx;cases h:aG (ae l) x <;> simp_all
theorem mg (E:World)(g:PH)(s:Own)(v tv:Value)(l:List Cl)(T:List (List Int))(hv:ao g v l)(hf:cU l)(ht:aH g tv T)(hT:T.length<1099511627776)(hTl:∀ t∈T,t.length<1099511627776 - fv (ae l) []) :
  Ctr Tryz.prog E 27 #[.agg #[v],tv] g s (fun r g' s'=>r=vi (bU l T)∧s=s'∧Le g g'):=by
 obtain ⟨vp,vc,rfl⟩:=hv.form;have hck:=fg l;obtain ⟨ts,hts,hallt⟩:=id ht;obtain ⟨tp,tc,rfl⟩:=za2 hts;have htl:=hallt.length;refine za9 (args:=[.agg #[.slice vp l.length vc],.slice tp ts.length tc]) func27 I ntmps27 (bE I) ?_;refine rZ (bW (bO I) fun b2=>?_);refine aT I (rZ (lK (qV 0 aY ar I I I) (lW (cL call69 I (kU E g _ _ l hv hf)) ?_)));rintro _ g1 _ ⟨rfl,rfl,hle1⟩;rw[hck];refine lM I (yX I (yX I (lA I (aT I (sQ (sW I (lU (nQ I I) (tZ ?_))))))));refine iP I (fun hne=>?_) (fun hne=>?_)
 ·have he:bU l T=(aU l).2:=by unfold bU; rw[zf8 hne]
  refine sW I (aT I (rE (tR (dR (s':=s) uR ?_))));exact za6 (.inl I) results27 I ⟨by rw[he]; rfl,rfl,hle1⟩
 ·have hc0:(aU l).2=0:=zg7 hne;refine kP (tN (sQ (sW I (lU (eN br I) (lU (gR I I) (tZ ?_))))));refine iP I (fun h6=>?_) (fun h6=>?_)
  ·have he:bU l T=2:=by unfold bU; rw[zf7 hne,zf8 oM]
   refine rZ (aT I (rE (tR (dR (s':=s) uR ?_))));exact za6 (.inl I) results27 I ⟨by rw[he],I,hle1⟩
  ·have hT6:T.length≤6:=oM;refine kP (tN (sQ (rZ (aT I (bK ?_)))));refine oP (ι:=Nat×PH) (fun z=>[(1,.slice tp ts.length tc),(2,pp b2 0),(7,vi z.1)]) (fun z=>z.2) (fun _=>pt b2 (.cells #[.slice vp l.length vc] 31 (0,0))::s) (fun z=>z.1≤ts.length∧Le g1 z.2∧∀ t∈T.take z.1,∀ x∈t,(aG (ae l) x).isSome=true) (fun z=>ts.length - z.1) (0,g1) sB I I ⟨zf4 _,zb7 _,by simp⟩ ?_;rintro ⟨i,g2⟩ ⟨hi,hle2,hgood⟩;dsimp only at hi hle2 hgood ⊢;refine sQ (sW I (lM I (lU (eN br I) (yL I (tZ ?_)))));refine iP I (fun hlt=>?_) (fun hlt=>?_)
   ·have hit:i<ts.length:=oM;have hiT:i<T.length:=oM;have hbt:=za4 hts oM;have hgt:ts[((i:Nat):Int).toNat]?=some ts[i]:=gE hit;have hR:=hallt.get (gE hiT) (gE hit);have htm:=hTl _ (gM hiT);have htT:T[i]∈T:=gM hiT;have htk:T.take (i+1)=T.take i++[T[i]]:=tS hiT;generalize T[i]=t at *;generalize ts[i]=r at *;obtain ⟨p1,n1,c1⟩:=r;have hR:bZ g (.slice p1 n1 c1) t:=hR;have hn1:=(SlA.cap hR).1;subst hn1;refine kP (tN (sQ (bK (rZ (aT I (bK ?_))))));refine oP (ι:=Nat×PH) (fun z=>[(1,.slice tp ts.length tc),(2,pp b2 0),(7,vi i),(8,vi z.1)]) (fun z=>z.2) (fun _=>pt b2 (.cells #[.slice vp l.length vc] 31 (0,0))::s) (fun z=>z.1≤t.length∧Le g2 z.2∧∀ x∈t.take z.1,(aG (ae l) x).isSome=true) (fun z=>t.length - z.1) (0,g2) sB I I ⟨zf4 _,zb7 _,by simp⟩ ?_;rintro ⟨j,g3⟩ ⟨hj,hle3,hgd⟩;dsimp only at hj hle3 hgd ⊢;have hl3:=hle1.trans (hle2.trans hle3);refine sQ (sW I (lM I (lM I (lU (iA br bP I I hbt oM sL) (lK (eB (u:=.slice p1 t.length c1) dG I (za5 (za3 hts hl3)) hgt I) (lU (eN ak I) (yL I (tZ ?_))))))));refine iP I (fun hlt2=>?_) (fun hlt2=>?_)
    ·have hjt:j<t.length:=oM;have hbx:=za4 hR oM;have hgx:t[((j:Nat):Int).toNat]?=some t[j]:=gE hjt;have hxt:t[j]∈t:=gM hjt;have htk2:t.take (j+1)=t.take j++[t[j]]:=tS hjt;generalize t[j]=x at *;have hv3:=hv.mono hl3;have hR3:=za3 hR hl3;refine kP (tN (sQ (bK ?_)));refine SC.cut (ι:=Nat×PH×Obj) (fun z=>[(1,.slice tp ts.length tc),(2,pp b2 0),(7,vi i),(8,vi j),(10,vb (aG (ae l) x).isSome)]) (fun z=>z.2.1) (fun z=>pt z.1 z.2.2::pt b2 (.cells #[.slice vp l.length vc] 31 (0,0))::s) (fun z=>Le g3 z.2.1) ?_ ?_
     ·refine SC.drawX [13] ze1 kR ?_;refine SX.q (i:=0) I kR (qV 0 aY ar I I I) dC (SX.u (i:=1) I kR (mV I) dC (SX.u (i:=2) I kR (mV I) dC (SX.u (i:=3) I kR (iA br bP I I hbt oM sL) dC (SX.q (i:=4) I kR (eB (u:=.slice p1 t.length c1) dG I (za5 (za3 hts hl3)) hgt I) dC (SX.u (i:=5) I kR (mV I) dC (SX.u (i:=6) I kR (iA ak zT3 I I hbx oM sL) dC (SX.q (i:=7) I kR (eB iT3 I (za5 hR3) hgx I) dC ?_)))))))
      repeat' (first
       | (refine SB.o (i:=8) I (cL call70 I (mi E g3 _ _ l x hv3 hf)) dC (.inr iR) ?_; rintro _ g4 _ ⟨rfl,hle4,⟨f1,f2,⟨f3,f4,f5⟩⟩,rfl,-⟩; refine SX.u (i:=9) I kD (mV I) dC ?_; refine SX.u (i:=10) I kD (xT I I) dC ?_; refine SX.u (i:=11) I kD (xT I I) dC ?_)
       | (refine SB.o (i:=8) I (cL call70 I (mi E g3 _ _ l x hv3 hf)) dC (.inr iR) ?_; rintro _ g4 _ ⟨rfl,hle4,⟨f1,f2,⟨f3,f4,f5⟩⟩,rfl,-⟩; refine SX.u (i:=9) I kD (mV I) dC ?_; refine SX.u (i:=10) I kD (xT I I) dC ?_; refine SX.u (i:=11) I kD (xT I I) dC ?_)
       | (refine SB.o (i:=12) I (aL zk9) dC (.inr iR) ?_; rintro _ _ _ ⟨b9,rfl,rfl,rfl⟩)
       | (refine SB.o (i:=12) I (aL zk9) dC (.inr iR) ?_; rintro _ _ _ ⟨b9,rfl,rfl,rfl⟩)
       | (refine SB.on (i:=13) I (sK 0 aw I I I I I sB) (.inl dC) ?_; rintro _ _ _ ⟨rfl,rfl⟩; refine SX.u (i:=14) I kD (aS I) dC ?_)
       | refine zd5 8 12 kD ?_ ?_
       | refine zd4 12 kD ?_
       | refine zd4 13 kD ?_
       | refine zd4 8 kD ?_
       | (refine SX.nil kD ?_; exact za7 (b9,g4,_) sB I I hle4))
     rintro ⟨b9,g4,o9⟩ hle4;dsimp only at hle4 ⊢;refine sW I (lU (SU.not I) (tZ ?_));refine iQ I (fun hfd=>?_) (fun hfd=>?_)
     ·have hfd:(aG (ae l) x).isSome=false:=by simpa using hfd
      refine rZ (aT I (rE (bR (tR (tR (bR (bR (tR (tR (bR (tR (dR (s':=s) uR ?_))))))))))));exact za6 (.inl I) results27 I ⟨by rw[Dp hc0 hT6 htT hxt hfd],I,hl3.trans hle4⟩
     ·have hfd:(aG (ae l) x).isSome=true:=by simpa using hfd
      refine kP (bN (tN (rG (lM I (yD I (lA I (nL (dR (.cons _ (.refl _)) ?_))))))));exact gA (j+1,g4) sB I I ⟨by dsimp only; omega,hle3.trans hle4,fun z hz=>by
       dsimp only at hz;rw[htk2] at hz
       rcases zf1.1 hz with h | h
       ·exact hgd z h
       ·rw[zh5.1 h]; exact hfd⟩ (by dsimp only; omega)
    ·have hje:j=t.length:=oM;subst hje;rw[List.take_length] at hgd;refine xI (tX (tX (bX (bN (tN (rG (lM I (yD I (lA I (nL ?_))))))))));exact gA (i+1,g3) sB I I ⟨by dsimp only; omega,hle2.trans hle3,fun u hu=>by
      dsimp only at hu;rw[htk] at hu
      rcases zf1.1 hu with h | h
      ·exact hgood u h
      ·rw[zh5.1 h]; exact hgd⟩ (by dsimp only; omega)
   ·have hie:i=T.length:=oM;rw[hie,List.take_length] at hgood;have hrest:=zY hc0 hT6 hgood;have hl2:=hle1.trans hle2;refine xI (tX (tX (bX (tN (rZ (lK (qV 0 aY ar I I I) (lM I (lW (cL call71 I (mh E g2 _ _ _ l T (hv.mono hl2) hf (ht.mono hl2) hT6 hTl)) ?_))))))));rintro v55 g3 _ ⟨rfl,hle3,hS⟩;obtain ⟨sp,sc,rfl⟩:=za2 hS;refine aT I (sQ (rZ (aT I (bK ?_))));have hLf:=(eY hf).1;generalize ae l=L at *;have hSl:(eP L T).length=L.length:=by unfold eP; rw[ze4]
    refine oP (ι:=Nat) (fun k=>[(11,.slice sp (eP L T).length sc),(12,vi k)]) (fun _=>g3) (fun _=>pt b2 (.cells #[.slice vp l.length vc] 31 (0,0))::s) (fun k=>k≤L.length∧∀ c∈L.take k,tlB L 0 T c.id≠0) (fun k=>L.length - k) 0 sB I I ⟨zf4 _,by simp⟩ ?_;rintro k ⟨hk,hnz⟩;refine sQ (sW I (lM I (lU (eN ak I) (yL I (tZ ?_)))));refine iP I (fun hlt2=>?_) (fun hlt2=>?_)
    ·have hkL:k<L.length:=oM;have hgk:(eP L T)[((k:Nat):Int).toNat]?=some ((tlB L 0 T L[k].id:Nat):Int):=by
      unfold eP;rw[show ((k:Nat):Int).toNat=k from rfl,zh7,gE hkL];rfl
     have hbS:=za4 hS oM;have hcm:L[k]∈L:=gM hkL;have htk2:L.take (k+1)=L.take k++[L[k]]:=tS hkL;generalize L[k]=c at *;refine kP (tN (sQ (bK (sW I (lM I (lU (iA ak zT3 I I hbS oM sL) (lK (eB iT3 I (za5 hS) hgk I) (yE I (tZ ?_)))))))));refine iP I (fun hz=>?_) (fun hz=>?_)
     ·have he:bU l T=45:=by rw[hrest,zf8 (zj4.2 ⟨c,hcm,zf6 oM⟩)]
      refine rZ (aT I (rE (bR (tR (tR (bR (tR (dR (s':=s) uR ?_))))))));exact za6 (.inl I) results27 I ⟨by rw[he],I,hl2.trans hle3⟩
     ·refine kP (bN (tN (rG (lM I (yD I (lA I (nL ?_)))))));exact gA (k+1) sB I I ⟨oM,fun d hd=>by
       rw[htk2] at hd
       rcases zf1.1 hd with h | h
       ·exact hnz d h
       ·rw[zh5.1 h]; omega⟩ oM
    ·have hke:k=L.length:=oM;rw[hke,List.take_length] at hnz;have he:bU l T=0:=by
      rw[hrest,zf7];rw[zj3,zj9];intro c hc;simpa using hnz c hc
     refine xI (tX (tX (bX (tN (rZ (aT I (rE (dR (s':=s) uR ?_))))))));exact za6 (.inl I) results27 I ⟨by rw[he],I,hl2.trans hle3⟩
set_option maxHeartbeats 4000000
def kY (b k:Nat):List Nat:=(List.range k).filter fun s=>decide (0<s)&&decide (s &&& b=s)
theorem zI {n b:Nat}(hn:n≤6)(hb:b<2 ^ n):kY b (2 ^ n)=i4 b:=by
 have key:∀ n,n<7→∀ b,b<2 ^ n→kY b (2 ^ n)=i4 b:=by decide +kernel
 exact key n oM b hb
theorem wW (b k:Nat):kY b (k+1)=kY b k++if 0<k∧k &&& b=k then [k] else []:=by
 unfold kY;rw[List.range_succ,zh4,zi4];congr 1;by_cases h:0<k∧k &&& b=k
 ·rw[zf8 h,zf8 (by simp[h.1,h.2])]; rfl
 ·rw[zf7 h,zf7]
  ·rfl
  ·simpa using h
theorem DN {a b:Nat}(ha:a<64)(hb:b<64):IntKind.i64.wrap (BitVec.ofInt IntKind.i64.bits ((a:Nat):Int) &&& BitVec.ofInt IntKind.i64.bits ((b:Nat):Int)).toNat=((a &&& b:Nat):Int):=by
 have key:∀ a,a<64→∀ b,b<64→IntKind.i64.wrap (BitVec.ofInt IntKind.i64.bits ((a:Nat):Int) &&& BitVec.ofInt IntKind.i64.bits ((b:Nat):Int)).toNat=((a &&& b:Nat):Int):=by decide +kernel
 exact key a ha b hb
def cntB (s b:Nat):Nat:=((List.range b).filter fun k=>s.testBit k).length
theorem B4:∀ s,s<64→∀ b,b<6→(s.testBit b=true→(cW s).getD (cntB s b) 0=b∧cntB s b<(cW s).length∧cntB s (b+1)=cntB s b+1)∧(s.testBit b=false→cntB s (b+1)=cntB s b):=by decide +kernel
theorem DD:∀ n,n<7→∀ s,s<2 ^ n→cntB s n=onesB s:=by decide +kernel
theorem Ex:∀ s,s<64→∀ b,b<6→IntKind.i64.wrap (BitVec.ofInt IntKind.i64.bits (((s:Nat):Int).fdiv (2 ^ min ((b:Nat):Int).toNat IntKind.i64.bits)) &&& BitVec.ofInt IntKind.i64.bits 1).toNat=if s.testBit b then 1 else 0:=by decide +kernel
theorem ue {k n:Nat}(hk:k≤4000)(hn:n≤6):IntKind.i64.wrap (((k:Nat):Int) * 2 ^ min ((n:Nat):Int).toNat IntKind.i64.bits)=((k * 2 ^ n:Nat):Int):=by
 have h1:min ((n:Nat):Int).toNat IntKind.i64.bits=n:=by
  have:IntKind.i64.bits=64:=rfl;rw[this,Int.toNat_natCast];omega
 have h2:k * 2 ^ n≤4000 * 64:=Nat.mul_le_mul hk (qR hn);have h3:((k:Nat):Int) * 2 ^ n=((k * 2 ^ n:Nat):Int):=by rw[Int.natCast_mul,Int.natCast_pow]; rfl
 rw[h1,h3];exact zk5 _ oM
theorem Tryz.buildQ64 (a d:Int)(w:World):(Instr.build 64 #[(0,vi a),(1,vi d)]).run Tryz.prog w = .ok (.agg #[vi a,vi d,.slice none 0 0]) w:=by
 have h1:∀ n,(vi n).cells = #[vi n]:=fun _=>rfl;simp[Instr.build,Instr.fill,h1];rfl
def qS (L:List Cl)(T:List (List Int))(i:Nat):List Cl:=(L.zipIdx.take i).flatMap fun q=>(i4 (tlB L 0 T q.1.id)).map (j7 L T.length q.2 q.1)
theorem xN {L:List Cl}{T:List (List Int)}{i:Nat}{y:Cl}(h:L[i]?=some y):qS L T (i+1)=qS L T i++(i4 (tlB L 0 T y.id)).map (j7 L T.length i y):=by
 have hi:=(zf3.1 h).1;have hz:i<L.zipIdx.length:=by rw[List.length_zipIdx]; exact hi
 unfold qS;rw[tS hz,List.flatMap_append,List.getElem_zipIdx,(zf3.1 h).2];simp
theorem Aw (L:List Cl)(T:List (List Int)):qS L T L.length=j6 L T:=by
 unfold qS j6;rw[tL (by rw[List.length_zipIdx]; exact lR _)]
theorem y9 {α β:Type}{f:α→List β}{m:Nat}:∀ {q:List α},(∀ x∈q,(f x).length≤m)→(q.flatMap f).length≤q.length * m
 | [],_=>by simp
 | x::q,h=>by
  have h1:=h x (by simp);have h2:=y9 (q:=q) fun z hz=>h z (by simp[hz]);rw[zh3,ze3,ze6,Nat.succ_mul];omega
theorem zw {n i m k:Nat}(h:k≤m):bId n i m - ((k:Nat):Int)=bId n i (m - k):=by
 unfold bId;omega
theorem Ew:∀ s,s<64→∀ b,b<6→s.testBit b=true→2 ^ b≤s:=by decide +kernel
theorem Ec (z:Int)(h:0≤z):IntKind.i64.wrap (1 - IntKind.i64.wrap (2 * z.tmod 2))=sgP z:=by
 rw[Int.tmod_eq_emod_of_nonneg h,zk5 (2 * (z % 2)) oM,zk5 _ oM];rfl
theorem xR (E:World)(g:PH)(s:Own)(v tv:Value)(l:List Cl)(T:List (List Int))(hv:ao g v l)(hf:cU l)(ht:aH g tv T)(hT6:T.length≤6)(hTl:∀ t∈T,t.length<1099511627776 - fv (ae l) [])(hRt:Rt (ae l)) :
  Ctr Tryz.prog E 73 #[.agg #[v],tv] g s (fun r g' s'=>s=s'∧Le g g'∧∃ u,r = .agg #[u]∧ao g' u (dz (ae l) T)):=by
 obtain ⟨vp,vc,rfl⟩:=hv.form;obtain ⟨ts,hts,hallt⟩:=id ht;obtain ⟨tp,tc,rfl⟩:=za2 hts;have htl:=hallt.length;have hp64:=qR hT6;have hbf:=e6 hRt hT6;refine za9 (args:=[.agg #[.slice vp l.length vc],.slice tp ts.length tc]) func73 I ntmps73 (bE I) ?_;refine rZ (bW (bO I) fun b2=>?_);refine bW (aL zk8) fun b4=>?_;refine tZ (rZ (lK (qV 1 aY ar I I I) (lW (cL call67 I (ct E g _ _ l hv hf)) ?_)));rintro v17 g1 _ ⟨rfl,hle1,rs,hrs,hallr⟩;obtain ⟨rp,rc,rfl⟩:=za2 hrs;have hrl:=hallr.length;refine aT I (rZ (lK (qV 1 aY ar I I I) (lM I (lW (cL call71 I (mh E g1 _ _ _ l T (hv.mono hle1) hf (ht.mono hle1) hT6 hTl)) ?_))));rintro v20 g2 _ ⟨rfl,hle2,hS⟩;obtain ⟨sp,sc,rfl⟩:=za2 hS;refine aT I (sW I (lU (eN br I) (aT I (rZ (bW (aL zk8) fun b8=>?_)))));refine tZ (sQ (rZ (aT I (bK ?_))));have hSl:(eP (ae l) T).length=(ae l).length:=by unfold eP; rw[ze4]
 have hLf:=hRt.few;generalize hLd:ae l=L at *;refine zb4 64 3 ?_;refine oP (ι:=Nat×PH×Value×List Rc) (fun z=>[(2,pp b2 0),(4,pp b4 0),(5,.slice rp rs.length rc),(6,.slice sp (eP L T).length sc),(7,vi ts.length),(8,pp b8 0),(9,vi z.1)]) (fun z=>z.2.1) (fun z=>rowA encCell 64 z.2.2.1 z.2.2.2::pt b8 (.cells #[z.2.2.1] 31 (0,0))::pt b4 (.cells #[.slice none 0 0] 31 (0,0))::pt b2 (.cells #[.slice vp l.length vc] 31 (0,0))::s) (fun z=>z.1≤L.length∧Le g2 z.2.1∧au (aq z.2.1) (qS L T z.1) z.2.2.2) (fun z=>L.length - z.1) (0,g2,.slice none 0 0,[]) sB I I ⟨zf4 _,zb7 _,trivial⟩ ?_;rintro ⟨i,g3,ov,acc⟩ ⟨hi,hle3,hacc⟩;dsimp only at hi hle3 hacc ⊢;refine sQ (sW I (lM I (lU (eN az I) (yL I (tZ ?_)))));refine iP I (fun hlt=>?_) (fun hlt=>?_)
 ·have hiL:i<L.length:=oM;have hir:i<rs.length:=oM;have hLi:L[i]?=some L[i]:=gE hiL;have hbr:=za4 hrs oM;have hgr:rs[((i:Nat):Int).toNat]?=some rs[i]:=gE hir;have hR:=hallr.get hLi (gE hir);have hds:=xN (T:=T) hLi;have hbS:=za4 hS oM;have hgS:(eP L T)[((i:Nat):Int).toNat]?=some ((tlB L 0 T L[i].id:Nat):Int):=by
   unfold eP;rw[show ((i:Nat):Int).toNat=i from rfl,zh7,hLi];rfl
  have hb2:=ld L L[i].id T;have hfm:=hRt.form _ (gM hiL);generalize L[i]=y at *;generalize rs[i]=r at *;generalize tlB L 0 T y.id=bb at *;obtain ⟨ri,rd,⟨yp,yn,yc⟩⟩:=r;obtain ⟨hyi,hyd,hys⟩:=hR;dsimp only at hyi hyd hys;have hyn:=(SlA.cap hys).1;subst hyi hyd hyn;refine kP (tN (sQ (bK (rZ (aT I (bK ?_))))));refine oP (ι:=Nat×PH×Value×List Rc) (fun z=>[(2,pp b2 0),(4,pp b4 0),(5,.slice rp rs.length rc),(6,.slice sp (eP L T).length sc),(7,vi ts.length),(8,pp b8 0),(9,vi i),(10,vi z.1)]) (fun z=>z.2.1) (fun z=>rowA encCell 64 z.2.2.1 z.2.2.2::pt b8 (.cells #[z.2.2.1] 31 (0,0))::pt b4 (.cells #[.slice none 0 0] 31 (0,0))::pt b2 (.cells #[.slice vp l.length vc] 31 (0,0))::s) (fun z=>1≤z.1∧z.1≤2 ^ T.length∧Le g3 z.2.1∧au (aq z.2.1) (qS L T i++(kY bb z.1).map (j7 L T.length i y)) z.2.2.2) (fun z=>2 ^ T.length - z.1) (1,g3,ov,acc) sB I I ⟨lR _,Nat.one_le_two_pow,zb7 _,by
   dsimp only;rw[show kY bb 1=[] from rfl,List.map_nil,zc4];exact hacc⟩ ?_
  rintro ⟨m,g4,ov2,ac2⟩ ⟨hm1,hm2,hle4,hac2⟩;dsimp only at hm1 hm2 hle4 hac2 ⊢;refine sQ (sW I (lM I (lU (SU.eq (v':=vi (2 ^ T.length:Nat)) (SU.shl I I oM) (zd9 vi (by rw[← htl]; exact lf T.length oM))) ?_)));refine yL I (tZ ?_);refine iP I (fun hlt2=>?_) (fun hlt2=>?_)
  ·have hm64:m<64:=oM;have hsr:=wW bb m;refine kP (tN (sQ (bK (sQ (sW I (lM I (lM I (lU (iA ak zT3 I I hbS oM sL) (lK (eB iT3 I (za5 (za3 hS (hle3.trans hle4))) hgS I) (lU (SU.eq (v':=vi (m &&& bb:Nat)) (SU.and I I) (zd9 vi (DN hm64 oM))) (lM I (lU (nQ I I) (tZ ?_)))))))))))));refine iP I (fun hno=>?_) (fun hno=>?_)
   ·have hsr1:kY bb (m+1)=kY bb m:=by rw[hsr,zf7 oM,zc4]
    refine xI (tX (bX (tN (rG (lM I (yD I (lA I (nL ?_))))))));exact gA (m+1,g4,ov2,ac2) sB I I ⟨by dsimp only; omega,by dsimp only; omega,hle4,by dsimp only; rw[hsr1]; exact hac2⟩ (by dsimp only; omega)
   ·have hmb:m &&& bb=m:=oM;have hsr1:kY bb (m+1)=kY bb m++[m]:=by rw[hsr,zf8 ⟨oM,hmb⟩]
    have ho6:=wg m hm64;have hdim:=hfm.dim;have hin:i * 2 ^ T.length≤4000 * 64:=Nat.mul_le_mul oM hp64;have hle24:=hle2.trans (hle3.trans hle4);have hrs4:=za3 hrs hle24;have hys4:=za3 hys hle24;refine kP (tN ?_);refine SC.cut (ι:=Nat) (fun b=>[(2,pp b2 0),(4,pp b4 0),(5,.slice rp rs.length rc),(6,.slice sp (eP L T).length sc),(7,vi ts.length),(8,pp b8 0),(9,vi i),(10,vi m),(11,pp b 0)]) (fun _=>g4) (fun b=>pt b (.cells #[vi (bId T.length i m),vi (y.dim+(onesB m:Nat) - 1),.slice none 0 0] 64 (0,0))::rowA encCell 64 ov2 ac2::pt b8 (.cells #[ov2] 31 (0,0))::pt b4 (.cells #[.slice none 0 0] 31 (0,0))::pt b2 (.cells #[.slice vp l.length vc] 31 (0,0))::s) (fun _=>True) ?_ ?_
    ·refine SC.drawX [16] ze1 kR ?_;refine SX.u (i:=0) I kR (mV I) dC (SX.u (i:=1) I kR (mV I) dC (SX.u (i:=2) I kR (SU.eq (v':=vi (i * 2 ^ T.length:Nat)) (SU.shl I I oM) (zd9 vi (by rw[← htl]; exact ue oM hT6))) dC ?_));refine SX.u (i:=3) I kR (mV I) dC (SX.u (i:=4) I kR (SU.eq (v':=vi (bId T.length i m)) (aD I I oM) (zd9 vi (by unfold bId; omega))) dC ?_);refine SX.u (i:=5) I kR (mV I) dC (SX.u (i:=6) I kR (mV I) dC (SX.u (i:=7) I kR (iA az aw I I hbr oM sL) dC (SX.u (i:=8) I kR (fC am I zT3 I hbr) dC (SX.q (i:=9) I kR (aZ (e:=encCell) (o:=1) (u:=vi y.dim) iT3 I (za5 hrs4) hgr I) dC (SX.u (i:=10) I kR (mV I) dC ?_)))))
     repeat' (first
      | (refine SB.o (i:=11) I (cL call76 I (f9 E _ _ m hm64)) dC (.inr iR) ?_; rintro _ _ _ ⟨rfl,rfl,rfl⟩; refine SX.u (i:=12) I kD (aD I I oM) dC ?_; refine SX.u (i:=13) I kD (sU I I oM) dC ?_; refine SX.u (i:=14) I kD (za1 I (buildQ64 _ _)) dC ?_)
      | (refine SB.o (i:=11) I (cL call76 I (f9 E _ _ m hm64)) dC (.inr iR) ?_; rintro _ _ _ ⟨rfl,rfl,rfl⟩; refine SX.u (i:=12) I kD (aD I I oM) dC ?_; refine SX.u (i:=13) I kD (sU I I oM) dC ?_; refine SX.u (i:=14) I kD (za1 I (buildQ64 _ _)) dC ?_)
      | (refine SB.o (i:=15) I (aL zk9) dC (.inr iR) ?_; rintro _ _ _ ⟨b11,rfl,rfl,rfl⟩)
      | (refine SB.on (i:=16) I (sK 0 aw I I I I I sB) (.inl dC) ?_; rintro _ _ _ ⟨rfl,rfl⟩)
      | refine zd5 11 15 kD ?_ ?_
      | refine zd4 15 kD ?_
      | refine zd4 16 kD ?_
      | refine zd4 11 kD ?_
      | (refine SX.nil kD ?_; exact za7 b11 sB I I trivial))
    rintro b11 -;try dsimp only
    refine sQ (rZ (aT I (bK (zb4 67 2 ?_))));refine oP (ι:=Nat×Value) (fun z=>[(2,pp b2 0),(4,pp b4 0),(5,.slice rp rs.length rc),(6,.slice sp (eP L T).length sc),(7,vi ts.length),(8,pp b8 0),(9,vi i),(10,vi m),(11,pp b11 0),(12,vi z.1)]) (fun _=>g4) (fun z=>rowA encSide 67 z.2 ((y.sides.take z.1).map (gN L T.length m))::pt b11 (.cells #[vi (bId T.length i m),vi (y.dim+(onesB m:Nat) - 1),z.2] 64 (0,0))::rowA encCell 64 ov2 ac2::pt b8 (.cells #[ov2] 31 (0,0))::pt b4 (.cells #[.slice none 0 0] 31 (0,0))::pt b2 (.cells #[.slice vp l.length vc] 31 (0,0))::s) (fun z=>z.1≤y.sides.length) (fun z=>y.sides.length - z.1) (0,.slice none 0 0) sB I I (zf4 _) ?_;rintro ⟨j,zv⟩ hj;dsimp only at hj ⊢;have hs64:=mW hfm;refine sQ (sW I (lM I (lM I (lU (iA az aw I I hbr oM sL) (lU (fC am I aX I hbr) (lK (aZ (e:=encCell) (o:=2) (u:=.slice yp y.sides.length yc) bH I (za5 hrs4) hgr I) (lU (eN bF I) (yL I (tZ ?_)))))))));refine iP I (fun hlt3=>?_) (fun hlt3=>?_)
    ·have hjl:j<y.sides.length:=oM;have hby:=za4 hys oM;have hgj:y.sides[((j:Nat):Int).toNat]?=some y.sides[j]:=gE hjl;have htk:(y.sides.take (j+1)).map (gN L T.length m)=(y.sides.take j).map (gN L T.length m)++[gN L T.length m y.sides[j]]:=by rw[tS hjl,zg3]; rfl
     obtain ⟨d,hd,-⟩:=hfm.found _ (gM hjl);have hsg:=hfm.sg _ (gM hjl);generalize y.sides[j]=x at *;obtain ⟨hdL,hdi⟩:=cV hd;have hix:=hRt.ix_get hdL;rw[hdi] at hix;have hixl:=(zf3.1 hix).1;refine kP (tN (sQ (bK (rZ (aT I (sQ (bK ?_)))))));refine oP (ι:=Nat) (fun k=>[(2,pp b2 0),(4,pp b4 0),(5,.slice rp rs.length rc),(6,.slice sp (eP L T).length sc),(7,vi ts.length),(8,pp b8 0),(9,vi i),(10,vi m),(11,pp b11 0),(12,vi j),(13,vi k)]) (fun _=>g4) (fun _=>rowA encSide 67 zv ((y.sides.take j).map (gN L T.length m))::pt b11 (.cells #[vi (bId T.length i m),vi (y.dim+(onesB m:Nat) - 1),zv] 64 (0,0))::rowA encCell 64 ov2 ac2::pt b8 (.cells #[ov2] 31 (0,0))::pt b4 (.cells #[.slice none 0 0] 31 (0,0))::pt b2 (.cells #[.slice vp l.length vc] 31 (0,0))::s) (fun k=>k≤ixB L x.cell) (fun k=>ixB L x.cell - k) 0 sB I I (zf4 _) ?_;rintro k hk;have hkL:k<L.length:=oM;have hkr:k<rs.length:=oM;have hgk:rs[((k:Nat):Int).toNat]?=some rs[k]:=gE hkr;have hRk:=hallr.get (gE hkL) (gE hkr);have hkx:=hRt.ix (gE hkL);have hgL:L[k]?=some L[k]:=gE hkL;generalize L[k]=ck at *;generalize rs[k]=rk at *;obtain ⟨k1,k2,⟨k3,k4,k5⟩⟩:=rk;obtain ⟨hk1,-,-⟩:=hRk;dsimp only at hk1;refine sQ (sQ ?_);refine dW [] [(0,2),(1,2),(2,2),(3,2),(4,1),(5,2),(6,2),(7,2),(8,2),(9,1),(10,2),(11,2),(12,2),(13,1),(14,2)] ze1 kR ?_;refine yM I (yM I (pU I (iA az aw I I hbr oM sL) (pU I (fC am I zT3 I hbr) (pK I (aZ (e:=encCell) (o:=0) (u:=vi k1) iT3 I (za5 hrs4) hgk I) (yM I (yM I (pU I (iA az aw I I hbr oM sL) (pU I (fC am I aX I hbr) (pK I (aZ (e:=encCell) (o:=2) (u:=.slice yp y.sides.length yc) bH I (za5 hrs4) hgr I) (yM I (pU I (iA bF bJ I I hby oM sL) ?_)))))))))));refine pU I (fC de I zT3 I hby) (pK I (aZ (e:=encSide) (o:=0) (u:=vi x.cell) iT3 I (za5 hys4) hgj I) (pU I (nQ I I) (pN (tN ?_))));refine iP I (fun hne=>?_) (fun hne=>?_)
     ·have hki:k<ixB L x.cell:=by
       rcases Nat.lt_or_ge k (ixB L x.cell) with h | h
       ·exact h
       ·have:k=ixB L x.cell:=oM;rw[this,hix] at hgL;injection hgL with hgL
        exact absurd (by rw[hk1,← hgL,hdi]) hne
      refine kP (tN (bK (rG (lM I (yD I (lA I (nL (bN ?_))))))));exact gA (k+1) sB I I oM oM
     ·have hkk:k=ixB L x.cell:=by
       rw[← hkx,← hk1,zg7 hne]
      have hkn:k * 2 ^ T.length≤4000 * 64:=Nat.mul_le_mul oM hp64;have hsid:(⟨bId T.length k m,x.sign⟩:aj)=gN L T.length m x:=by rw[hkk]; rfl
      have hmj:((y.sides.take j).map (gN L T.length m)).length=j:=by rw[ze4,ze2]; omega
      refine xI (tX (tX (bX (tN ?_))));refine dW [18,20] [(0,2),(1,1),(2,2),(3,2),(4,2),(5,2),(6,2),(7,2),(8,2),(9,2),(10,2),(11,1),(12,2),(13,2),(14,2),(15,1),(16,2),(17,0),(18,0),(19,2),(20,0)] ze1 kR ?_;refine pU I (fA am I aX I) (pK I (qL (v:=zv) bH I (cO 1 I I)) (yM I (yM I (pU I (SU.eq (v':=vi (k * 2 ^ T.length:Nat)) (SU.shl I I oM) (zd9 vi (by rw[← htl]; exact ue oM hT6))) ?_))));refine yM I (pU I (SU.eq (v':=vi (bId T.length k m)) (aD I I oM) (zd9 vi (by unfold bId; omega))) ?_);refine yM I (yM I (pU I (iA az aw I I hbr oM sL) (pU I (fC am I aX I hbr) (pK I (aZ (e:=encCell) (o:=2) (u:=.slice yp y.sides.length yc) bH I (za5 hrs4) hgr I) (yM I (pU I (iA bF bJ I I hby oM sL) ?_))))));refine pU I (fC de I zT3 I hby) (pK I (aZ (e:=encSide) (o:=1) (u:=vi x.sign) iT3 I (za5 hys4) hgj I) (pU I (za1 I (buildS67 _ _)) (SP.o I (bS sty62 I I I (ab ⟨I,trivial⟩) dC) dC (.inr iR) ?_)));rintro _ _ _ ⟨b102,rfl,rfl,rfl⟩;refine SP.o I (aP (e:=encSide) (l:=(y.sides.take j).map (gN L T.length m)) 0 (⟨bId T.length k m,x.sign⟩:aj) sty62 I I I I I oM oM) dC (.inl dC) ?_;rintro v103 _ _ ⟨rfl,rfl⟩;rw[hsid,← htk];refine zc9 fun ⟨w0,hw0⟩=>?_;obtain ⟨q103,d103,rfl⟩:=ag (e:=encSide) (l:=(y.sides.take (j+1)).map (gN L T.length m)) (i:=0) hw0 rfl;clear hw0 w0;refine pU I (fA am I aX I) (SP.on I (SO.store1 1 aX I I I I (by show 2<3; decide) I) (.inl dC) ?_);rintro _ _ _ ⟨rfl,rfl⟩;refine pN (bN (tN (rG (lM I (yD I (lA I (nL ?_)))))));exact gA (j+1,_) sB I I (by dsimp only; omega) (by dsimp only; omega)
    ·have hje:j=y.sides.length:=oM;subst hje;rw[List.take_length];refine xI (tX (tX (bX (tN (rZ (aT I ?_))))));have hc0:cntB m 0=0:=rfl;refine SC.cut (ι:=Value) (fun _=>[(2,pp b2 0),(4,pp b4 0),(5,.slice rp rs.length rc),(6,.slice sp (eP L T).length sc),(7,vi ts.length),(8,pp b8 0),(9,vi i),(10,vi m),(11,pp b11 0)]) (fun _=>g4) (fun zv=>rowA encSide 67 zv (iI L T.length i y m)::pt b11 (.cells #[vi (bId T.length i m),vi (y.dim+(onesB m:Nat) - 1),zv] 64 (0,0))::rowA encCell 64 ov2 ac2::pt b8 (.cells #[ov2] 31 (0,0))::pt b4 (.cells #[.slice none 0 0] 31 (0,0))::pt b2 (.cells #[.slice vp l.length vc] 31 (0,0))::s) (fun _=>True) ?_ ?_
     ·refine rZ (aT I (bK ?_));refine oP (ι:=Nat×Value) (fun z=>[(2,pp b2 0),(4,pp b4 0),(5,.slice rp rs.length rc),(6,.slice sp (eP L T).length sc),(7,vi ts.length),(8,pp b8 0),(9,vi i),(10,vi m),(11,pp b11 0),(14,vi (cntB m z.1)),(15,vi z.1)]) (fun _=>g4) (fun z=>rowA encSide 67 z.2 (y.sides.map (gN L T.length m)++((cW m).zipIdx.take (cntB m z.1)).map (oB T.length i m y.dim))::pt b11 (.cells #[vi (bId T.length i m),vi (y.dim+(onesB m:Nat) - 1),z.2] 64 (0,0))::rowA encCell 64 ov2 ac2::pt b8 (.cells #[ov2] 31 (0,0))::pt b4 (.cells #[.slice none 0 0] 31 (0,0))::pt b2 (.cells #[.slice vp l.length vc] 31 (0,0))::s) (fun z=>z.1≤T.length∧(onesB m≤1→z.1=0)) (fun z=>T.length - z.1) (0,zv) sB I (by dsimp only; rw[hc0,List.take_zero,List.map_nil,zc4]) ⟨zf4 _,fun _=>I⟩ ?_;rintro ⟨b,zv2⟩ ⟨hb,hb0⟩;dsimp only at hb hb0 ⊢;by_cases hbn:b<T.length
      ·obtain ⟨c1,c2⟩:=B4 m hm64 b oM;refine sQ (sW I (lM I (lU (SU.eq (v':=vb true) (lS I I) (zd9 vb (zf6 oM))) (lM I (yC I (SL.go (gT I I I dC) (cL call76 I (f9 E g4 _ m hm64)) dC ?_))))));rintro _ _ _ ⟨rfl,rfl,rfl⟩;refine lY I I I (gR I I) (yP I (tZ ?_));refine iP I (fun hone=>?_) (fun hone=>?_)
       ·refine kP (tN (sQ (bK (sW I (lM I (lU (SU.shr I I oM) (lU (SU.eq (v':=vi (if m.testBit b then 1 else 0)) (SU.and I I) (zd9 vi (Ex m hm64 b oM))) (yE I (tZ ?_)))))))));refine iP I (fun hbit=>?_) (fun hbit=>?_)
        ·have htb:m.testBit b=true:=by
          cases h:m.testBit b with
          | true=>rfl
          | false=>rw[h] at hbit; simp at hbit
         obtain ⟨e1,e2,e3⟩:=c1 htb;have h2b:=Ew m hm64 b oM htb;have hmz:m - 2 ^ b≤m:=Nat.sub_le _ _;have hz:cntB m b<(cW m).zipIdx.length:=by rw[List.length_zipIdx]; exact e2
         have hgb:(cW m)[cntB m b]=b:=by
          rw[zg8,gE e2] at e1;exact e1
         have htk:(y.sides.map (gN L T.length m)++((cW m).zipIdx.take (cntB m (b+1))).map (oB T.length i m y.dim))=(y.sides.map (gN L T.length m)++((cW m).zipIdx.take (cntB m b)).map (oB T.length i m y.dim))++[(⟨bId T.length i (m - 2 ^ b),sgP (((cntB m b:Nat):Int)+y.dim)⟩:aj)]:=by
          rw[e3,tS hz,zg3,zg6,List.getElem_zipIdx,hgb,Nat.zero_add];rfl
         have hln:(y.sides.map (gN L T.length m)++((cW m).zipIdx.take (cntB m b)).map (oB T.length i m y.dim)).length≤80:=by
          rw[ze3,ze4,ze4,ze2];have:(cW m).length=onesB m:=rfl;omega
         have hcn:cntB m b≤6:=by
          have:(cW m).length=onesB m:=rfl;omega
         generalize hSb:(y.sides.map (gN L T.length m)++((cW m).zipIdx.take (cntB m b)).map (oB T.length i m y.dim))=Sb at *;refine sQ ?_;refine dW [22,24] [(0,2),(1,1),(2,2),(3,2),(4,2),(5,2),(6,2),(7,2),(8,2),(9,2),(10,2),(11,2),(12,2),(13,2),(14,2),(15,1),(16,2),(17,2),(18,2),(19,2),(20,2),(21,0),(22,0),(23,2),(24,0)] ze1 kR ?_;refine pU I (fA am I aX I) (pK I (qL (v:=zv2) bH I (cO 1 I I)) (yM I (yM I (pU I (SU.eq (v':=vi (i * 2 ^ T.length:Nat)) (SU.shl I I oM) (zd9 vi (by rw[← htl]; exact ue oM hT6))) ?_))));refine yM I (pU I (SU.eq (v':=vi (bId T.length i m)) (aD I I oM) (zd9 vi (by unfold bId; omega))) ?_);refine yM I (pU I (SU.eq (v':=vi (2 ^ b:Nat)) (SU.shl I I oM) (zd9 vi (lf b oM))) (pU I (SU.eq (v':=vi (bId T.length i (m - 2 ^ b))) (sU I I (by rw[zw h2b]; generalize m - 2 ^ b=z at hmz; unfold bId; omega)) (zd9 vi (zw h2b))) ?_));refine yM I (yM I (yM I (pU I (iA az aw I I hbr oM sL) (pU I (fC am I zT3 I hbr) (pK I (aZ (e:=encCell) (o:=1) (u:=vi y.dim) iT3 I (za5 hrs4) hgr I) (pU I (aD I I oM) (pU I (zd6 I I dC) (pU I (SU.mulW I I) (pU I (SU.eq (v':=vi (sgP (((cntB m b:Nat):Int)+y.dim))) (SU.subW I I) (zd9 vi (Ec _ oM))) (pU I (za1 I (buildS67 _ _)) (SP.o I (bS sty62 I I I (ab ⟨I,trivial⟩) dC) dC (.inr iR) ?_)))))))))));rintro _ _ _ ⟨b141,rfl,rfl,rfl⟩;refine SP.o I (aP (e:=encSide) (l:=Sb) 0 (⟨bId T.length i (m - 2 ^ b),sgP (((cntB m b:Nat):Int)+y.dim)⟩:aj) sty62 I I I I I oM oM) dC (.inl dC) ?_;rintro v142 _ _ ⟨rfl,rfl⟩;rw[← htk];refine zc9 fun ⟨w0,hw0⟩=>?_;obtain ⟨q142,d142,rfl⟩:=ag (e:=encSide) (l:=(y.sides.map (gN L T.length m)++((cW m).zipIdx.take (cntB m (b+1))).map (oB T.length i m y.dim))) (i:=0) hw0 rfl;clear hw0 w0;refine pU I (fA am I aX I) (SP.on I (SO.store1 1 aX I I I I (by show 2<3; decide) I) (.inl dC) ?_);rintro _ _ _ ⟨rfl,rfl⟩;refine pN (tN (rG (lM I (lU (SU.eq (v':=vi (cntB m (b+1):Nat)) (aD I I oM) (zd9 vi (by rw[e3]; omega))) ?_))));refine lA I (nL (bN (tN (rG (lM I (yD I (lA I (nL ?_))))))));exact gA (b+1,_) sB I I ⟨by dsimp only; omega,fun h=>by omega⟩ (by dsimp only; omega)
        ·have htb:m.testBit b=false:=by
          cases h:m.testBit b with
          | false=>rfl
          | true=>rw[h] at hbit; simp at hbit
         rw[← c2 htb];refine kP (bN (tN (rG (lM I (yD I (lA I (nL ?_)))))));exact gA (b+1,zv2) ⟨I,I,I,I,I,I,I,I,I,by rw[c2 htb]; rfl,rfl,trivial⟩ rfl rfl ⟨by dsimp only; omega,fun h=>by omega⟩ (by dsimp only; omega)
       ·have h1:onesB m≤1:=oM;have hbz:=hb0 h1;subst hbz;have hbs:iI L T.length i y m=(y.sides.map (gN L T.length m)++((cW m).zipIdx.take (cntB m 0)).map (oB T.length i m y.dim)):=by rw[jx,zf8 h1,hc0,List.take_zero,List.map_nil]
        rw[← hbs];refine xI (tX (tX (bX ?_)));exact za7 zv2 sB I I trivial
      ·have hbe:b=T.length:=oM;have h1:¬ onesB m≤1:=fun h=>by
        have:=hb0 h;rw[hbe] at this;rw[this] at hlt2;omega
       have hbs:iI L T.length i y m=(y.sides.map (gN L T.length m)++((cW m).zipIdx.take (cntB m b)).map (oB T.length i m y.dim)):=by
        rw[jx,zf7 h1,hbe,DD T.length oM m oM,tL];rw[List.length_zipIdx];exact lR _
       rw[← hbs];refine sQ (sW I (lM I (lU (SU.eq (v':=vb false) (lS I I) (zd9 vb (zf5 oM))) (lM I (yA I (yA I (yA I (yF I (tZ (cF I (xI (tX (tX (bX ?_))))))))))))));exact za7 zv2 sB I I trivial
     rintro zv3 -;try dsimp only
     refine fS fun g5 hle5 hs5=>?_;obtain ⟨q5,d5,rfl⟩:=Sl.form hs5;have hbl:=hac2.length;have hal2:ac2.length<1099511627776:=by
      have h1:(qS L T i).length≤(L.zipIdx.take i).length * 64:=y9 fun q _=>by
       rw[ze4];have h2:=ld L q.1.id T;refine zk3 (zc3 _ _) ?_;rw[zi2];omega
      have h3:(kY bb m).length≤m:=zk3 (zc3 _ _) (by rw[zi2]; exact lR _);rw[ze2] at h1;rw[← hbl,ze3,ze4];omega
     refine rG (lU (fA cH I bG I) (lK (qL (v:=ov2) dg I (cO 2 I I)) (lK (qV 0 eO aw I I I) (lW (bS sty29 I I I (ab ⟨I,trivial⟩) dC) ?_))));rintro _ _ _ ⟨b149,rfl,rfl,rfl⟩;refine lW (aP (e:=encCell) (l:=ac2) 1 ⟨bId T.length i m,y.dim+(onesB m:Nat) - 1,⟨q5,(iI L T.length i y m).length,d5⟩⟩ sty29 I I I I I oM oM) ?_;rintro v150 _ _ ⟨rfl,rfl⟩;refine zd1 fun ⟨w0,hw0⟩=>?_;obtain ⟨q150,d150,rfl⟩:=ag (e:=encCell) (l:=ac2++[⟨bId T.length i m,y.dim+(onesB m:Nat) - 1,⟨q5,(iI L T.length i y m).length,d5⟩⟩]) (i:=1) hw0 rfl;clear hw0 w0;refine lU (fA cH I bG I) (oZ (SO.store1 2 bG I I I I (by show 0<1; decide) I) ?_);refine nL (bN (tN (rG (lM I (yD I (lA I (nL (dR (.cons _ (.refl _)) ?_))))))));exact gA (m+1,g5,_,ac2++[⟨bId T.length i m,y.dim+(onesB m:Nat) - 1,⟨q5,(iI L T.length i y m).length,d5⟩⟩]) sB I I ⟨by dsimp only; omega,by dsimp only; omega,hle4.trans hle5,by
      dsimp only;rw[hsr1,zg3,← zg6];exact (hac2.mono fun _ _=>aq.mono hle5).append ⟨⟨I,I,hs5⟩,trivial⟩⟩ (by dsimp only; omega)
  ·have hme:m=2 ^ T.length:=oM;rw[hme,zI hT6 hb2,← hds] at hac2;refine xI (tX (tX (bX (bN (tN (rG (lM I (yD I (lA I (nL ?_))))))))));exact gA (i+1,g4,ov2,ac2) sB I I ⟨by dsimp only; omega,hle3.trans hle4,hac2⟩ (by dsimp only; omega)
 ·have hie:i=L.length:=oM;rw[hie,Aw] at hacc;have hal:=hacc.length;have hle13:=hle1.trans (hle2.trans hle3);refine fS fun g4 hle4 hs4=>?_;obtain ⟨q4,d4,rfl⟩:=Sl.form hs4;have hC:ao g4 (.slice q4 (j6 L T).length d4) (j6 L T):=⟨acc,by rw[hal]; exact hs4,hacc.mono fun _ _=>aq.mono hle4⟩;refine xI (tX (tX (bX (tN (rZ (lK (qV 0 aY ar I I I) (lW (cL call110 I (eH E g4 _ _ (j6 L T) (by rw[← hal]; exact hC) hbf)) ?_)))))));rintro _ g5 _ ⟨rfl,hle5,u5,rfl,hu5⟩;obtain ⟨q5,d5,rfl⟩:=hu5.form;refine oZ (sK 1 ar I I I I I ⟨I,trivial⟩) (tZ (rE ?_));exact ST.retCD 1 s (.inl I) results73 I aY ar I I uR ⟨I,hle13.trans (hle4.trans hle5),_,I,hu5⟩
set_option maxHeartbeats 1000000
theorem mo (E:World)(g:PH)(s:Own)(v tv:Value)(l:List Cl)(T:List (List Int))(hv:ao g v l)(hf:cU l)(ht:aH g tv T)(hT:T.length<1099511627776)(hTl:∀ t∈T,t.length<1099511627776 - fv (ae l) []) :
  Ctr Tryz.prog E 29 #[.agg #[v],tv] g s (fun r g' s'=>s=s'∧Le g g'∧∃ u,r = .agg #[u]∧ao g' u (aF l T)):=by
 obtain ⟨vp,vc,rfl⟩:=hv.form;refine za9 (args:=[.agg #[.slice vp l.length vc],tv]) func29 I ntmps29 (bE I) ?_;refine rZ (bW (bO I) fun b2=>?_);refine bW (aL zk8) fun b4=>?_;refine tZ (sQ (rZ (lK (qV 1 aY ar I I I) (lM I (lW (cL call27 I (mg E g _ _ tv l T hv hf ht hT hTl)) ?_)))));rintro _ g1 _ ⟨rfl,rfl,hle1⟩;refine lU (nQ I I) (tZ ?_);refine iP I (fun hop=>?_) (fun hop=>?_)
 ·have hb:aF l T=[]:=by unfold aF; rw[zf8 (.inl hop)]
  refine rZ (lU (za1 I buildN31) (oZ (sK 0 ar I I I I I ⟨I,trivial⟩) (tZ (rE (tR ?_)))));exact ST.retCD 0 s (.inl I) results29 I aY ar I I uR ⟨I,hle1,_,I,by rw[hb]; exact ux _⟩
 ·have hop0:bU l T=0:=zg7 hop;obtain ⟨hok,hT6⟩:=cJ hop0;have hRt:=gY hok;have hLt:ae l=aa l:=aJ hRt.asc;have hRt:Rt (ae l):=by rw[hLt]; exact hRt
  have hBf:=bw (e6 hRt hT6);refine kP (tN (rZ (lK (qV 1 aY ar I I I) (lM I (lW (cL call73 I (xR E g1 _ _ tv l T (hv.mono hle1) hf (ht.mono hle1) hT6 hTl hRt)) ?_)))));rintro _ g2 _ ⟨rfl,hle2,u,rfl,hu⟩;obtain ⟨up,uc,rfl⟩:=hu.form;refine bW (aL zk8) fun b5=>?_;refine oZ (sK 0 ar I I I I I ⟨I,trivial⟩) (tZ (rZ (lK (qV 0 aY ar I I I) (lW (cL call74 I (fx E g2 _ _ (dz (ae l) T) hu hBf)) ?_))));rintro _ g3 _ ⟨rfl,rfl,hle3⟩;rw[fg];refine aT I (sQ (sW I (lU (SU.notP I) (tZ ?_))));refine iQ I (fun hbl=>?_) (fun hbl=>?_)
  ·have hb:aF l T=[]:=by unfold aF; rw[zf8 (.inr (by simpa using hbl))]
   refine rZ (lU (za1 I buildN31) (oZ (sK 1 ar I I I I I ⟨I,trivial⟩) (tZ (rE (tR ?_)))));exact ST.retCD 1 s (.inl I) results29 I aY ar I I uR ⟨I,hle1.trans (hle2.trans hle3),_,I,by rw[hb]; exact ux _⟩
  ·have hb:aF l T=dz (ae l) T:=by unfold aF; rw[zf7]; rintro (h | h); exact hop h; exact h (by simpa using hbl)
   refine kP (tN (rZ (lK (qV 0 aY ar I I I) (oZ (sK 1 ar I I I I I ⟨I,trivial⟩) (tZ (rE ?_))))));exact ST.retCD 1 s (.inl I) results29 I aY ar I I uR ⟨I,hle1.trans (hle2.trans hle3),_,I,by rw[hb]; exact hu.mono hle3⟩
structure Tsm (T:List (List Int)):Prop where
 few:T.length≤20
 len:∀ t∈T,t.length≤1000
theorem TOk.tsm {l:List Cl}(h:Sm3 l){T:List (List Int)}(hT:TOk l T):Tsm T:=⟨by have:=hT.few; omega,fun t ht=>by
 have h1:=hT.len t ht;have h2:(fQ l).length≤(ae l).length:=by unfold fQ; rw[ze4]; exact zc3 _ _
 rw[h.rt.tab] at h2;have:=h.few;omega⟩
theorem TOk.len9 {l:List Cl}(h:Sm3 l){T:List (List Int)}(hT:TOk l T):∀ t∈T,t.length≤900:=fun t ht=>by
 have h1:=hT.len t ht;have h2:(fQ l).length≤(ae l).length:=by unfold fQ; rw[ze4]; exact zc3 _ _
 rw[h.rt.tab] at h2;have:=h.few;omega
theorem Sml.room {l:List Cl}(h:Sml l):gn 20 99 l:=⟨h.few,fun c hc=>by have:=mW (h.rt.form c hc); omega⟩
theorem gn.up {l:List Cl}(h:gn 20 99 l):gn 21 200 l:=h.mono dC dC
theorem C3 {l:List Cl}(h:Sml l)(q0 q1 q2:Int):gn 21 200 (jk l q0 q1 q2):=(uD h.room q0 q1 q2).mono dC dC
theorem Tsm.cost {l:List Cl}(h:gn 21 200 l){T:List (List Int)}(hT:Tsm T):∀ t∈T,t.length<1099511627776 - fv (ae l) []:=fun t ht=>by
 have h1:=hT.len t ht;have h2:=h.cost;omega
theorem p4 {l:List Cl}(h:gn 21 200 l)(T:List (List Int)):(aF l T).length≤4000:=by
 unfold aF;split
 ·simp
 ·rename_i hb;have hop:bU l T=0:=zg7 fun k=>hb (.inl k);obtain ⟨-,hT6⟩:=cJ hop;have h1:(dz (ae l) T).length=(j6 (ae l) T).length:=ay _;have h2:=nI (ae l) hT6 (ae l).length;rw[nJ] at h2;have h3:=(rS h).1;omega
theorem vC (l:List Cl)(T:List (List Int)):cU (aF l T):=by
 unfold aF;split
 ·exact⟨by simp,by simp⟩
 ·rename_i hb;have hop:bU l T=0:=zg7 fun k=>hb (.inl k);obtain ⟨hok,hT6⟩:=cJ hop;have hRt:=gY hok;have hLt:ae l=aa l:=aJ hRt.asc;exact bw (e6 (by rw[hLt]; exact hRt) hT6)
theorem Dk (L:List Cl)(n:Nat)(id:Int):(prI L n id).length≤64:=by
 unfold prI;split <;> simp
theorem vB {l:List Cl}(h:gn 21 200 l)(T:List (List Int)):((aF l T).map fun c=>(c.id,prI (ae l) T.length c.id)).length≤4000∧∀ q∈(aF l T).map fun c=>(c.id,prI (ae l) T.length c.id),q.2.length≤64:=by
 refine⟨by rw[ze4]; exact p4 h T,fun q hq=>?_⟩;obtain ⟨c,-,rfl⟩:=ze9.1 hq;exact Dk _ _ _
theorem uN (hd:Own)(ts:Rws)(v:Sv)(l:List Int)(s:Own):(rowA encInt 3 (.slice v.p v.n v.c) l::(hd++(ce ts++s))).Perm (hd++(ce (ts++[(v,l)])++s)):=by
 have e:ce (ts++[(v,l)])++s=ce ts++(rowA encInt 3 (.slice v.p v.n v.c) l::s):=by simp[ce]
 rw[e,← zg6,← zg6];exact List.perm_middle.symm
theorem SC.freezeTsH {P:Program}{N:Nat}{E:World}{c:Code}{Q:Exit→Act→World→Prop}{f:Fr}{g:PH}{hd s:Own}{ts:Rws}(h:∀ g',Le g g'→au (be g') (ts.map Prod.snd) (ts.map Prod.fst)→SC P N E c Q f g' (hd++s)):SC P N E c Q f g (hd++(ce ts++s)) :=
 cP (List.perm_append_comm_assoc _ _ _) (SC.freezeTs h)
theorem ST.freezeTsH {N:Nat}{E:World}{Q:Exit→Act→World→Prop}{e:Exit}{f:Fr}{g:PH}{hd s:Own}{ts:Rws}(h:∀ g',Le g g'→au (be g') (ts.map Prod.snd) (ts.map Prod.fst)→ST N E Q e f g' (hd++s)):ST N E Q e f g (hd++(ce ts++s)) :=
 ST.perm (List.perm_append_comm_assoc _ _ _) fun a w ha hw=>by
  obtain ⟨g',h1,h2,h3⟩:=freezeTs ts g (hd++s) hw;exact h g' h1 h3 a w ha h2
theorem CD {ts:Rws}{j m:Nat}{v:Sv}{l:List Int}(h:ts[j]?=some (v,l)){hd:Own}(s:Own){x:Ent}(hh:hd.length=m):((hd++(ce ts++s)).set (j+m) x)[j+m]?=some x:=by
 have hj:=(zf3.1 h).1;rw[List.getElem?_set_self];simp only[ze3,ce,ze4];omega
theorem wI {α β:Type}{R:α→β→Prop}:∀ {l:List α} {m:List β} (k:Nat) {a:α} {b:β},au R l m→R a b→au R (l.set k a) (m.set k b)
 | [],[],_,_,_,_,_=>trivial
 | [],_::_,_,_,_,h,_=>h.elim
 | _::_,[],_,_,_,h,_=>h.elim
 | x::l,y::m,0,a,b,h,hr=>⟨hr,h.2⟩
 | x::l,y::m,k+1,a,b,h,hr=>⟨h.1,wI k h.2 hr⟩
theorem sY (g:PH):∀ n:Nat,au (be g) (List.replicate n []) (List.replicate n ⟨none,0,0⟩)
 | 0=>trivial
 | n+1=>⟨zb8 _ _,sY g n⟩
theorem mJ {ts:Rws}{T:List (List Int)}(h:ts.map Prod.snd=T){g:PH}(ha:au (be g) (ts.map Prod.snd) (ts.map Prod.fst)):au (be g) T (ts.map Prod.fst):=h ▸ ha
theorem BV (n:Nat)(id:Int):jD n id=0↔(onesB (id.toNat % 2 ^ n):Int)=1:=by
 unfold jD;omega
theorem oI (E:World)(g:PH)(s:Own)(v tv:Value)(l:List Cl)(T:List (List Int))(hv:ao g v l)(hf:cU l)(ht:aH g tv T)(hT:T.length<1099511627776)(hTl:∀ t∈T,t.length<1099511627776 - fv (ae l) []) :
  Ctr Tryz.prog E 31 #[.agg #[v],tv] g s (fun x g' s'=>s=s'∧Le g g'∧∃ u,x = .agg #[u]∧Ims g' u ((aF l T).map fun c=>(c.id,prI (ae l) T.length c.id))):=by
 obtain ⟨vp,vc,rfl⟩:=hv.form;obtain ⟨ts,hts,hallt⟩:=id ht;obtain ⟨tp,tc,rfl⟩:=za2 hts;have htl:=hallt.length;refine za9 (args:=[.agg #[.slice vp l.length vc],.slice tp ts.length tc]) func31 I ntmps31 (bE I) ?_;refine rZ (bW (bO I) fun b2=>?_);refine bW (aL zeroValue45) fun b4=>?_;refine tZ (rZ (lK (qV 1 aY ar I I I) (lM I (lW (cL call29 I (mo E g _ _ _ l T hv hf ht hT hTl)) ?_))));rintro _ g1 _ ⟨rfl,hle1,u,rfl,hu⟩;obtain ⟨up,uc,rfl⟩:=hu.form;refine bW (aL zk8) fun b5=>?_;refine oZ (sK 0 ar I I I I I ⟨I,trivial⟩) (tZ (rZ (lK (qV 2 aY ar I I I) (lW (cL call67 I (ct E g1 _ _ l (hv.mono hle1) hf)) ?_))));rintro _ g2 _ ⟨rfl,hle2,hcv⟩;obtain ⟨cs,hcs,hallc⟩:=id hcv;obtain ⟨cp,cc,rfl⟩:=za2 hcs;have hcl:=hallc.length;refine aT I (rZ (bW (aL zeroValue45) fun b7=>?_));refine tZ (sQ (rZ (aT I (bK ?_))));replace hu:=hu.mono hle2;obtain ⟨us,hus,hallu⟩:=hu;have hul:=hallu.length;have hBl:(aF l T).length<1099511627776:=by
  unfold aF;split
  ·simp
  ·rename_i hb;have hop:bU l T=0:=zg7 fun k=>hb (.inl k);obtain ⟨hok,hT6⟩:=cJ hop;have hRt:=gY hok;have hLt:ae l=aa l:=aJ hRt.asc;exact (bw (e6 (by rw[hLt]; exact hRt) hT6)).1
 generalize hBd:aF l T=B at *;refine zb4 78 2 ?_;refine oP (ι:=Nat×PH×Value×List Im) (fun z=>[(1,.slice tp ts.length tc),(4,pp b4 0),(5,pp b5 0),(6,.slice cp cs.length cc),(7,pp b7 0),(8,vi z.1)]) (fun z=>z.2.1) (fun z=>rowA l8 78 z.2.2.1 z.2.2.2::pt b7 (.cells #[z.2.2.1] 45 (0,0))::pt b5 (.cells #[.slice up B.length uc] 31 (0,0))::pt b4 (.cells #[.slice none 0 0] 45 (0,0))::pt b2 (.cells #[.slice vp l.length vc] 31 (0,0))::s) (fun z=>z.1≤us.length∧Le g2 z.2.1∧au (ImR z.2.1) ((B.take z.1).map fun c=>(c.id,prI (ae l) T.length c.id)) z.2.2.2) (fun z=>us.length - z.1) (0,g2,.slice none 0 0,[]) sB I I ⟨zf4 _,zb7 _,trivial⟩ ?_;rintro ⟨k,g3,ov,acc⟩ ⟨hk,hle3,hacc⟩;dsimp only at hk hle3 hacc ⊢;have hal:=hacc.length;rw[ze4,ze2] at hal;refine sQ (sW I (lU (fA cH I bG I) (lK (qL (v:=.slice up B.length uc) dg I (cO 2 I I)) (lU (eN az I) (yL I (tZ ?_))))));refine iP I (fun hlt=>?_) (fun hlt=>?_)
 ·have hkr:k<us.length:=oM;have hkB:k<B.length:=oM;have hop:bU l T=0∧(aU (dz (ae l) T)).2=0:=by
   refine Decidable.byContradiction fun hn=>?_;have:aF l T=[]:=by
    unfold aF;rw[zf8];by_cases h:bU l T=0
    ·exact .inr fun k=>hn ⟨h,k⟩
    ·exact .inl h
   rw[hBd] at this;rw[this] at hkB;exact absurd hkB (by simp)
  have hBe:B=dz (ae l) T:=by
   rw[← hBd];unfold aF;rw[zf7];rintro (h | h)
   ·exact h hop.1
   ·exact h hop.2
  obtain ⟨hok,hT6⟩:=cJ hop.1;have hRt:=gY hok;have hLt:ae l=aa l:=aJ hRt.asc;have hRt:Rt (ae l):=by rw[hLt]; exact hRt
  have hp64:=qR hT6;have hb1:=za4 hus oM;have hgr:us[((k:Nat):Int).toNat]?=some us[k]:=gE hkr;have hR:=hallu.get (gE hkB) (gE hkr);have hxm:B[k]∈B:=gM hkB;have htk:B.take (k+1)=B.take k++[B[k]]:=tS hkB;generalize B[k]=x at *;generalize us[k]=r at *;obtain ⟨xi,xd,xp,xn,xc⟩:=r;obtain ⟨hxi,-,-⟩:=hR;dsimp only at hxi;subst hxi;have hxB:x∈dz (ae l) T:=by rw[← hBe]; exact hxm
  obtain ⟨ix,c0,hc0,hix,hnat⟩:=zt hRt hT6 x hxB;have hlt62:=qq hRt hT6 x hxB;have hix1:=(zf3.1 hc0).1;have hLf:=hRt.few;generalize hLd:ae l=L at *;have hgc:cs[((ix:Nat):Int).toNat]?=some (cs[ix]'oM):=gE _;have hRc:=hallc.get hc0 (gE (i:=ix) oM);have hbcs:=za4 hcs oM;generalize cs[ix]'oM=rc at *;obtain ⟨ci,cd,ep,en,ec⟩:=rc;obtain ⟨hci,-,-⟩:=hRc;dsimp only at hci;have hpr:prI L T.length x.id=if jD T.length x.id=0 then [(ci,1)] else []:=by
   unfold prI;rw[hix,zg8,hc0,hci];rfl
  have hmod:x.id.tmod ((2 ^ T.length:Nat):Int)=((x.id.toNat % 2 ^ T.length:Nat):Int):=by
   have h:=Int.ofNat_tmod x.id.toNat (2 ^ T.length);rw[← hnat] at h;exact h.symm
  have hp0:=Nat.two_pow_pos T.length;have hm64:x.id.toNat % 2 ^ T.length<64:=Nat.lt_of_lt_of_le (Nat.mod_lt _ hp0) hp64;have hdg:=BV T.length x.id;generalize hqd:x.id.toNat % 2 ^ T.length=q at *;have hp1:((2 ^ T.length:Nat):Int)≠0:=oM;refine kP (tN (sQ (bK (rZ (lU (fA cH I bG I) (lK (qL (v:=.slice up B.length uc) dg I (cO 2 I I)) (lM I (lU (iA az aw I I hb1 oM sL) (lU (fC am I zT3 I hb1) (lK (aZ (e:=encCell) (o:=0) (u:=vi x.id) iT3 I (za5 (za3 hus hle3)) hgr I) (lU (za1 I (buildJ78 _)) (bW (aL zeroValue78) fun b9=>?_))))))))))));refine oZ (sK 0 tQ I I I I I sB) (tZ (sQ (sQ ?_)));refine dW [] [(0,2),(1,1),(2,2),(3,2),(4,2),(5,2),(6,0),(7,2)] ze1 kR ?_;refine pU I (fA vI I zT3 I) (pK I (qL (v:=vi x.id) iT3 I (cO 0 I I)) (yM I (pU I (eN br I) (pU I (SU.eq (v':=vi (2 ^ T.length:Nat)) (SU.shl I I oM) (zd9 vi (by rw[← htl]; exact lf T.length oM))) ?_))));refine pU I (SU.eq (v':=vi q) (zd6 I I hp1) (zd9 vi hmod)) (SP.o I (cL call76 I (f9 E _ _ q hm64)) dC (.inr iR) ?_);rintro _ _ _ ⟨rfl,rfl,rfl⟩;refine pU I (eQ I I) (pN (tN ?_));refine iP I (fun hdeg=>?_) (fun hdeg=>?_)
  ·have hpr1:prI L T.length x.id=[(ci,1)]:=by rw[hpr,zf8 (hdg.2 hdeg)]
   refine dW [13] [(0,2),(1,2),(2,1),(3,2),(4,2),(5,2),(6,2),(7,2),(8,1),(9,0),(10,2),(11,0),(12,2),(13,0)] ze1 kR ?_;refine yM I (pU I (fA vI I zT3 I) (pK I (qL (v:=vi x.id) iT3 I (cO 0 I I)) (yM I (pU I (eN br I) (pU I (SU.eq (v':=vi ix) (SU.shr I I oM) (zd9 vi (by rw[← htl,hnat,yO hT6,hix]))) ?_)))));refine pU I (iA az aw I I hbcs oM sL) (pU I (fC am I zT3 I hbcs) (pK I (aZ (e:=encCell) (o:=0) (u:=vi ci) iT3 I (za5 (za3 hcs hle3)) hgc I) (SP.o I (cL call77 I (rz E _ _ 1 (.inr (.inl I)))) dC (.inr iR) ?_)));rintro _ g4 _ ⟨rfl,rfl,hle4⟩;refine pU I (za1 I (build87 _ _ _)) (SP.o I (bS sty76 I I I (ab ⟨I,trivial⟩) dC) dC (.inr iR) ?_);rintro _ _ _ ⟨b48,rfl,rfl,rfl⟩;refine SP.freeze fun g5 hle5 hb48=>?_;have hTm:SlA nj g5 (.slice (some ⟨b48,0,none⟩) 1 1) [(ci,1)]:=SlA.lit hb48 rfl rfl;refine pU I (fA vI I sizeOf76 I) (SP.on I (SO.store1 0 sizeOf76 I I I I (by show 1<2; decide) I) (.inl dC) ?_);rintro _ _ _ ⟨rfl,rfl⟩;refine pN (tN (rG (lU (fA rM I oA I) (lK (qL (v:=ov) isAgg43 I (cO 2 I I)) (lK (qV 0 isAgg78 tQ I I I) (lW (bS sty43 I I I (ab ⟨I,trivial⟩) dC) ?_))))));rintro _ _ _ ⟨b53,rfl,rfl,rfl⟩;refine lW (aP (e:=l8) (l:=acc) 1 ⟨x.id,⟨some ⟨b48,0,none⟩,1,1⟩⟩ sty43 I I I I I oM oM) ?_;rintro v54 _ _ ⟨rfl,rfl⟩;refine zd1 fun ⟨w0,hw0⟩=>?_;obtain ⟨q54,d54,rfl⟩:=ag (e:=l8) (l:=acc++[⟨x.id,⟨some ⟨b48,0,none⟩,1,1⟩⟩]) (i:=1) hw0 rfl;clear hw0 w0;refine lU (fA rM I oA I) (oZ (SO.store1 2 oA I I I I (by show 0<1; decide) I) ?_);refine nL (bN (tN (rG (lM I (yD I (lA I (nL (dR (.cons _ (.refl _)) ?_))))))));exact gA (k+1,g5,_,acc++[⟨x.id,⟨some ⟨b48,0,none⟩,1,1⟩⟩]) sB I I ⟨by dsimp only; omega,hle3.trans (hle4.trans hle5),by
    dsimp only;rw[htk,zg3];refine (hacc.mono fun _ _=>ImR.mono (hle4.trans hle5)).append ⟨⟨I,?_⟩,trivial⟩;dsimp only;rw[hpr1];exact hTm⟩ (by dsimp only; omega)
  ·have hpr1:prI L T.length x.id=[]:=by rw[hpr,zf7 fun k=>hdeg (hdg.1 k)]
   refine kP (tN (rG (lU (fA rM I oA I) (lK (qL (v:=ov) isAgg43 I (cO 2 I I)) (lK (qV 0 isAgg78 tQ I I I) (lW (bS sty43 I I I (ab ⟨I,trivial⟩) dC) ?_))))));rintro _ _ _ ⟨b53,rfl,rfl,rfl⟩;refine lW (aP (e:=l8) (l:=acc) 1 ⟨x.id,⟨none,0,0⟩⟩ sty43 I I I I I oM oM) ?_;rintro v54 _ _ ⟨rfl,rfl⟩;refine zd1 fun ⟨w0,hw0⟩=>?_;obtain ⟨q54,d54,rfl⟩:=ag (e:=l8) (l:=acc++[⟨x.id,⟨none,0,0⟩⟩]) (i:=1) hw0 rfl;clear hw0 w0;refine lU (fA rM I oA I) (oZ (SO.store1 2 oA I I I I (by show 0<1; decide) I) ?_);refine nL (bN (tN (rG (lM I (yD I (lA I (nL (dR (.cons _ (.refl _)) ?_))))))));exact gA (k+1,g3,_,acc++[⟨x.id,⟨none,0,0⟩⟩]) sB I I ⟨by dsimp only; omega,hle3,by
    dsimp only;rw[htk,zg3];refine hacc.append ⟨⟨I,?_⟩,trivial⟩;dsimp only;rw[hpr1];exact zb8 _ _⟩ (by dsimp only; omega)
 ·have hke:k=us.length:=oM;subst hke;rw[tL oM] at hacc;refine fS fun g4 hle4 hs4=>?_;obtain ⟨q4,d4,rfl⟩:=Sl.form hs4;refine xI (tX (tX (bX (tN (rZ (lK (qV 0 isAgg45 sizeOf45 I I I) (oZ (sK 2 sizeOf45 I I I I I ⟨I,trivial⟩) (tZ (rE ?_)))))))));exact ST.retCD 2 s (.inl I) results31 I isAgg45 sizeOf45 I I uR ⟨I,hle1.trans (hle2.trans (hle3.trans hle4)),_,I,acc,hs4,hacc.mono fun _ _=>ImR.mono hle4⟩
theorem uC (E:World)(g:PH)(s:Own)(v tv:Value)(l:List Cl)(T:List (List Int))(q0 q1 q2:Int)(hv:ao g v l)(hf:cU l)(ht:aH g tv T)(h1:1≤T.length)(h10:T.length≤10)(hTl:∀ t∈T,t.length≤900) :
  Ctr Tryz.prog E 9 #[.agg #[v],tv,.agg #[vi q0,vi q1,vi q2]] g s (fun x g' s'=>s=s'∧Le g g'∧∃ T',aH g' x T'∧Tsm T'):=by
 obtain ⟨vp,vc,rfl⟩:=hv.form;obtain ⟨us,hus,hall⟩:=id ht;obtain ⟨tp,tc,rfl⟩:=za2 hus;have hul:=hall.length;have hll:=hf.1;have h6:=aB q0 6 dC dC;obtain ⟨hk1,hk2⟩:=ku q1 T.length oM oM;generalize hkk:(aI q1 T.length).toNat=k at *;refine za9 (args:=[.agg #[.slice vp l.length vc],.slice tp us.length tc,.agg #[vi q0,vi q1,vi q2]]) func9 I ntmps9 (bE I) ?_;refine rZ (bW (bO I) fun b3=>?_);refine bW (bO I) fun b5=>?_;refine aT I (rZ (aT I (sQ (rZ (aT I (bK (zb4 25 1 ?_)))))));refine oP (ι:=Nat×Value×Rws) (fun z=>[(1,.slice tp us.length tc),(3,pp b3 0),(5,pp b5 0),(7,z.2.1),(8,vi z.1)]) (fun _=>g) (fun z=>rowA aA 25 z.2.1 (z.2.2.map Prod.fst)::pt b5 (.cells #[vi q0,vi q1,vi q2] 26 (0,0))::pt b3 (.cells #[.slice vp l.length vc] 31 (0,0))::(ce z.2.2++s)) (fun z=>z.1≤T.length∧z.2.2.map Prod.snd=T.take z.1) (fun z=>T.length - z.1) (0,.slice none 0 0,[]) sB I I ⟨zf4 _,I⟩ ?_;rintro ⟨i,ov,ts⟩ ⟨hi,hts⟩;dsimp only at hi hts ⊢;have htl:ts.length=i:=by
  have:=zd9 List.length hts;rw[ze4,ze2] at this;omega
 have hml:(ts.map Prod.fst).length=i:=by rw[ze4]; exact htl
 refine sQ (sW I (lM I (lU (eN br I) (yL I (tZ ?_)))));refine iP I (fun hlt=>?_) (fun hlt=>?_)
 ·have hiu:i<us.length:=oM;have hiT:i<T.length:=oM;have hgi:us[((i:Nat):Int).toNat]?=some us[i]:=gE hiu;have hR:=hall.get (gE hiT) (gE hiu);have hbu:=za4 hus oM;have htm:=hTl _ (gM hiT);have htk:T.take (i+1)=T.take i++[T[i]]:=tS hiT;generalize T[i]=t at *;generalize us[i]=u0 at *;refine kP (tN (sQ (bK (rG (lM I (lW (bS sty25 I I I (ab trivial) dC) ?_))))));rintro _ _ _ ⟨b17,rfl,rfl,rfl⟩;refine SL.drop (.cons _ (.refl _)) (lM I (lM I (lU (iA br bP I I hbu oM sL) (lK (eB (u:=.slice u0.p u0.n u0.c) dG I (za5 (e:=aA) hus) hgi I) (lW (SO.appNewA (e:=encInt) (m:=t) sty25 I I hR oM oM) ?_)))));rintro v22 _ _ ⟨rfl,rfl⟩;refine zd1 fun ⟨w0,hw0⟩=>?_;obtain ⟨q22,d22,rfl⟩:=ag (e:=encInt) (l:=t) (i:=0) hw0 rfl;clear hw0 w0;refine lW (bS sty22 I I I (ab ⟨I,trivial⟩) dC) ?_;rintro _ _ _ ⟨b23,rfl,rfl,rfl⟩;refine lW (aP (e:=aA) (l:=ts.map Prod.fst) 1 ⟨q22,t.length,d22⟩ sty22 I I I I I oM oM) ?_;rintro v24 _ _ ⟨rfl,rfl⟩;refine lA I (nL (bN (tN (rG (lM I (yD I (lA I (nL (ST.perm (uN [rowA aA 25 v24 (ts.map Prod.fst++([⟨q22,t.length,d22⟩]:List Sv)),pt b5 (.cells #[vi q0,vi q1,vi q2] 26 (0,0)),pt b3 (.cells #[.slice vp l.length vc] 31 (0,0))] ts ⟨q22,t.length,d22⟩ t s) ?_)))))))));exact gA (i+1,v24,ts++[(⟨q22,t.length,d22⟩,t)]) sB I (by dsimp only; rw[zg3]; rfl) ⟨by dsimp only; omega,by dsimp only; rw[zg3,hts,htk]; rfl⟩ (by dsimp only; omega)
 ·have hie:i=T.length:=oM;subst hie;rw[tL (lR _)] at hts;refine zd2 fun hx=>?_;obtain ⟨w0,hw0⟩:=hx;obtain ⟨bo,co,rfl,hco⟩:=rY hw0 (i:=0) rfl oM;clear hw0 w0;rw[hml] at hco ⊢;have hkt:k<ts.length:=oM;have hgk:ts[k]?=some ts[k]:=gE hkt;have hgs:(ts.map Prod.fst)[((k:Nat):Int).toNat]?=some ts[k].1:=by
   rw[show ((k:Nat):Int).toNat=k from rfl,zh7,hgk];rfl
  have hgT:T[k]?=some ts[k].2:=by rw[← hts,zh7,hgk]; rfl
  have htm:=hTl _ (zf9 hgT);generalize ts[k]=u0 at *;obtain ⟨sv,lu⟩:=u0;dsimp only at hgs hgT htm;have hfin:∀ (g1:PH) (ov:Value) (svs:List Sv) (T1:List (List Int)),SlA aA g1 ov svs→au (be g1) T1 svs→T1.length≤20→(∀ t∈T1,t.length≤1000)→∃ T',aH g1 ov T'∧Tsm T':=fun g1 ov svs T1 ha hb hc hd=>⟨T1,⟨svs,ha,hb⟩,hc,hd⟩;have hT9:∀ t∈T,t.length≤1000:=fun t ht=>by have:=hTl t ht; omega
  refine xI (tX (tX (bX (tN (sQ (sW I (lU (eN br I) (lU (SU.eq (v':=vb false) (eQ I I) (zd9 vb (zf5 oM))) (tZ (cF I (kP (tN (rZ (lU (iB ja zT3 I I dC dC) (lK (qL (v:=vi q1) iT3 I (cO 1 I I)) (lM I (lU (eN br I) (lW (cL dD I (ah E g _ q1 (T.length:Nat) oM)) ?_))))))))))))))))));rintro _ _ _ ⟨rfl,rfl,rfl⟩;rw[hk1];refine aT I ?_;generalize aI q0 6=m at *;refine SC.cut (ι:=PH×Value) (fun z=>[(7,z.2)]) (fun z=>z.1) (fun _=>s) (fun z=>Le g z.1∧∃ T',aH z.1 z.2 T'∧Tsm T') ?_ ?_
  ·refine rZ (lU (iB ja zT3 I I dC dC) (lK (qL (v:=vi q0) iT3 I (cO 1 I I)) (lW (cL dD I (ah E g _ q0 6 dC)) ?_)));rintro _ _ _ ⟨rfl,rfl,rfl⟩;refine tZ (bK (rZ (yE I (aT I ?_))));refine iP I (fun hm0=>?_) (fun hm0=>?_)
   ·refine SC.freezeTsH (hd:=[rowA aA 25 (.slice (some ⟨bo,0,none⟩) T.length co) (ts.map Prod.fst),pt b5 (.cells #[vi q0,vi q1,vi q2] 26 (0,0)),pt b3 (.cells #[.slice vp l.length vc] 31 (0,0))]) fun g1 hle1 hall1=>?_;replace hall1:=mJ hts hall1;have hL:=hall1.get hgT hgs;refine SC.to (g':=g1) (s':=rowA aA 25 (.slice (some ⟨bo,0,none⟩) T.length co) (ts.map Prod.fst)::s) (fun w hw=>hw.sublist (.cons_cons _ (.cons _ (.cons _ (.refl _))))) ?_;have hsn:sv.n=lu.length:=zb9 hL;obtain ⟨sp,sn,sc⟩:=sv;dsimp only at hsn;subst hsn;refine sW I (lM I (lU (iA br bP I I I oM sL) (lK (eB (u:=.slice sp lu.length sc) dG I (zb5 (e:=aA) 0 I) hgs I) (lU (eN ak I) (lU (gR I I) (tZ ?_))))));refine iP I (fun hne=>?_) (fun hne=>?_)
    ·obtain ⟨q54,hq54⟩:=uI sp 1 lu.length sc 1;have hcut:=SlA.cut (l:=1) (m:=lu.length) hL oM (lR _);rw[hq54] at hcut;refine rG (lM I (lM I (lM I (lM I (lU (iA br bP I I I oM sL) (lK (eB (u:=.slice sp lu.length sc) dG I (zb5 (e:=aA) 0 I) hgs I) (lU (SU.eq (v':=.slice q54 (lu.length - 1) (sc - 1)) (SU.sliceL ak zT3 I I dC oM) hq54) (lU (SU.eq (v':=.pointer (some ⟨bo,0+k * 1,none⟩)) (iA br bP I I I oM sL) I) (oZ (sT (e:=aA) (a:=⟨q54,lu.length - 1,sc - 1⟩) (j:=k) 0 bP I I I oM I) (nL (bN (fT fun g2 hle2 hs2=>?_))))))))))));refine za7 (g2,.slice (some ⟨bo,0,none⟩) T.length co) ⟨I,trivial⟩ I I ⟨hle1.trans hle2,hfin g2 _ _ (T.set k ((lu.drop 1).take (lu.length - 1))) hs2 (wI k (hall1.mono fun _ _=>be.mono hle2) (Sl.mono hcut hle2)) (by rw[zi1]; omega) fun t ht=>?_⟩
     rcases List.mem_or_eq_of_mem_set ht with h | h
     ·exact hT9 t h
     ·rw[h,ze2,ze7];omega
    ·refine kP (bN (fT fun g2 hle2 hs2=>?_));exact za7 (g2,.slice (some ⟨bo,0,none⟩) T.length co) ⟨I,trivial⟩ I I ⟨hle1.trans hle2,hfin g2 _ _ T hs2 (hall1.mono fun _ _=>be.mono hle2) oM hT9⟩
   ·refine rZ (yE I (aT I ?_));refine iP I (fun hm1=>?_) (fun hm1=>?_)
    ·refine SC.drawT 3 [11] [(0,2),(1,2),(2,2),(3,2),(4,2),(5,1),(6,2),(7,1),(8,0),(9,0),(10,2),(11,0)] ze1 kR ?_;refine yM rfl (yM rfl (yM rfl (yM rfl (pU rfl (iA br bP rfl rfl rfl oM sL) (pK rfl (eB (u:=.slice sv.p sv.n sv.c) dG rfl (zb5 (e:=aA) 0 rfl) hgs rfl) (pU rfl (iB ja zT3 rfl rfl dC dC) (pK rfl (qL (v:=vi q2) iT3 rfl (cO 1 rfl rfl)) (SP.o rfl (bS sty25 rfl rfl rfl (ab ⟨rfl,trivial⟩) dC) dC (.inr (by rintro _ _ _ ⟨b66,rfl,rfl,rfl⟩; exact⟨by exact zb7 _,(by exact .cons _ (List.take_sublist _ _))⟩)) ?_))))))));rintro _ _ _ ⟨b66,rfl,rfl,rfl⟩;refine SP.o rfl (aP (e:=encInt) (l:=lu) (k+3) q2 sty25 rfl rfl rfl (lx hgk s) rfl oM oM) dC (.inr (by rintro v67 _ _ ⟨rfl,rfl⟩; exact⟨by exact zb7 _,(by exact dH _ _ _ _)⟩)) ?_;rintro v67 _ _ ⟨rfl,rfl⟩;refine zc9 fun ⟨w0,hw0⟩=>?_;obtain ⟨q67,d67,rfl⟩:=ag (e:=encInt) (l:=lu++[q2]) (i:=k+3) hw0 (CD (hd:=[rowA aA 25 (.slice (some ⟨bo,0,none⟩) T.length co) (ts.map Prod.fst),pt b5 (.cells #[vi q0,vi q1,vi q2] 26 (0,0)),pt b3 (.cells #[.slice vp l.length vc] 31 (0,0))]) hgk s rfl);clear hw0 w0;refine pU I (SU.eq (v':=.pointer (some ⟨bo,0+k * 1,none⟩)) (iA br bP I I I oM sL) I) (SP.on I (sT (e:=aA) (a:=⟨q67,(lu++[q2]).length,d67⟩) (j:=k) 0 bP I I I oM I) (.inl dC) ?_);rintro _ _ _ ⟨rfl,rfl⟩;refine pN (bN (dR (s':=rowA aA 25 (.slice (some ⟨bo,0,none⟩) T.length co) ((ts.set k (⟨q67,(lu++[q2]).length,d67⟩,lu++[q2])).map Prod.fst)::(ce (ts.set k (⟨q67,(lu++[q2]).length,d67⟩,lu++[q2]))++s)) (by rw[List.map_set,← lr hgk s]; exact .cons_cons _ (.cons _ (.cons _ (.refl _)))) ?_));refine ST.freezeTsH (hd:=[_]) fun g1 hle1 hall1=>?_;refine fT fun g2 hle2 hs2=>?_;rw[List.map_set,hts] at hall1;refine za7 (g2,.slice (some ⟨bo,0,none⟩) T.length co) ⟨I,trivial⟩ I I ⟨hle1.trans hle2,hfin g2 _ _ (T.set k (lu++[q2])) hs2 (hall1.mono fun _ _=>be.mono hle2) (by rw[zi1]; omega) fun t ht=>?_⟩
     rcases List.mem_or_eq_of_mem_set ht with h | h
     ·exact hT9 t h
     ·rw[h,ze3,ze5];omega
    ·refine rZ (yE I (aT I ?_));refine iP I (fun hm2=>?_) (fun hm2=>?_)
     ·refine SC.freezeTsH (hd:=[rowA aA 25 (.slice (some ⟨bo,0,none⟩) T.length co) (ts.map Prod.fst),pt b5 (.cells #[vi q0,vi q1,vi q2] 26 (0,0)),pt b3 (.cells #[.slice vp l.length vc] 31 (0,0))]) fun g1 hle1 hall1=>?_;replace hall1:=mJ hts hall1;refine SC.to (g':=g1) (s':=rowA aA 25 (.slice (some ⟨bo,0,none⟩) T.length co) (ts.map Prod.fst)::s) (fun w hw=>hw.sublist (.cons_cons _ (.cons _ (.cons _ (.refl _))))) ?_;refine dW [7,8] [(0,2),(1,2),(2,2),(3,2),(4,2),(5,2),(6,2),(7,0),(8,0)] ze1 kR ?_;refine yM I (yM I (pU I (SU.sliceH br bP I I oM oM) (yM I (yM I (pU I (aD I I oM) (pU I (SU.eq (v':=sliced (some ⟨bo,0,none⟩) (k+1) T.length co 1) (SU.sliceL br bP I I oM oM) (by rw[show ((k:Int)+1).toNat=k+1 by omega])) ?_))))));refine SP.o I (SO.cutA (j:=k) (n:=T.length) (c:=co) (p:=some ⟨bo,0,none⟩) (e:=aA) 0 sty22 I I I hml.symm oM) dC (.inl dC) ?_;rintro _ _ _ ⟨rfl,rfl,rfl⟩;refine oU I (aS I) dC (.inl dC) (pN (bN (fT fun g2 hle2 hs2=>?_)));refine za7 (g2,_) ⟨I,trivial⟩ I I ⟨hle1.trans hle2,hfin g2 _ _ (T.eraseIdx k) hs2 (au.eraseIdx k (hall1.mono fun _ _=>be.mono hle2)) (by have:=List.length_eraseIdx_le T k; omega) fun t ht=>hT9 t (List.mem_of_mem_eraseIdx ht)⟩
     ·refine rZ (yE I (aT I ?_));refine iP I (fun hm3=>?_) (fun hm3=>?_)
      ·refine rZ (lU (fA cH I bG I) (lK (qL (v:=.slice vp l.length vc) dg I (cO 2 I I)) (lU (eN az I) (lU (gR I I) (tZ ?_)))));refine iP I (fun hne=>?_) (fun hne=>?_)
       ·obtain ⟨hj1,hj2⟩:=ku q2 l.length oM oM;generalize (aI q2 l.length).toNat=j at *;obtain ⟨rs,hrs,hallr⟩:=id hv;have hrl:=hallr.length;have hgr:rs[((j:Nat):Int).toNat]?=some (rs[j]'oM):=gE _;have hbr:=za4 hrs oM;generalize rs[j]'oM=r at *;obtain ⟨ri,rd,rp,rn,rc⟩:=r;refine SC.drawT 3 [20] [(0,2),(1,2),(2,2),(3,2),(4,2),(5,1),(6,2),(7,1),(8,2),(9,1),(10,2),(11,1),(12,2),(13,0),(14,2),(15,2),(16,1),(17,0),(18,0),(19,2),(20,0)] ze1 kR ?_;refine yM rfl (yM rfl (yM rfl (yM rfl (pU rfl (iA br bP rfl rfl rfl oM sL) (pK rfl (eB (u:=.slice sv.p sv.n sv.c) dG rfl (zb5 (e:=aA) 0 rfl) hgs rfl) (pU rfl (fA cH rfl bG rfl) (pK rfl (qL (v:=.slice vp l.length vc) dg rfl (cO 2 rfl rfl)) (pU rfl (iB ja zT3 rfl rfl dC dC) (pK rfl (qL (v:=vi q2) iT3 rfl (cO 1 rfl rfl)) (pU rfl (fA cH rfl bG rfl) (pK rfl (qL (v:=.slice vp l.length vc) dg rfl (cO 2 rfl rfl)) (pU rfl (eN az rfl) (SP.o rfl (cL dD rfl (ah E g _ q2 (l.length:Nat) oM)) dC (.inr (by rintro _ _ _ ⟨rfl,rfl,rfl⟩; exact⟨by exact zb7 _,(by exact List.take_sublist _ _)⟩)) ?_)))))))))))));rintro _ _ _ ⟨rfl,rfl,rfl⟩;rw[hj1];refine pU rfl (iA az aw rfl rfl hbr oM sL) (pU rfl (fC am rfl zT3 rfl hbr) (pK rfl (aZ (e:=encCell) (o:=0) (u:=vi ri) iT3 rfl (za5 hrs) hgr rfl) (SP.o rfl (bS sty25 rfl rfl rfl (ab ⟨rfl,trivial⟩) dC) dC (.inr (by rintro _ _ _ ⟨b102,rfl,rfl,rfl⟩; exact⟨by exact zb7 _,(by exact .cons _ (List.take_sublist _ _))⟩)) ?_)));rintro _ _ _ ⟨b102,rfl,rfl,rfl⟩;refine SP.o rfl (aP (e:=encInt) (l:=lu) (k+3) ri sty25 rfl rfl rfl (lx hgk s) rfl oM oM) dC (.inr (by rintro v103 _ _ ⟨rfl,rfl⟩; exact⟨by exact zb7 _,(by exact dH _ _ _ _)⟩)) ?_;rintro v103 _ _ ⟨rfl,rfl⟩;refine zc9 fun ⟨w0,hw0⟩=>?_;obtain ⟨q67,d67,rfl⟩:=ag (e:=encInt) (l:=lu++[ri]) (i:=k+3) hw0 (CD (hd:=[rowA aA 25 (.slice (some ⟨bo,0,none⟩) T.length co) (ts.map Prod.fst),pt b5 (.cells #[vi q0,vi q1,vi q2] 26 (0,0)),pt b3 (.cells #[.slice vp l.length vc] 31 (0,0))]) hgk s rfl);clear hw0 w0;refine pU I (SU.eq (v':=.pointer (some ⟨bo,0+k * 1,none⟩)) (iA br bP I I I oM sL) I) (SP.on I (sT (e:=aA) (a:=⟨q67,(lu++[ri]).length,d67⟩) (j:=k) 0 bP I I I oM I) (.inl dC) ?_);rintro _ _ _ ⟨rfl,rfl⟩;refine pN (bN (dR (s':=rowA aA 25 (.slice (some ⟨bo,0,none⟩) T.length co) ((ts.set k (⟨q67,(lu++[ri]).length,d67⟩,lu++[ri])).map Prod.fst)::(ce (ts.set k (⟨q67,(lu++[ri]).length,d67⟩,lu++[ri]))++s)) (by rw[List.map_set,← lr hgk s]; exact .cons_cons _ (.cons _ (.cons _ (.refl _)))) ?_));refine ST.freezeTsH (hd:=[_]) fun g1 hle1 hall1=>?_;refine fT fun g2 hle2 hs2=>?_;rw[List.map_set,hts] at hall1;refine za7 (g2,.slice (some ⟨bo,0,none⟩) T.length co) ⟨I,trivial⟩ I I ⟨hle1.trans hle2,hfin g2 _ _ (T.set k (lu++[ri])) hs2 (hall1.mono fun _ _=>be.mono hle2) (by rw[zi1]; omega) fun t ht=>?_⟩
        rcases List.mem_or_eq_of_mem_set ht with h | h
        ·exact hT9 t h
        ·rw[h,ze3,ze5];omega
       ·refine kP (bN (dR (s':=rowA aA 25 (.slice (some ⟨bo,0,none⟩) T.length co) (ts.map Prod.fst)::(ce ts++s)) (.cons_cons _ (.cons _ (.cons _ (.refl _)))) (ST.freezeTsH (hd:=[_]) fun g1 hle1 hall1=>?_)));refine fT fun g2 hle2 hs2=>?_;exact za7 (g2,.slice (some ⟨bo,0,none⟩) T.length co) ⟨I,trivial⟩ I I ⟨hle1.trans hle2,hfin g2 _ _ T hs2 ((mJ hts hall1).mono fun _ _=>be.mono hle2) oM hT9⟩
      ·refine rZ (yE I (aT I (SC.freezeTsH (hd:=[rowA aA 25 (.slice (some ⟨bo,0,none⟩) T.length co) (ts.map Prod.fst),pt b5 (.cells #[vi q0,vi q1,vi q2] 26 (0,0)),pt b3 (.cells #[.slice vp l.length vc] 31 (0,0))]) fun g1 hle1 hall1=>?_)));replace hall1:=mJ hts hall1;refine SC.to (g':=g1) (s':=rowA aA 25 (.slice (some ⟨bo,0,none⟩) T.length co) (ts.map Prod.fst)::pt b5 (.cells #[vi q0,vi q1,vi q2] 26 (0,0))::s) (fun w hw=>hw.sublist (.cons_cons _ (.cons_cons _ (.cons _ (.refl _))))) ?_;refine iP I (fun hm4=>?_) (fun hm4=>?_)
       ·refine rG (lM I (lW (bS sty25 I I I (ab trivial) dC) ?_));rintro _ _ _ ⟨b108,rfl,rfl,rfl⟩;refine zb3 fun g3 hle3 hb108=>?_;refine lW (bS sty22 I I I (ab ⟨I,trivial⟩) dC) ?_;rintro _ _ _ ⟨b109,rfl,rfl,rfl⟩;refine lW (aP (e:=aA) (l:=ts.map Prod.fst) 0 ⟨some ⟨b108,0,none⟩,0,0⟩ sty22 I I I (by rw[← hml]; rfl) rfl oM oM) ?_;rintro v110 _ _ ⟨rfl,rfl⟩;refine lA I (nL (bN (fT fun g2 hle2 hs2=>?_)));refine dR (.cons _ (.refl _)) ?_;refine za7 (g2,v110) ⟨I,trivial⟩ I I ⟨hle1.trans (hle3.trans hle2),hfin g2 _ _ (T++[[]]) hs2 ((hall1.mono fun _ _=>be.mono (hle3.trans hle2)).append ⟨SlA.lit (hle2 _ _ hb108) I I,trivial⟩) (by rw[ze3,ze5]; omega) fun t ht=>?_⟩
        rcases zf1.1 ht with h | h
        ·exact hT9 t h
        ·rw[zh5.1 h];exact zf4 _
       ·refine rZ (yE I (aT I ?_));refine iP I (fun hm5=>?_) (fun hm5=>?_)
        ·refine bK ?_;refine oP (ι:=Nat×Value) (fun z=>[(5,pp b5 0),(7,z.2)]) (fun _=>g1) (fun z=>rowA aA 25 z.2 (ts.map Prod.fst++List.replicate z.1 ⟨none,0,0⟩)::pt b5 (.cells #[vi q0,vi q1,vi q2] 26 (0,0))::s) (fun z=>z.1≤8) (fun z=>8 - z.1) (0,.slice (some ⟨bo,0,none⟩) T.length co) sB I (by dsimp only; rw[List.replicate_zero,zc4]) (zf4 _) ?_;rintro ⟨i,ov⟩ hi8;dsimp only at hi8 ⊢;refine zd2 fun hx=>?_;obtain ⟨w0,hw0⟩:=hx;obtain ⟨po,do',rfl⟩:=ag hw0 (i:=0) rfl;clear hw0 w0;have hrl:(ts.map Prod.fst++List.replicate i (⟨none,0,0⟩:Sv)).length=T.length+i:=by rw[ze3,List.length_replicate,hml]
         have hm3r:=aB q2 3 dC dC;refine sQ (sW I (lU (eN br I) (lU (iB ja zT3 I I dC dC) (lK (qL (v:=vi q2) iT3 I (cO 1 I I)) (lW (cL dD I (ah E g1 _ q2 3 dC)) ?_)))));rintro _ _ _ ⟨rfl,rfl,rfl⟩;refine yD I (yL I (tZ ?_));refine iP I (fun hlt5=>?_) (fun hlt5=>?_)
         ·refine kP (tN (bK (rG (lM I (lW (bS sty22 I I I (ab ⟨I,trivial⟩) dC) ?_)))));rintro _ _ _ ⟨b121,rfl,rfl,rfl⟩;refine lW (aP (e:=aA) (l:=ts.map Prod.fst++List.replicate i ⟨none,0,0⟩) 0 ⟨none,0,0⟩ sty22 I I I I I oM oM) ?_;rintro v122 _ _ ⟨rfl,rfl⟩;refine lA I (nL (bN ?_));exact gA (i+1,v122) sB I (by dsimp only; rw[List.replicate_succ',zg6]; rfl) (by dsimp only; omega) (by dsimp only; omega)
         ·refine xI (tX (tX (bX (bN (fT fun g2 hle2 hs2=>?_)))));refine dR (.cons _ (.refl _)) ?_;refine za7 (g2,_) ⟨I,trivial⟩ I I ⟨hle1.trans hle2,hfin g2 _ _ (T++List.replicate i []) hs2 ((hall1.mono fun _ _=>be.mono hle2).append (sY g2 i)) (by rw[ze3,List.length_replicate]; omega) fun t ht=>?_⟩
          rcases zf1.1 ht with h | h
          ·exact hT9 t h
          ·rw[(List.mem_replicate.1 h).2];exact zf4 _
        ·refine kP (bN (fT fun g2 hle2 hs2=>?_));refine dR (.cons _ (.refl _)) ?_;exact za7 (g2,.slice (some ⟨bo,0,none⟩) T.length co) ⟨I,trivial⟩ I I ⟨hle1.trans hle2,hfin g2 _ _ T hs2 (hall1.mono fun _ _=>be.mono hle2) oM hT9⟩
  rintro ⟨g9,ov9⟩ ⟨hle9,T9,hT9',hsm9⟩;dsimp only at hle9 hT9' ⊢;refine sW I (aT I (rE ?_));exact za6 (.inl I) results9 I ⟨I,hle9,T9,hT9',hsm9⟩
theorem o0 (E:World)(g:PH)(s:Own)(v u:Value)(L:List (Int×List Tm))(hv:Ims g v L)(hu:Ims g u L)(hs:L.length≤4000∧∀ p∈L,p.2.length≤64) :
  Ctr Tryz.prog E 30 #[.agg #[v],.agg #[u]] g s (fun r g' s'=>r=vb true∧g=g'∧s=s'):=by
 obtain ⟨ra,hra,halla⟩:=id hv;obtain ⟨rb,hrb,hallb⟩:=id hu;obtain ⟨pa,ca,rfl⟩:=za2 hra;obtain ⟨pb,cb,rfl⟩:=za2 hrb;refine za9 (args:=[.agg #[.slice pa ra.length ca],.agg #[.slice pb rb.length cb]]) func30 I ntmps30 (bE I) ?_;refine rZ (bW (bO I) fun b2=>?_);refine bW (bO I) fun b3=>?_;refine aT I (rZ (lK (qV 1 isAgg45 sizeOf45 I I I) (lK (qV 0 isAgg45 sizeOf45 I I I) (lW (cL call75 I (tr E g _ _ _ L hv hu hs)) ?_))));rintro _ _ _ ⟨rfl,rfl,rfl⟩;refine aT I (rE (dR (s':=s) uR ?_));exact za6 (.inl I) results30 I ⟨I,I,I⟩
theorem iz (E:World)(hE:E.drawn=0)(g:PH)(s:Own)(v tv:Value)(l:List Cl)(T:List (List Int))(hv:ao g v l)(hr:gn 21 200 l)(h64:i6 l)(ht:aH g tv T)(hT:Tsm T) :
  Ctr Tryz.prog E 10 #[.agg #[v],tv] g s (fun r g' s'=>r=vb true∧s=s'∧Le g g'):=by
 obtain ⟨vp,vc,rfl⟩:=hv.form;have hf:cU l:=hr.fits dC dC;have hTl:T.length<1099511627776:=by have:=hT.few; omega
 have hTs:∀ t∈T,t.length<1099511627776:=fun t h=>by have:=hT.len t h; omega
 have hTc:=hT.cost hr;have hB:=p4 hr T;have hM:=vB hr T;have hBf:cU (aF l T):=vC l T;refine za9 (args:=[.agg #[.slice vp l.length vc],tv]) func10 I ntmps10 (bE I) ?_;refine rZ (bW (bO I) fun b2=>?_);refine aT I (sQ ?_);refine dW [] [(0,1),(1,2),(3,1),(4,2),(2,0),(5,0),(6,2),(7,2),(8,1),(9,2),(11,1),(12,2),(10,0),(13,0),(14,0),(15,2),(16,2),(17,1),(18,2),(20,1),(21,2),(19,0),(22,0),(23,0),(24,2),(25,2)] ze1 kR ?_;refine pK I (qV 0 aY ar I I I) (yM I (pK I (qV 0 aY ar I I I) (yM I (SP.o I (cL call11 I (gt E hE g _ _ tv l T hv hf h64 ht hTl hTs)) dC (.inr iR) ?_))));rintro _ g1 _ ⟨rfl,hle1,rfl⟩;have hv1:=hv.mono hle1;have ht1:=ht.mono hle1;refine SP.o rfl (cL call27 rfl (mg E g1 _ _ tv l T hv1 hf ht1 hTl hTc)) dC (.inr (by rintro _ g2 _ ⟨rfl,rfl,hle2⟩; exact⟨by exact Le.trans (by assumption) (by assumption),(by exact .refl _)⟩)) ?_;rintro _ g2 _ ⟨rfl,rfl,hle2⟩;have hac:=hle1.trans hle2;have hv2:=hv1.mono hle2;have ht2:=ht1.mono hle2;refine pU rfl (SU.eq (v':=vb true) (eQ rfl rfl) (zd9 vb (zf6 rfl))) (yM rfl (SP.gq rfl (gT rfl rfl rfl dC) (qV 0 aY ar rfl rfl rfl) dC (yJ rfl (SP.gq rfl (gT rfl rfl rfl dC) (qV 0 aY ar rfl rfl rfl) dC (yJ rfl (SP.go rfl (gT rfl rfl rfl dC) (cL call12 rfl (j5 E hE g2 _ _ tv l T hv2 hf h64 ht2 hTl hTs)) dC (.inr (by rintro _ g3 _ ⟨rfl,hle3,u3,rfl,hu3⟩; exact⟨by exact Le.trans (by assumption) (by assumption),(by exact .refl _)⟩)) ?_))))));rintro _ g3 _ ⟨rfl,hle3,u3,rfl,hu3⟩;have hac:=hac.trans hle3;have hv3:=hv2.mono hle3;have ht3:=ht2.mono hle3;refine SP.go rfl (gT rfl rfl rfl dC) (cL call29 rfl (mo E g3 _ _ tv l T hv3 hf ht3 hTl hTc)) dC (.inr (by rintro _ g4 _ ⟨rfl,hle4,u4,rfl,hu4⟩; exact⟨by exact Le.trans (by assumption) (by assumption),(by exact .refl _)⟩)) ?_;rintro _ g4 _ ⟨rfl,hle4,u4,rfl,hu4⟩;have hac:=hac.trans hle4;have hv4:=hv3.mono hle4;have ht4:=ht3.mono hle4;replace hu3:=hu3.mono hle4;refine SP.go I (gT I I I dC) (cL call28 I (uM E g4 _ _ _ _ hu3 hu4 hBf)) dC (.inr iR) ?_;rintro _ _ _ ⟨rfl,rfl,rfl⟩;refine pU rfl (wT rfl rfl) (yM rfl (SP.gq rfl (gT rfl rfl rfl dC) (qV 0 aY ar rfl rfl rfl) dC (yJ rfl (SP.gq rfl (gT rfl rfl rfl dC) (qV 0 aY ar rfl rfl rfl) dC (yJ rfl (SP.go rfl (gT rfl rfl rfl dC) (cL call14 rfl (tz E hE g4 _ _ tv l T hv4 hf h64 ht4 hTl hTs)) dC (.inr (by rintro _ g5 _ ⟨rfl,hle5,u5,rfl,hu5⟩; exact⟨by exact Le.trans (by assumption) (by assumption),(by exact .refl _)⟩)) ?_))))));rintro _ g5 _ ⟨rfl,hle5,u5,rfl,hu5⟩;have hac:=hac.trans hle5;have hv5:=hv4.mono hle5;have ht5:=ht4.mono hle5;refine SP.go rfl (gT rfl rfl rfl dC) (cL call31 rfl (oI E g5 _ _ tv l T hv5 hf ht5 hTl hTc)) dC (.inr (by rintro _ g6 _ ⟨rfl,hle6,u6,rfl,hu6⟩; exact⟨by exact Le.trans (by assumption) (by assumption),(by exact .refl _)⟩)) ?_;rintro _ g6 _ ⟨rfl,hle6,u6,rfl,hu6⟩;replace hu5:=hu5.mono hle6;refine SP.go rfl (gT rfl rfl rfl dC) (cL call30 rfl (o0 E g6 _ _ _ _ hu5 hu6 hM)) dC (.inr (by rintro _ _ _ ⟨rfl,rfl,rfl⟩; exact⟨by exact Le.trans (by assumption) (by assumption),(by exact .refl _)⟩)) ?_;rintro _ _ _ ⟨rfl,rfl,rfl⟩;refine pU I (wT I I) (pU I (aS I) (pN (tN (rE (dR (s':=s) uR ?_)))));exact za6 (.inl I) results10 I ⟨I,I,hle1.trans (hle2.trans (hle3.trans (hle4.trans (hle5.trans hle6))))⟩
theorem zq {g:PH}{s:Own}{b o:Nat}{cs:Array Value}{T:TypeId}{fr:Nat×Nat}{x y z:Value}(i:Nat)(hs:s[i]?=some (pt b (.cells cs T fr)))(h0:cs[o]?=some x)(h1:cs[o+1]?=some y)(h2:cs[o+2]?=some z) :
  ∀ j v,[x,y,z][j]?=some v→eC g s ⟨b,o+j,none⟩ v:=fun j v h=>by
 rcases j with _ | _ | _ | j
 ·simp at h; subst h; exact cO i hs h0
 ·simp at h; subst h; exact cO i hs h1
 ·simp at h; subst h; exact cO i hs h2
 ·simp at h
theorem lP (E:World)(g:PH)(s:Own)(v:Value)(kd y:Int)(ls:List (List Int))(nv:Value)(ns:List Int)(a0 a1 a2 b0 b1 b2:Int)(hv:aH g v ls)(hn:bZ g nv ns)(ha:dJ a1)(hE:E.drawn=0) :
  Ctr Tryz.prog E 3 #[.agg #[vi kd,v,vi y],nv,.agg #[vi a0,vi a1,vi a2,vi b0,vi b1,vi b2]] g s (fun r g' s'=>r=vb true∧s=s'∧Le g g'):=by
 obtain ⟨p,n,c,rfl⟩:∃ p n c,v = .slice p n c:=by
  obtain ⟨rs0,hrs0,_⟩:=hv;obtain ⟨p,c,rfl⟩:=za2 hrs0;exact⟨_,_,_,I⟩
 have hsm:=zM kd ls y;generalize hMd:iD kd ls y=M at *;have hMr:gn 20 99 M:=hsm.toSml.room;have hMu:=hMr.up;have hMf:cU M:=hMu.fits dC dC;have hMt:(ae M).length≤1000:=by rw[hsm.rt.tab]; have:=hsm.few; omega
 have hDr:=C3 hsm.toSml a0 a1 a2;have hDi:i6 (jk M a0 a1 a2):=wY hsm.ids a0 a1 a2 ha;generalize hDd:jk M a0 a1 a2=D at *;have hDf:cU D:=hDr.fits dC dC;refine za9 (args:=[.agg #[vi kd,.slice p n c,vi y],nv,.agg #[vi a0,vi a1,vi a2,vi b0,vi b1,vi b2]]) func3 I ntmps3 (bE I) ?_;refine rZ (bW (bO I) fun b3=>?_);refine bW (bO I) fun b5=>?_;refine aT I (rZ (lW (cL call5 I (rq E hE g _)) ?_));rintro _ g1 _ ⟨rfl,rfl,hle1⟩;have hv1:=hv.mono hle1;refine aT I (rZ (lK (qV 1 isAgg24 sizeOf24 I I I) (lW (cL call6 I (wZ E g1 _ _ kd y ls hv1)) ?_)));rintro _ g2 _ ⟨rfl,hle2,u2,rfl,hu2⟩;rw[hMd] at hu2;obtain ⟨q2,d2,rfl⟩:=hu2.form;refine bW (aL zk8) fun b8=>?_;refine oZ (sK 0 ar I I I I I ⟨I,trivial⟩) (tZ (rZ (lK (qV 0 aY ar I I I) (lU (iB underlying27 sizeOf26 I I dC dC) (lU (iB ja zT3 I I dC dC) (lK (qL (v:=vi b1) iT3 I (cO 1 I I)) (lU (SU.quo I I dC) (lM I (lW (cL call7 I (wR E g2 _ _ _ M _ ns hu2 hMf hMt (za3 hn (hle1.trans hle2)))) ?_)))))))));rintro tv g3 _ ⟨rfl,hle3,T,hT3,hok⟩;have hu3:=hu2.mono hle3;have hTsm:=hok.tsm hsm;refine aT I (rZ (lK (qV 0 aY ar I I I) (lU (iB underlying27 sizeOf26 I I dC dC) (lK (SQ.loadAggAt (vs:=[vi a0,vi a1,vi a2]) isAgg26 sizeOf26 I I (zq 1 I I I I)) (lW (cL call8 I (tm E g3 _ _ M a0 a1 a2 hu3 hMf)) ?_)))));rintro _ g4 _ ⟨rfl,hle4,u4,rfl,hd4⟩;rw[hDd] at hd4;obtain ⟨q4,d4,rfl⟩:=hd4.form;have hu4:=hu3.mono hle4;have hT4:=hT3.mono hle4;refine bW (aL zk8) fun b10=>?_;refine oZ (sK 0 ar I I I I I ⟨I,trivial⟩) (tZ (rZ (lK (qV 1 aY ar I I I) (lM I (lU (iB underlying27 sizeOf26 I I dC dC) (lK (SQ.loadAggAt (vs:=[vi b0,vi b1,vi b2]) isAgg26 sizeOf26 I I (zq 2 I I I I)) (lW (cL call9 I (uC E g4 _ _ tv M T b0 b1 b2 hu4 hMf hT4 hok.pos (by have:=hok.few; omega) (hok.len9 hsm))) ?_)))))));rintro uv g5 _ ⟨rfl,hle5,U,hU5,hUsm⟩;have hu5:=hu4.mono hle5;have hT5:=hT4.mono hle5;have hd5:=hd4.mono hle5;refine aT I (rZ (lK (qV 1 aY ar I I I) (lM I (lW (cL call10 I (iz E hE g5 _ _ tv M T hu5 hMu hsm.ids hT5 hTsm)) ?_))));rintro _ g6 _ ⟨rfl,rfl,hle6⟩;have hu6:=hu5.mono hle6;have hT6:=hT5.mono hle6;have hd6:=hd5.mono hle6;have hU6:=hU5.mono hle6;refine aT I (rZ (lK (qV 1 aY ar I I I) (lM I (lW (cL call10 I (iz E hE g6 _ _ uv M U hu6 hMu hsm.ids hU6 hUsm)) ?_))));rintro _ g7 _ ⟨rfl,rfl,hle7⟩;have hu7:=hu6.mono hle7;have hT7:=hT6.mono hle7;have hd7:=hd6.mono hle7;refine aT I (rZ (lK (qV 0 aY ar I I I) (lM I (lW (cL call10 I (iz E hE g7 _ _ tv D T hd7 hDr hDi hT7 hTsm)) ?_))));rintro _ g8 _ ⟨rfl,rfl,hle8⟩;have hu8:=hu7.mono hle8;have hT8:=hT7.mono hle8;refine aT I (sW I (lM I (yC I (yP I (lM I (yC I (yP I (lM I (yC I (yP I (lM I (SL.gq (gT I I I dC) (qV 1 aY ar I I I) dC (yC I (SL.go (gT I I I dC) (cL call11 I (gt E hE g8 _ _ tv M T hu8 hMf hsm.ids hT8 (by have:=hTsm.few; omega) (fun t h=>by have:=hTsm.len t h; omega))) dC ?_))))))))))))));rintro _ g9 _ ⟨rfl,hle9,rfl⟩;rw[A9 hsm.rt hok];refine lY I I I (SU.eq (v':=vb true) (eQ I I) (zd9 vb (zf6 I))) (yP I (aT I (rE (dR (s':=s) uR ?_))));exact za6 (.inl I) results3 I ⟨I,I,hle1.trans (hle2.trans (hle3.trans (hle4.trans (hle5.trans (hle6.trans (hle7.trans (hle8.trans hle9)))))))⟩
end Go.Proofs.YtcfkpajlakidbaaGreatDoor
namespace Go.Proofs.YtcfkpajlakidbaaGreatDoor.tilesBlowupsDone
open _root_.Go.Proofs.Tryz _root_.Go.Proofs.YtcfkpajlakidbaaGreatDoor.Tryz
open Go Go.Sy Go.Pl Go.Proofs Go.Proofs.YtcfkpajlakidbaaGreatDoor
open Go.ChangeShapes Go.WideShapes Go.ChangeAt Go.RowKit
set_option linter.unusedVariables false
theorem own:ownKnob Tryz.prog.godebug=none:=by kernel_rfl
theorem laidOut:laidOutB Tryz.prog=true:=by kernel_rfl
set_option maxRecDepth 100000 in
theorem lifted (os:Os)(started:os.Started)(H:Type)(enc:TypeId×Value→H) :
  ReturnsInHanded {} Tryz.checked os 3 .any (fun w args=>(Rows.tilesBlowupsSpec.pre enc Tryz.prog f3 Rows.tilesBlowupsRow.domain false w args∧laidMetH Tryz.prog Rows.tilesBlowupsRow.laid w)∧sizedMet enc Tryz.prog f3 (OpenSpec.ofChange Rows.tilesBlowupsSpec) false w args)
   (Rows.tilesBlowupsSpec.post enc Tryz.prog f3 false true false false):=by
 refine returnsInHanded_of_change_and (C:=Tryz.checked) (X:=fun w _=>laidMetH Tryz.prog Rows.tilesBlowupsRow.laid w) (fun _ _ _ hh h=>h.of_heap hh) own started kR func3
  (ChangeSpec.witness_shaped (enc:=enc) (C:=Tryz.checked) (os:=os) (X:=fun w _=>laidMetH Tryz.prog Rows.tilesBlowupsRow.laid w) false (World.laidAll Tryz.prog os Rows.tilesBlowupsRow.laid) #[.agg #[.int .i64 0,.slice none 0 0,.int .i64 0],.slice none 0 0,.agg #[.int .i64 0,.int .i64 0,.int .i64 0,.int .i64 0,.int .i64 0,.int .i64 0]] 8 (World.laidAll_os _ _ _)
   (World.shaped_of_ZipB kR kR) kR kR kR
   (by rw[MakeChecks.laidMetH_plain _ _ _ kR]; exact laidMet_laidAll _ kR kR)) ?_
 intro W base args ds gs before hval0 hW hcnd hsz0 hL _;have hval:∀ (j:Nat) t v,f3.params[j]?=some t→args[j]?=some v→Value.okWide Tryz.prog W .any base t v:=hval0;have hW':=hW;obtain ⟨p,q,hA0,hV,rfl,hfz,hnd⟩:=hW;have hA:DataW.TrodAll enc Tryz.prog W 0 (fun _=>true) true f3.params.toList args.toList ds p:=hA0;rw[params3] at hA hval;obtain ⟨v0,vs0,d0,ds0,p0,q0,hargs,rfl,rfl,h0,r0⟩:=trodAll_cons hA;obtain ⟨v1,vs1,d1,ds1,p1,q1,rfl,rfl,rfl,h1,r1⟩:=trodAll_cons r0;obtain ⟨v2,vs2,d2,ds2,p2,q2,rfl,rfl,rfl,h2,r2⟩:=trodAll_cons r1;obtain ⟨rfl,rfl,rfl⟩:=trodAll_nil r2;obtain rfl:args = #[v0,v1,v2]:=by cases args; simp_all
 obtain ⟨rfl,rfl⟩:=trodVars_none hV;have lt0:∀ x∈p0,x.block<W.heap.size:=by obtain ⟨m,hm⟩:=h0; exact DataW.trod_lt m _ _ _ hm
 have lt1:∀ x∈p1,x.block<W.heap.size:=by obtain ⟨m,hm⟩:=h1; exact DataW.trod_lt m _ _ _ hm
 have lt2:∀ x∈p2,x.block<W.heap.size:=by obtain ⟨m,hm⟩:=h2; exact DataW.trod_lt m _ _ _ hm
 obtain ⟨kd,y,u,ls,e0,hls⟩:=Bi (hval 0 24 v0 rfl rfl) h0;obtain ⟨a1,n1,c1,s1⟩:=okWide_slice ak (hval 1 25 v1 rfl rfl);obtain ⟨ns1,hn1⟩:=BK h1 (by rw[s1]; rfl);obtain ⟨x2_0,x2_1,x2_2,x2_3,x2_4,x2_5,e2,w2_1,w2_4⟩:=Eb (hval 2 27 v2 rfl rfl) h2;clear hA0 hval0;have walk:Calls Tryz.prog 3 #[v0,v1,v2] W fun e w'=>e = .returned (.bool true)∧Below W.heap.size W w':=by
  rw[e0,e2];refine (lP (E0 W) (vK W) [] u kd y ls _ ns1 x2_0 x2_1 x2_2 x2_3 x2_4 x2_5 hls hn1 w2_1 I W (Ca W)).mono ?_;rintro e w' ⟨v,g',s',rfl,hat,rfl,rfl,hle⟩;exact⟨I,Cc hat hle⟩
 refine walk.mono fun e W' ⟨he,bel⟩=>?_;subst he;exact⟨_,I,_,_,_,[],_,[],hW',trodAll_mk1 (shut_bool underlying4 _),(trodAll_cons_mk (Below.trod laidOut kR (zg1 kR) h0 bel lt0) (trodAll_cons_mk (Below.trod laidOut kR (zg1 kR) h1 bel lt1) (trodAll_cons_mk (Below.trod laidOut kR (zg1 kR) h2 bel lt2) trodAll_mk0))),I,bel.frame _,fun h=>by cases h⟩
def CB (P:Program)(fn:Func)(c:OpenClaim):Bool:=(c.kinds == (if c.domain.isEmpty then [] else fn.params.toList.map fun t=>match P.underlying t with | some (.int k)=>some k | _=>none))
theorem gC {a b:Bool}(h:a=true)(k:b=true):(a&&b)=true:=by rw[h,k]; rfl
theorem Ah {P:Program}{f:FuncId}{fn:Func}{s:ChangeSpec}{c:OpenClaim}
  (h0:(c.wf (OpenSpec.ofChange s))=true)
  (h1:(laidOutB P)=true)
  (h2:(mapsRowed P)=true)
  (h3:(fn.params.all (P.readableRec ·))=true)
  (h4:(namedTie P c.named s.vars)=true)
  (h5:((c.stops == []))=true)
  (h6:((P.stops == []))=true)
  (h7:((c.knobs == []))=true)
  (h8:((P.stopKnobs == []))=true)
  (h9:((c.inPlace == P.inPlace f))=true)
  (h10:((c.unfollowed == P.unfollowed f))=true)
  (h11:((c.recurses == P.recurses f))=true)
  (h12:((c.named == P.varsNamed f))=true)
  (h13:((c.maps == (fn.params.toList++s.plain.varTypes P).any (P.mapsRec ·)))=true)
  (h14:((c.ifaces == (fn.params.toList++s.plain.varTypes P).any (P.ifacesRec ·)))=true)
  (h15:((c.mapsOut == P.mapsAmong fn.resultTypes.toList))=true)
  (h16:((c.loops == (fn.params.toList++s.plain.varTypes P).any (P.loopsFrom ·)))=true)
  (h17:((c.wideKeys == (fn.params.toList++s.plain.varTypes P++fn.resultTypes.toList).any (P.wideKeysFrom ·)))=true)
  (h18:(s.vars.all (P.varReadable ·))=true)
  (h19:(fn.resultTypes.all (fun t=>P.readableRec t&&decide (t<P.types.size)))=true)
  (h20:((c.ifacesOut == fn.resultTypes.toList.any (P.ifacesRec ·)))=true)
  (h21:((c.loopsOut == fn.resultTypes.toList.any (P.loopsFrom ·)))=true)
  (h22:((c.plainKeys == P.plainKeys))=true)
  (h23:(c.shortTexts.isNone)=true)
  (h24:(P.stopsHeard)=true)
  (h25:(P.mayEnter)=true)
  (h26:((c.lifted == P.liftsFinal))=true)
  (h27:((P.make == some c.make))=true)
  (h28:(CB P fn c)=true)
  (h29:((c.pinned == c.pinnedBy))=true)
  (h30:((c.veiled == (fn.params.toList++s.plain.varTypes P++fn.resultTypes.toList).any (P.veiledRec ·)))=true)
  (h31:(c.veiledFits P fn.params.toList (fn.params.toList++s.plain.varTypes P++fn.resultTypes.toList))=true)
  : joinedFacts P f fn s c=true:=by
 exact gC (gC (gC (gC (gC (gC (gC (gC (gC (gC (gC (gC (gC (gC (gC (gC (gC (gC (gC (gC (gC (gC (gC (gC (gC (gC (gC (gC (gC (gC (gC h0 h1) h2) h3) h4) h5) h6) h7) h8) h9) h10) h11) h12) h13) h14) h15) h16) h17) h18) h19) h20) h21) h22) h23) h24) h25) h26) h27) h28) h29) h30) h31
theorem k0:(Rows.tilesBlowupsRow.wf (OpenSpec.ofChange Rows.tilesBlowupsSpec))=true:=by kernel_rfl
theorem k1:(laidOutB Tryz.prog)=true:=by kernel_rfl
theorem k2:(mapsRowed Tryz.prog)=true:=by kernel_rfl
theorem k3:(f3.params.all (Tryz.prog.readableRec ·))=true:=by kernel_rfl
theorem k4:(namedTie Tryz.prog Rows.tilesBlowupsRow.named Rows.tilesBlowupsSpec.vars)=true:=by kernel_rfl
theorem k5:((Rows.tilesBlowupsRow.stops == []))=true:=by kernel_rfl
theorem k6:((Tryz.prog.stops == []))=true:=by kernel_rfl
theorem k7:((Rows.tilesBlowupsRow.knobs == []))=true:=by kernel_rfl
theorem k8:((Tryz.prog.stopKnobs == []))=true:=by kernel_rfl
theorem k9:((Rows.tilesBlowupsRow.inPlace == Tryz.prog.inPlace 3))=true:=by kernel_rfl
theorem k10:((Rows.tilesBlowupsRow.unfollowed == Tryz.prog.unfollowed 3))=true:=by kernel_rfl
theorem k11:((Rows.tilesBlowupsRow.recurses == Tryz.prog.recurses 3))=true:=by kernel_rfl
theorem k12:((Rows.tilesBlowupsRow.named == Tryz.prog.varsNamed 3))=true:=by kernel_rfl
theorem k13:((Rows.tilesBlowupsRow.maps == (f3.params.toList++Rows.tilesBlowupsSpec.plain.varTypes Tryz.prog).any (Tryz.prog.mapsRec ·)))=true:=by kernel_rfl
theorem k14:((Rows.tilesBlowupsRow.ifaces == (f3.params.toList++Rows.tilesBlowupsSpec.plain.varTypes Tryz.prog).any (Tryz.prog.ifacesRec ·)))=true:=by kernel_rfl
theorem k15:((Rows.tilesBlowupsRow.mapsOut == Tryz.prog.mapsAmong f3.resultTypes.toList))=true:=by kernel_rfl
theorem k16:((Rows.tilesBlowupsRow.loops == (f3.params.toList++Rows.tilesBlowupsSpec.plain.varTypes Tryz.prog).any (Tryz.prog.loopsFrom ·)))=true:=by kernel_rfl
theorem k17:((Rows.tilesBlowupsRow.wideKeys == (f3.params.toList++Rows.tilesBlowupsSpec.plain.varTypes Tryz.prog++f3.resultTypes.toList).any (Tryz.prog.wideKeysFrom ·)))=true:=by kernel_rfl
theorem k18:(Rows.tilesBlowupsSpec.vars.all (Tryz.prog.varReadable ·))=true:=by kernel_rfl
theorem k19:(f3.resultTypes.all (fun t=>Tryz.prog.readableRec t&&decide (t<Tryz.prog.types.size)))=true:=by kernel_rfl
theorem k20:((Rows.tilesBlowupsRow.ifacesOut == f3.resultTypes.toList.any (Tryz.prog.ifacesRec ·)))=true:=by kernel_rfl
theorem k21:((Rows.tilesBlowupsRow.loopsOut == f3.resultTypes.toList.any (Tryz.prog.loopsFrom ·)))=true:=by kernel_rfl
theorem k22:((Rows.tilesBlowupsRow.plainKeys == Tryz.prog.plainKeys))=true:=by kernel_rfl
theorem k23:(Rows.tilesBlowupsRow.shortTexts.isNone)=true:=by kernel_rfl
theorem k24:(Tryz.prog.stopsHeard)=true:=by kernel_rfl
theorem k25:(Tryz.prog.mayEnter)=true:=by kernel_rfl
theorem k26:((Rows.tilesBlowupsRow.lifted == Tryz.prog.liftsFinal))=true:=by kernel_rfl
theorem k27:((Tryz.prog.make == some Rows.tilesBlowupsRow.make))=true:=by kernel_rfl
theorem k28:(CB Tryz.prog f3 Rows.tilesBlowupsRow)=true:=by kernel_rfl
theorem k29:((Rows.tilesBlowupsRow.pinned == Rows.tilesBlowupsRow.pinnedBy))=true:=by kernel_rfl
theorem k30:((Rows.tilesBlowupsRow.veiled == (f3.params.toList++Rows.tilesBlowupsSpec.plain.varTypes Tryz.prog++f3.resultTypes.toList).any (Tryz.prog.veiledRec ·)))=true:=by kernel_rfl
theorem k31:(Rows.tilesBlowupsRow.veiledFits Tryz.prog f3.params.toList (f3.params.toList++Rows.tilesBlowupsSpec.plain.varTypes Tryz.prog++f3.resultTypes.toList))=true:=by kernel_rfl
theorem kp:Rows.tilesBlowupsRow.wfByText (OpenSpec.ofChange Rows.tilesBlowupsSpec)=true:=by kernel_rfl
theorem kf : Tryz.prog.funcNamed "cocycle/cocyclelaw24.TilesBlowups" = some 3:=by kernel_rfl
theorem kr:Tryz.pinned.checked.prog.funcNamed Rows.tilesBlowupsRow.func=some 3:=by kernel_rfl
theorem kj:joinedFacts Tryz.pinned.checked.prog 3 f3 Rows.tilesBlowupsSpec Rows.tilesBlowupsRow=true :=
 Ah k0 k1 k2 k3 k4 k5 k6 k7 k8 k9 k10 k11 k12 k13 k14 k15 k16 k17 k18 k19 k20 k21 k22 k23 k24 k25 k26 k27 k28 k29 k30 k31
theorem ki:f3.isInstance Tryz.prog Rows.tilesBlowupsRow.origin Rows.tilesBlowupsRow.targs:=zg1 kR
theorem kw:f3.isWrapper Tryz.prog Rows.tilesBlowupsRow.wrapper Rows.tilesBlowupsRow.mainSum:=by unfold Func.isWrapper; first | (rw[zf8 (by decide +kernel)]; kernel_rfl) | (rw[zf7 (by decide +kernel)]; exact⟨I,I⟩)
theorem km : Tryz.prog.mainIs = some (true,("27eb1646721a83e5082c8fc58acfba145bbfb370b2748910c2fcd072b7afacca" : String).toList):=by kernel_rfl
theorem kl:false=Tryz.prog.looks []:=by kernel_rfl
theorem kg:false=Rows.tilesBlowupsRow.goesBy Tryz.prog:=by kernel_rfl
theorem kq:([24,25,27].all fun u=>!Tryz.prog.wantsStandIn u)=true:=by kernel_rfl
theorem over:Rows.tilesBlowupsRow.holds Tryz.pinned (OpenSpec.ofChange Rows.tilesBlowupsSpec) :=
 OpenClaim.holds_of_wide 3 f3 rfl rfl rfl rfl rfl rfl rfl ⟨rfl,rfl,rfl,rfl,rfl⟩ rfl rfl rfl rfl rfl kr func3 kj ki kw
  (fun os started H enc _=>lifted os started H enc)
theorem proved:Rows.TilesBlowupsCardSaid :=
 Claim7.holds_tied_plain_at .later [] [.data,.pinned] true (true, "27eb1646721a83e5082c8fc58acfba145bbfb370b2748910c2fcd072b7afacca") false
  over (fun _ h=>by cases h) kp (fun _ h=>by cases h) tilesBlowups_row_tie rfl ⟨rfl,rfl⟩ km rfl
  (fun f fn hf hfn=>by
   obtain rfl:f=3:=Option.some.inj (kf.symm.trans hf) |>.symm;obtain rfl:fn=f3:=(Option.some.inj (func3.symm.trans hfn)).symm;exact⟨kl,fun j t ht=>by
    rw[params3] at ht;have hm:t∈[24,25,27]:=by simpa using Array.mem_of_getElem? ht
    exact (show Tryz.prog.wantsStandIn t=false by simpa using List.all_eq_true.1 kq t hm)⟩)
  kg
#print axioms proved
end Go.Proofs.YtcfkpajlakidbaaGreatDoor.tilesBlowupsDone
