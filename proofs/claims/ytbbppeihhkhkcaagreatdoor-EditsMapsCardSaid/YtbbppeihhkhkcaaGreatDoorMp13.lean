/- 13 -/
import Derived.Test.YtbbppeihhkhkcaaGreatDoorMp12
import Derived.Test.YtbbppeihhkhkcaaGreatDoorMp11
import Derived.Test.YtbbppeihhkhkcaaGreatDoorMp06
import Derived.Test.YtbbppeihhkhkcaaGreatDoorMp09
import Derived.Test.YtbbppeihhkhkcaaGreatDoorMp10
import Derived.Test.YtbbppeihhkhkcaaGreatDoorMp08
import Derived.Test.YtbbppeihhkhkcaaGreatDoorMp05
set_option linter.unusedSimpArgs false
set_option linter.unusedVariables false
namespace Go.Proofs.YtbbppeihhkhkcaaGreatDoor
open _root_.Go.Proofs.Tryz _root_.Go.Proofs.YtbbppeihhkhkcaaGreatDoor.Tryz
open Go Go.Sy Go.Pl Go.Proofs
set_option maxRecDepth 100000
set_option maxHeartbeats 8000000
theorem yt (r m:Nat)(es es':Array MapEntry)(clk:Nat)(vis:List MapEntry)(k:Int)(v:Value):eW r m es clk (vis.map (oL k v))=eW r m es' clk vis:=by
 unfold eW;rw[zi5,show (fun e:MapEntry=>e.born) ∘ oL k v=fun e=>e.born from funext fun e=>t6 k v e]
theorem tY (k:Int)(v:Value)(vl:List (Int×Value)):(vl.map (AD k v)).map Prod.fst=vl.map Prod.fst:=by
 rw[zi5];refine zc8 fun p _=>?_;simp only[Function.comp];unfold AD;split
 ·rename_i h;exact h.symm
 ·rfl
theorem FB (x:Ent)(L R s:Own):(x::(L++(R++s))).Perm (L++((R++[x])++s)):=by
 have h:=(zk2 (a:=x) (l₁:=L++R) (l₂:=s)).symm;simpa [zg8] using h
theorem Fs {sl:List (Int×Value)}{L:List Int}(h:ru sl fun k=>decide (k∈L))(a b:Int):ru (dG (dG sl a (vb true)) b (vb true)) fun k=>decide (k∈L++[a,b]):=((h.put a).put b).congr fun k=>by
 by_cases h1:k=a <;> by_cases h2:k=b <;> by_cases h3:k∈L <;> simp[h1,h2,h3]
theorem GF {ps:List Pr}(h:(ps.map Prod.snd).Nodup){q:Pr}(hq:q∈ps):byF ps q.2=some q.1:=by
 unfold byF;induction ps with
 | nil=>simp at hq
 | cons p ps ih =>
  rw[zg4,zk3] at h;rw[zi6]
  rcases zf1.1 hq with rfl | hq
  ·simp
  ·have hne:¬ p.2=q.2:=fun e=>h.1 (by rw[e]; exact zf2.2 ⟨q,hq,I⟩);rw[zf7 hne];exact ih h.2 hq
theorem Ej {ps:List Pr}{k:Int}(h:k ∉ ps.map Prod.snd):byF ps k=none:=by
 unfold byF;rw[List.find?_eq_none.2 fun p hp=>by
  have:p.2≠k:=fun e=>h (by rw[← e]; exact zf2.2 ⟨p,hp,I⟩);simpa using this]
 rfl
theorem Cy {e:Ed}{ts:Ts}(hk:∀ k,k∈ts.map Prod.fst↔k∈e.pairs.map Prod.snd)(hn:(e.pairs.map Prod.snd).Nodup)(ht:∀ t∈ts,∃ q∈e.pairs,q.2=t.1∧t.2.2=[(q.1,1)])(k:Int):tV ts k=ec e k:=by
 unfold tV ec;cases hf:ts.find? fun t=>decide (t.1=k) with
 | some t =>
  have h1:=zk7 hf;have h2:t.1=k:=by simpa using List.find?_some hf
  obtain ⟨q,hq,h3,h4⟩:=ht t h1;have h5:=GF hn hq;rw[h3,h2] at h5;rw[h5];dsimp only;rw[h4];rfl
 | none =>
  have h1:k ∉ ts.map Prod.fst:=fun hm=>by
   obtain ⟨t,ht1,ht2⟩:=zf2.1 hm;have:=List.find?_eq_none.1 hf t ht1;simp[ht2] at this
  rw[Ej (fun hm=>h1 ((hk k).2 hm))]
theorem Ca (ts:Ts)(t:Int×Value×List Tm):ii (ts++[t])=ii ts++[(t.1,t.2.1)]:=by unfold ii; rw[zg5]; rfl
theorem zI (ts:Ts)(t:Int×Value×List Tm):di (ts++[t])=di ts++[rowA a6 82 t.2.1 t.2.2]:=by unfold di; rw[zg5]; rfl
theorem Cb (ts:Ts):(ii ts).map Prod.fst=ts.map Prod.fst:=by unfold ii; rw[zi5]; rfl
theorem FA (rs:List Rc):(rs.map ah).map Prod.fst=rs.map Rc.id:=by rw[zi5]; rfl
theorem tF (E:World)(g:PH)(s:Own)(bx mb ms:Nat)(u v:Value)(e:Ed)(A:List Cl)(rs:List Rc)(hf:ci A)(hn:(A.map Cl.id).Nodup)(hall:aF (aw g) A rs)(he:EdR g v e)(hpl:e.pairs.length<1099511627776) :
  Ctr Tryz.prog E 108 #[pp bx 0,v] g (edP bx u mb ms false::mp mb (rs.map ah)::mp ms []::s) (fun r g' s'=>Le g g'∧r=vi (dX A e) ∧
   (if dX A e=0 then ∃ rs' ts,aF (aw g') (eP A e) rs'∧C6 ts∧(ts.map Prod.fst).Nodup∧(∀ k,tV ts k=ec e k)∧s'=edP bx u mb ms false::mp mb (rs'.map ah)::mp ms (ii ts)::(di ts++s) else ∃ h,s'=h++s)):=by
 obtain ⟨sv,pv,rfl,hsv,hpv⟩:=he;have hsvf:=za4 hsv;have hpvf:=za4 hpv;obtain ⟨sp,sc,rfl⟩:=hsvf;obtain ⟨qp,qc,rfl⟩:=hpvf;have hfnd:∀ {gg:PH} {id:Int},aF (aw gg) A rs→(am A id).isSome=true→∃ cc rr,am A id=some cc∧cc∈A∧df (rs.map ah) id=some (rcv rr)∧aw gg cc rr:=fun {gg id} hal h=>by
  rcases fJ (fun _ _ h=>h.1) hal id with ⟨h1,_⟩ | ⟨cc,rr,h1,h2,h3⟩
  ·unfold am at h; rw[h1] at h; cases h
  ·exact⟨cc,rr,h1,zk7 h1,h2,h3⟩
 refine zb2 (args:=[pp bx 0,.agg #[vi e.kind,vi e.cell,vi e.dim,vi e.new,vi e.other,.slice sp e.sides.length sc,.slice qp e.pairs.length qc]]) func108 I ntmps108 (bE I) ?_;refine rZ (bW (bO I) fun b3=>?_);refine aT I (rZ (lW (SO.mkMap) ?_));rintro _ _ _ ⟨b17,rfl,rfl,rfl⟩;refine lW (SO.mkMap) ?_;rintro _ _ _ ⟨b18,rfl,rfl,rfl⟩;refine lA I (aT I (rZ (lA I (aT I (sQ (rZ (lU (fA cY I sizeOf40 I) (lK (qL (v:=.slice qp e.pairs.length qc) isAgg40 I (cO 2 I I)) (lU (eN AE I) (lM I (tZ (bK ?_))))))))))));refine oP (ι:=Nat×List (Int×Value)×List (Int×Value)) (fun i=>[(0,pp bx 0),(3,pp b3 0),(5,.map (some b17)),(6,.map (some b18)),(7,vb (vR (e.pairs.take i.1))),(8,vb ((e.pairs.take i.1).any fun p=>decide (dimOf A p.1≠dimOf A p.2))),(20,.slice qp e.pairs.length qc),(21,vi e.pairs.length),(22,vi i.1)]) (fun _=>g)
  (fun i=>mp b18 i.2.1::mp b17 i.2.2::pt b3 (.cells (edV e (.slice sp e.sides.length sc) (.slice qp e.pairs.length qc)) 42 (0,0))::edP bx u mb ms false::mp mb (rs.map ah)::mp ms []::s)
  (fun i=>i.1≤e.pairs.length∧ru i.2.1 (fun k=>decide (k∈iC (e.pairs.take i.1)))∧(vR (e.pairs.take i.1)=false→i.2.2=(e.pairs.take i.1).map swP)∧(∀ p∈e.pairs.take i.1,(am A p.1).isSome=true∧(am A p.2).isSome=true)) (fun i=>e.pairs.length - i.1) (0,[],[])
  ⟨rfl,rfl,rfl,rfl,(by rw[List.take_zero]; rfl),rfl,rfl,rfl,rfl,trivial⟩ rfl rfl ⟨zf6 _,ru.nil.congr (fun k=>by simp[iC]),fun _=>rfl,fun p hp=>by simp at hp⟩ ?_
 rintro ⟨k,sl,bl⟩ ⟨hk,hsl,hbl,hfd⟩;dsimp only at hk hsl hbl hfd ⊢;refine rZ (yL I (tZ (sQ ?_)));refine iP I (fun hlt=>?_) (fun hlt=>?_)
 ·have hkl:k<e.pairs.length:=oM;have hb1:=za6 hpv oM;have hgk:e.pairs[((k:Nat):Int).toNat]?=some e.pairs[k]:=gE hkl;have htk:e.pairs.take (k+1)=e.pairs.take k++[e.pairs[k]]:=tS hkl;have hd1:=CN (e.pairs.take k) e.pairs[k];have hal1:=vd (e.pairs.take k) e.pairs[k];have hnew:=zF (ps:=e.pairs.take k) (p:=e.pairs[k]);have hany:(e.pairs.take (k+1)).any (fun p=>decide (dimOf A p.1≠dimOf A p.2))=((e.pairs.take k).any (fun p=>decide (dimOf A p.1≠dimOf A p.2))||decide (dimOf A e.pairs[k].1≠dimOf A e.pairs[k].2)):=by rw[htk,List.any_append]; simp
  have hnone:¬ ((am A e.pairs[k].1).isSome=true∧(am A e.pairs[k].2).isSome=true)→dX A e=30:=fun h=>by
   unfold dX;rw[zf9];intro h2;have h3:=zj9.1 h2 _ (gM hkl);rw[zj3] at h3;exact h h3
  rw[← htk] at hd1 hal1;generalize e.pairs[k]=x at *;obtain ⟨x1,x2⟩:=x;dsimp only at hd1 hal1 hany hnone hnew;cases hx1:(am A x1).isSome with
  | false =>
   rw[hnone (by rw[hx1]; rintro ⟨h,_⟩; cases h)];refine kP (tN (sQ (bK (rZ (lU (iA AE rq I I hb1 oM sL) (lK (eA isAgg76 rq I (za7 hpv) hgk) (bW (aL zeroValue76) fun b10=>?_)))))));refine oZ (sK 0 rq I I I I I sB) ?_;refine tZ (sQ (sW I (lU (iB md zT3 I I dC dC) (lK (qL (v:=vi x1) iT3 I (cO 0 I I)) (lW (cL call166 I (ce E g _ bx mb ms _ false x1 _ (fun _ _ h=>h.1) A rs hall 4 5 I I)) ?_)))));rintro _ _ _ ⟨rfl,rfl,rfl⟩;rw[hx1];refine lU (SU.not I) (lM I (yA I (yA I (yA I (yA I (yA I (yP I (tZ (za2 I (rZ (aT I (rE (tR (bR (tR (tR (bR (tR ?_))))))))))))))))));exact za8 (.inl I) results108 I ⟨zb9 _,I,by rw[zf9 dC]; exact⟨[_,_,_,_,_,_,_],I⟩⟩
  | true =>
  cases hx2:(am A x2).isSome with
  | false =>
   rw[hnone (by rw[hx2]; rintro ⟨_,h⟩; cases h)];refine kP (tN (sQ (bK (rZ (lU (iA AE rq I I hb1 oM sL) (lK (eA isAgg76 rq I (za7 hpv) hgk) (bW (aL zeroValue76) fun b10=>?_)))))));refine oZ (sK 0 rq I I I I I sB) ?_;refine tZ (sQ (sW I (lU (iB md zT3 I I dC dC) (lK (qL (v:=vi x1) iT3 I (cO 0 I I)) (lW (cL call166 I (ce E g _ bx mb ms _ false x1 _ (fun _ _ h=>h.1) A rs hall 4 5 I I)) ?_)))));rintro _ _ _ ⟨rfl,rfl,rfl⟩;rw[hx1];refine lU (SU.not I) (lM I (yC I (lY I I I (iB md zT3 I I dC dC) (SL.gq (gT I I I dC) (qL (v:=vi x2) iT3 I (cO 0 I I)) dC (SL.go (gT I I I dC) (cL call166 I (ce E g _ bx mb ms _ false x2 _ (fun _ _ h=>h.1) A rs hall 4 5 I I)) dC ?_)))));rintro _ _ _ ⟨rfl,rfl,rfl⟩;rw[hx2];refine lY I I I (SU.not I) (yF I (tZ (za2 I (rZ (aT I (rE (tR (bR (tR (tR (bR (tR ?_))))))))))));exact za8 (.inl I) results108 I ⟨zb9 _,I,by rw[zf9 dC]; exact⟨[_,_,_,_,_,_,_],I⟩⟩
  | true =>
  obtain ⟨c1,r1,hc1,hcm1,hg1,hr1⟩:=hfnd hall hx1;obtain ⟨c2,r2,hc2,hcm2,hg2,hr2⟩:=hfnd hall hx2;have hdm1:dimOf A x1=c1.dim:=by unfold dimOf; rw[hc1]; rfl
  have hdm2:dimOf A x2=c2.dim:=by unfold dimOf; rw[hc2]; rfl
  rw[hdm1,hdm2] at hany;obtain ⟨ri1,rd1,rp1,rn1,rk1⟩:=r1;obtain ⟨ri2,rd2,rp2,rn2,rk2⟩:=r2;obtain ⟨-,f1,-⟩:=hr1;obtain ⟨-,f2,-⟩:=hr2;dsimp only at f1 f2;subst f1 f2;refine kP (tN (sQ (bK (rZ (lU (iA AE rq I I hb1 oM sL) (lK (eA isAgg76 rq I (za7 hpv) hgk) (bW (aL zeroValue76) fun b10=>?_)))))));refine oZ (sK 0 rq I I I I I sB) ?_;refine tZ (sQ (sW I (lU (iB md zT3 I I dC dC) (lK (qL (v:=vi x1) iT3 I (cO 0 I I)) (lW (cL call166 I (ce E g _ bx mb ms _ false x1 _ (fun _ _ h=>h.1) A rs hall 4 5 I I)) ?_)))));rintro _ _ _ ⟨rfl,rfl,rfl⟩;rw[hx1];refine lU (SU.not I) (lM I (yC I (lY I I I (iB md zT3 I I dC dC) (SL.gq (gT I I I dC) (qL (v:=vi x2) iT3 I (cO 0 I I)) dC (SL.go (gT I I I dC) (cL call166 I (ce E g _ bx mb ms _ false x2 _ (fun _ _ h=>h.1) A rs hall 4 5 I I)) dC ?_)))));rintro _ _ _ ⟨rfl,rfl,rfl⟩;rw[hx2];refine lY I I I (SU.not I) (yF I (tZ (za1 I (kP (tN ?_)))));refine SC.cut (ι:=Unit) (fun _=>[(0,pp bx 0),(3,pp b3 0),(5,.map (some b17)),(6,.map (some b18)),(7,vb (vR (e.pairs.take (k+1)))),(8,vb ((e.pairs.take k).any fun p=>decide (dimOf A p.1≠dimOf A p.2))),(10,pp b10 0),(20,.slice qp e.pairs.length qc),(21,vi e.pairs.length),(22,vi k)]) (fun _=>g)
   (fun _=>pt b10 (.cells #[vi x1,vi x2] 76 (0,0))::mp b18 sl::mp b17 bl::pt b3 (.cells (edV e (.slice sp e.sides.length sc) (.slice qp e.pairs.length qc)) 42 (0,0))::edP bx u mb ms false::mp mb (rs.map ah)::mp ms []::s) (fun _=>True) ?_ ?_
  ·rw[hd1];cases hd0:vR (e.pairs.take k) with
   | true =>
    refine rG (lM I (lM I (yA I (yA I (yA I (yA I (yP I (lM I (yA I (yA I (yA I (yA I (yP I (lM I (yA I (yA I (yA I (yA I (yA I (yP I (lA I (nL ?_))))))))))))))))))))));exact za9 () sB I I trivial
   | false =>
   by_cases hm1:x1∈iC (e.pairs.take k)
   ·refine rG (lM I (lM I (yC I (lY I I I (iB md zT3 I I dC dC) (SL.gq (gT I I I dC) (qL (v:=vi x1) iT3 I (cO 0 I I)) dC (SL.gq (gT I I I dC) (SQ.eq (v':=vb true) (SQ.lookup mty143 I I (bJ.own 1 I)) ((hsl.get x1).trans (ze2 vb (zf8 hm1)))) dC (yF I (lM I (yA I (yA I (yA I (yA I (yP I (lM I (yA I (yA I (yA I (yA I (yA I (yP I (lA I (nL ?_))))))))))))))))))))));exact za9 () ⟨I,I,I,I,(by rw[zf8 hm1]; rfl),rfl,rfl,rfl,rfl,rfl,trivial⟩ rfl rfl trivial
   by_cases hm2:x2∈iC (e.pairs.take k)
   ·refine rG (lM I (lM I (yC I (lY I I I (iB md zT3 I I dC dC) (SL.gq (gT I I I dC) (qL (v:=vi x1) iT3 I (cO 0 I I)) dC (SL.gq (gT I I I dC) (SQ.eq (v':=vb false) (SQ.lookup mty143 I I (bJ.own 1 I)) ((hsl.get x1).trans (ze2 vb (zf7 hm1)))) dC (yF I (lM I (yC I (lY I I I (iB md zT3 I I dC dC) (SL.gq (gT I I I dC) (qL (v:=vi x2) iT3 I (cO 0 I I)) dC (SL.gq (gT I I I dC) (SQ.eq (v':=vb true) (SQ.lookup mty143 I I (bJ.own 1 I)) ((hsl.get x2).trans (ze2 vb (zf8 hm2)))) dC (yF I (lM I (yA I (yA I (yA I (yA I (yA I (yP I (lA I (nL ?_))))))))))))))))))))));exact za9 () ⟨I,I,I,I,(by rw[zf7 hm1,zf8 hm2]; rfl),rfl,rfl,rfl,rfl,rfl,trivial⟩ rfl rfl trivial
   ·refine rG (lM I (lM I (yC I (lY I I I (iB md zT3 I I dC dC) (SL.gq (gT I I I dC) (qL (v:=vi x1) iT3 I (cO 0 I I)) dC (SL.gq (gT I I I dC) (SQ.eq (v':=vb false) (SQ.lookup mty143 I I (bJ.own 1 I)) ((hsl.get x1).trans (ze2 vb (zf7 hm1)))) dC (yF I (lM I (yC I (lY I I I (iB md zT3 I I dC dC) (SL.gq (gT I I I dC) (qL (v:=vi x2) iT3 I (cO 0 I I)) dC (SL.gq (gT I I I dC) (SQ.eq (v':=vb false) (SQ.lookup mty143 I I (bJ.own 1 I)) ((hsl.get x2).trans (ze2 vb (zf7 hm2)))) dC (yF I (lM I (lY I I I (iB md zT3 I I dC dC) (SL.gq (gT I I I dC) (qL (v:=vi x1) iT3 I (cO 0 I I)) dC (lY I I I (iB md zT3 I I dC dC) (SL.gq (gT I I I dC) (qL (v:=vi x2) iT3 I (cO 0 I I)) dC (lY I I I (eQ I I) (yF I (lA I (nL ?_))))))))))))))))))))));exact za9 () ⟨I,I,I,I,(by rw[zf7 hm1,zf7 hm2]; rfl),rfl,rfl,rfl,rfl,rfl,trivial⟩ rfl rfl trivial
  rintro _ -;try dsimp only
  refine SC.cut (ι:=Unit) (fun _=>[(0,pp bx 0),(3,pp b3 0),(5,.map (some b17)),(6,.map (some b18)),(7,vb (vR (e.pairs.take (k+1)))),(8,vb ((e.pairs.take (k+1)).any fun p=>decide (dimOf A p.1≠dimOf A p.2))),(10,pp b10 0),(20,.slice qp e.pairs.length qc),(21,vi e.pairs.length),(22,vi k)]) (fun _=>g)
   (fun _=>pt b10 (.cells #[vi x1,vi x2] 76 (0,0))::mp b18 sl::mp b17 bl::pt b3 (.cells (edV e (.slice sp e.sides.length sc) (.slice qp e.pairs.length qc)) 42 (0,0))::edP bx u mb ms false::mp mb (rs.map ah)::mp ms []::s) (fun _=>True) ?_ ?_
  ·rw[hany];generalize (e.pairs.take k).any (fun p=>decide (dimOf A p.1≠dimOf A p.2))=dm;cases dm with
   | true =>
    refine dW [] [(0,2),(1,2),(2,2),(3,2),(4,2),(5,1),(6,2),(7,1),(8,1),(9,2),(10,2),(11,2),(12,2),(13,1),(14,2),(15,1),(16,1),(17,2),(18,2),(19,2),(20,2)] ze3 kR ?_;refine yM I (yM I (yG I (yG I (yG I (yI I (yG I (yI I (yI I (yG I (yG I (yG I (yG I (yI I (yG I (yI I (yI I (yG I (yG I (pU I (wT I I) (pU I (aS I) (pN ?_)))))))))))))))))))));exact za9 () sB I I trivial
   | false =>
    refine dW [] [(0,2),(1,2),(2,2),(3,2),(4,2),(5,1),(6,2),(7,1),(8,1),(9,2),(10,2),(11,2),(12,2),(13,1),(14,2),(15,1),(16,1),(17,2),(18,2),(19,2),(20,2)] ze3 kR ?_;refine yM I (yM I (yJ I (zb3 I (gT I I I dC) (nC I) dC (zb3 I (gT I I I dC) (fA de I eC I) dC (SP.gq I (gT I I I dC) (qL (v:=.map (some mb)) eD I (cO 4 I I)) dC (zb3 I (gT I I I dC) (iB md zT3 I I dC dC) dC (SP.gq I (gT I I I dC) (qL (v:=vi x1) iT3 I (cO 0 I I)) dC (SP.gq I (gT I I I dC) (SQ.eq (v':=.agg #[vi ri1,vi c1.dim,.slice rp1 rn1 rk1]) (SQ.lookup mty125 I I (bJ.own 5 I)) (by rw[hg1]; rfl)) dC ?_))))))));refine zb3 I (gT I I I dC) (SU.field au I iT3 I I) dC (yJ I (zb3 I (gT I I I dC) (nC I) dC (zb3 I (gT I I I dC) (fA de I eC I) dC (SP.gq I (gT I I I dC) (qL (v:=.map (some mb)) eD I (cO 4 I I)) dC (zb3 I (gT I I I dC) (iB md zT3 I I dC dC) dC (SP.gq I (gT I I I dC) (qL (v:=vi x2) iT3 I (cO 0 I I)) dC (SP.gq I (gT I I I dC) (SQ.eq (v':=.agg #[vi ri2,vi c2.dim,.slice rp2 rn2 rk2]) (SQ.lookup mty125 I I (bJ.own 5 I)) (by rw[hg2]; rfl)) dC ?_)))))));refine zb3 I (gT I I I dC) (SU.field au I iT3 I I) dC (zb3 I (gT I I I dC) (nQ I I) dC (pU I (wF I I) (pU I (aS I) (pN ?_))));exact za9 () sB I I trivial
  rintro _ -;try dsimp only
  refine SC.drawT 1 [] [(0,2),(1,2),(2,1),(3,2),(4,2),(5,1),(6,2),(7,2),(8,1),(9,2),(10,1),(11,0),(12,0),(13,0)] ze3 kR ?_;refine yM rfl (pU rfl (iB md zT3 rfl rfl dC dC) (pK rfl (qL (v:=vi x1) iT3 rfl (cO 0 rfl rfl)) (yM rfl (pU rfl (iB md zT3 rfl rfl dC dC) (pK rfl (qL (v:=vi x2) iT3 rfl (cO 0 rfl rfl)) (yM rfl (pU rfl (iB md zT3 rfl rfl dC dC) (pK rfl (qL (v:=vi x2) iT3 rfl (cO 0 rfl rfl)) (pU rfl (iB md zT3 rfl rfl dC dC) (pK rfl (qL (v:=vi x1) iT3 rfl (cO 0 rfl rfl)) (SP.on rfl (SO.mapUpdate 1 mty143 rfl rfl rfl rfl) (.inr (by rintro _ _ _ ⟨rfl,rfl⟩; exact⟨by exact zb9 _,(by exact f5 _ _ _ _)⟩)) ?_)))))))))));rintro _ _ _ ⟨rfl,rfl⟩;refine SP.on rfl (SO.mapUpdate 1 mty143 rfl rfl rfl rfl) (.inr (by rintro _ _ _ ⟨rfl,rfl⟩; exact⟨by exact zb9 _,(by exact .cons_cons _ (List.nil_sublist _))⟩)) ?_;rintro _ _ _ ⟨rfl,rfl⟩;refine SP.on rfl (SO.mapUpdate 2 mty167 rfl rfl rfl rfl) (.inr (by rintro _ _ _ ⟨rfl,rfl⟩; exact⟨by exact zb9 _,(by exact .cons_cons _ (List.nil_sublist _))⟩)) ?_;rintro _ _ _ ⟨rfl,rfl⟩;refine pN (bN (tN (rG (yD I (lM I (nL (dR (.cons _ (.refl _)) ?_)))))));exact ST.again (k+1,dG (dG sl x1 (vb true)) x2 (vb true),dG bl x2 (vi x1)) sB I I ⟨by dsimp only; omega,by dsimp only; rw[hal1]; exact Fs hsl x1 x2,fun hd=>by
   dsimp only at hd ⊢;rw[hd1,Bool.or_eq_false_iff,Bool.or_eq_false_iff,Bool.or_eq_false_iff,decide_eq_false_iff_not,decide_eq_false_iff_not] at hd;rw[hbl hd.1.1.1,htk,zg5,gS _ _ _ (hnew hd.1.2)];rfl,fun p hp=>by
   dsimp only at hp;rw[htk] at hp
   rcases zf3.1 hp with hp | hp
   ·exact hfd p hp
   ·simp at hp; subst hp; exact⟨hx1,hx2⟩⟩ (by dsimp only; omega)
 ·have hkk:e.pairs.take k=e.pairs:=tL oM;rw[hkk] at hsl hbl hfd ⊢;have hfa:e.pairs.all (fun p=>(am A p.1).isSome&&(am A p.2).isSome)=true:=zj9.2 fun p hp=>by
   obtain ⟨h1,h2⟩:=hfd p hp;rw[h1,h2];rfl
  have hcode:dX A e=if vR e.pairs then 54 else if e.pairs.any (fun p=>decide (dimOf A p.1≠dimOf A p.2)) then 21 else if e.pairs.all (je A e.pairs) then 0 else 33:=by unfold dX; rw[zg1 hfa]
  rw[hcode];refine xI (tX (tX (bX (tN (sQ (bK (sW I (aT I ?_))))))));refine iQ I (fun hdup=>?_) (fun hdup=>?_)
  ·rw[zg1 hdup];refine rZ (aT I (rE (bR (tR ?_))));exact za8 (.inl I) results108 I ⟨zb9 _,I,by rw[zf9 dC]; exact⟨[_,_,_,_,_,_],I⟩⟩
  rw[zf9 (by rw[hdup]; exact Bool.false_ne_true)];refine sW I (aT I ?_);refine iQ I (fun hdim=>?_) (fun hdim=>?_)
  ·rw[zg1 hdim];refine rZ (aT I (rE (bR (tR ?_))));exact za8 (.inl I) results108 I ⟨zb9 _,I,by rw[zf9 dC]; exact⟨[_,_,_,_,_,_],I⟩⟩
  rw[zf9 (by rw[hdim]; exact Bool.false_ne_true)];have hble:=hbl hdup;subst hble;have hnod:(iC e.pairs).Nodup:=by unfold vR at hdup; exact Decidable.not_not.1 (of_decide_eq_false hdup)
  have hsn:=tz hnod;refine kP (bN (tN (sQ (sQ (cP (zk1 _ _ _) (SC.freezeMap fun g2 hle2 hby=>?_))))));refine SC.drop (zj1 _ _) (rG (lU (fA cY I sizeOf40 I) (lK (qL (v:=.slice qp e.pairs.length qc) isAgg40 I (cO 0 I I)) (lU (eN AE I) (lM I (tZ (bK ?_)))))));have hpv2:=za5 hpv hle2;have hall2:=hall.mono fun _ _=>aw.mono hle2;refine oP (ι:=Nat×PH) (fun i=>[(0,pp bx 0),(3,pp b3 0),(5,.map (some b17)),(95,.slice qp e.pairs.length qc),(96,vi e.pairs.length),(97,vi i.1)]) (fun i=>i.2)
   (fun _=>pt b3 (.cells (edV e (.slice sp e.sides.length sc) (.slice qp e.pairs.length qc)) 42 (0,0))::edP bx u mb ms false::mp mb (rs.map ah)::mp ms []::s)
   (fun i=>i.1≤e.pairs.length∧Le g2 i.2∧(e.pairs.take i.1).all (je A e.pairs)=true) (fun i=>e.pairs.length - i.1) (0,g2)
   sB rfl rfl ⟨zf6 _,zb9 _,by simp⟩ ?_
  rintro ⟨k2,g3⟩ ⟨hk2,hle3,hak⟩;dsimp only at hk2 hle3 hak ⊢;refine rZ (yL I (tZ (sQ ?_)));refine iP I (fun hlt2=>?_) (fun hlt2=>?_)
  ·have hkl:k2<e.pairs.length:=oM;have hb1:=za6 hpv2 oM;have hgk:e.pairs[((k2:Nat):Int).toNat]?=some e.pairs[k2]:=gE hkl;have htk:e.pairs.take (k2+1)=e.pairs.take k2++[e.pairs[k2]]:=tS hkl;obtain ⟨hx1,hx2⟩:=hfd _ (gM hkl);have hnot:je A e.pairs e.pairs[k2]=false→(if e.pairs.all (je A e.pairs) then (0:Int) else 33)=33:=fun h=>by
    rw[zf9];intro h2;have h3:=zj9.1 h2 _ (gM hkl);rw[h] at h3;cases h3
   have hyes:je A e.pairs e.pairs[k2]=true→(e.pairs.take (k2+1)).all (je A e.pairs)=true:=fun h=>by
    rw[htk,List.all_append,hak,Bool.true_and];simp[h]
   have hall3:=hall2.mono fun _ _=>aw.mono hle3;have hby3:=hby.mono hle3;generalize e.pairs[k2]=x at *;obtain ⟨x1,x2⟩:=x;dsimp only at hx1 hx2;obtain ⟨c1,r1,hc1,hcm1,hg1,hr1⟩:=hfnd hall3 hx1;obtain ⟨c2,r2,hc2,hcm2,hg2,hr2⟩:=hfnd hall3 hx2;have hal:je A e.pairs (x1,x2)=decide (jx (c1.sides.map (gn (byF e.pairs)))=jx (c2.sides.map (gn (byF e.pairs)))):=by unfold je wk; rw[hc1,hc2]; rfl
   generalize je A e.pairs (x1,x2)=al at *;have hl1:=hf.2 c1 hcm1;have hl2:=hf.2 c2 hcm2;have hl3:(jx (c1.sides.map (gn (byF e.pairs)))).length<1099511627776:=by rw[(eL _).length_eq,ze6]; exact hl1
   obtain ⟨ri1,rd1,rp1,rn1,rk1⟩:=r1;obtain ⟨ri2,rd2,rp2,rn2,rk2⟩:=r2;obtain ⟨-,-,hs1⟩:=hr1;obtain ⟨-,-,hs2⟩:=hr2;dsimp only at hs1 hs2;refine kP (tN (sQ (bK (rZ (lU (iA AE rq I I hb1 oM sL) (lK (eA isAgg76 rq I (za7 (za5 hpv2 hle3)) hgk) (bW (aL zeroValue76) fun b12=>?_)))))));refine oZ (sK 0 rq I I I I I sB) ?_;refine tZ (sQ ?_);refine dW [] [(0,2),(1,2),(2,2),(3,1),(4,2),(5,1),(6,1),(7,2),(8,2),(10,2),(11,2),(12,2),(13,1),(14,2),(15,1),(16,1),(17,2),(18,2),(9,0),(19,0),(20,0),(21,2)] ze3 kR ?_;refine yM I (pU I (nC I) (pU I (fA de I eC I) (pK I (qL (v:=.map (some mb)) eD I (cO 2 I I)) (pU I (iB md zT3 I I dC dC) (pK I (qL (v:=vi x1) iT3 I (cO 0 I I)) (pK I (SQ.eq (v':=.agg #[vi ri1,vi rd1,.slice rp1 rn1 rk1]) (SQ.lookup mty125 I I (bJ.own 3 I)) (by rw[hg1]; rfl)) ?_))))));refine pU I (SU.field au I cZ I I) (yM I (yM I (pU I (nC I) (pU I (fA de I eC I) (pK I (qL (v:=.map (some mb)) eD I (cO 2 I I)) (pU I (iB md zT3 I I dC dC) (pK I (qL (v:=vi x2) iT3 I (cO 0 I I)) (pK I (SQ.eq (v':=.agg #[vi ri2,vi rd2,.slice rp2 rn2 rk2]) (SQ.lookup mty125 I I (bJ.own 3 I)) (by rw[hg2]; rfl)) ?_))))))));refine pU I (SU.field au I cZ I I) (yM I (SP.o I (cL call171 I (jH E g3 _ _ c1.sides b17 _ (byF e.pairs) hs1 hl1 hby3 (wi _))) dC (.inr iR) ?_));rintro v110 _ _ ⟨rfl,l1,hp1,ha1,rfl⟩;have e1:=vS hp1 ha1;subst e1;refine zd5 fun g4 hle4 hs4=>?_;refine SP.o I (cL call171 I (jH E g4 _ _ c2.sides b17 _ (byF e.pairs) (za5 hs2 hle4) hl2 (hby3.mono hle4) (wi _))) dC (.inr iR) ?_;rintro v120 _ _ ⟨rfl,l2,hp2,ha2,rfl⟩;have e2:=vS hp2 ha2;subst e2;refine zd5 fun g5 hle5 hs5=>?_;have hle45:=hle4.trans hle5;refine SP.o I (cL call148 I (Al E g5 _ _ _ (jx (c1.sides.map (gn (byF e.pairs)))) (jx (c2.sides.map (gn (byF e.pairs)))) (Sl.mono hs4 hle5) hs5 hl3)) dC (.inr iR) ?_;rintro _ _ _ ⟨rfl,rfl,rfl⟩;rw[← hal];refine pU I (SU.not I) (pN (tN ?_));refine iQ I (fun hq=>?_) (fun hq=>?_)
   ·rw[Bool.not_eq_true'] at hq;rw[hnot hq];refine rZ (aT I (rE (bR (tR (tR (bR (tR ?_)))))));exact za8 (.inl I) results108 I ⟨hle2.trans (hle3.trans hle45),I,by rw[zf9 dC]; exact⟨[_,_,_,_,_],I⟩⟩
   ·rw[Bool.not_eq_false'] at hq;refine kP (bN (tN (rG (yD I (lM I (nL (dR (.cons _ (.refl _)) ?_)))))));exact ST.again (k2+1,g5) sB I I ⟨by dsimp only; omega,hle3.trans hle45,hyes hq⟩ (by dsimp only; omega)
  ·have hkk2:e.pairs.take k2=e.pairs:=tL oM;rw[hkk2] at hak;rw[zg1 hak];obtain ⟨es,clk,hes,hmi⟩:=hby
   have hes3:=hle3 _ _ hes;have hby3:Mp g3 b17 (e.pairs.map swP):=⟨es,clk,hes3,hmi⟩;have hall3:=hall2.mono fun _ _=>aw.mono hle3;refine xI (tX (tX (bX (tN (sQ (sW I (lW (SO.range underlying167 I hes3) ?_)))))));rintro _ _ _ ⟨it,rfl,rfl,rfl⟩;refine tZ (bK ?_);have hrest0:ig A []=A:=by unfold ig; rw[List.filter_eq_self]; intro c _; simp
   refine oP (ι:=List MapEntry×List (Int×Value)×PH×List Rc×Ts) (fun _=>[(0,pp bx 0),(3,pp b3 0),(5,.map (some b17)),(125,pp it 0)]) (fun i=>i.2.2.1)
    (fun i=>eW it b17 es clk i.1::pt b3 (.cells (edV e (.slice sp e.sides.length sc) (.slice qp e.pairs.length qc)) 42 (0,0))::edP bx u mb ms false::mp mb (i.2.2.2.1.map ah)::mp ms (ii i.2.2.2.2)::(di i.2.2.2.2++s))
    (fun i=>kU (e.pairs.map swP) es i.1 i.2.1∧Le g3 i.2.2.1∧aF (aw i.2.2.1) (ig A (i.2.1.map Prod.fst)) i.2.2.2.1∧i.2.2.2.2.map Prod.fst=i.2.1.map Prod.fst∧C6 i.2.2.2.2∧∀ t∈i.2.2.2.2,∃ q∈e.pairs,q.2=t.1∧t.2.2=[(q.1,1)]) (fun i=>e.pairs.length - i.2.1.length)
    ([],[],g3,rs,[]) sB rfl rfl ⟨kU.nil _ _,zb9 _,by dsimp only; rw[List.map_nil,hrest0]; exact hall3,I,fun t ht=>by simp at ht,fun t ht=>by simp at ht⟩ ?_
   rintro ⟨vis,vl,g4,rs1,ts⟩ ⟨hrv,hle4,hall4,hkeys,hok,htq⟩;dsimp only at hrv hle4 hall4 hkeys hok htq ⊢;have hvle:=hrv.len hmi;rw[ze6] at hvle;have hes4:=hle4 _ _ hes3;refine rZ (lW (SO.nextP 0 I I hes4 hmi hrv) ?_);rintro _ _ _ ⟨rfl,hcase⟩
   rcases hcase with ⟨rfl,rfl,hperm⟩ | ⟨en,pr,hen,hpr,hk1,hv1,hrv2,rfl,rfl⟩
   ·have hpk:∀ k,k∈vl.map Prod.fst↔k∈e.pairs.map Prod.snd:=fun k=>by
     rw[(hperm.map Prod.fst).mem_iff,zi5];exact Iff.rfl
    have hrest:ig A (vl.map Prod.fst)=ig A (e.pairs.map Prod.snd):=by
     unfold ig;refine List.filter_congr fun c _=>?_;rw[decide_eq_decide.2 (hpk c.id)]
    have htn:(ts.map Prod.fst).Nodup:=by rw[hkeys]; exact mu hrv hmi
    have himg:=Cy (e:=e) (ts:=ts) (fun k=>by rw[hkeys]; exact hpk k) hsn htq;have hby4:Mp g4 b17 (e.pairs.map swP):=⟨es,clk,hes4,hmi⟩;rw[hrest] at hall4;have hBn:((ig A (e.pairs.map Prod.snd)).map Cl.id).Nodup:=(List.filter_sublist.map Cl.id).nodup hn;have hBf:∀ c∈ig A (e.pairs.map Prod.snd),c.sides.length<1099511627776:=fun c hc=>hf.2 c (zh4.1 hc).1;have hio:eP A e=(ig A (e.pairs.map Prod.snd)).map (Db (byF e.pairs)):=rfl;rw[hio];generalize ig A (e.pairs.map Prod.snd)=B at *;have hrc:∀ y,(Db (byF e.pairs) y).id=y.id:=fun _=>rfl;refine yX I (tZ (sQ (za1 I (xI (tX (tX (bX (tN (sQ (sQ (SC.drop (zj1 _ _) (SC.openMap 2 I fun es2 clk2 hI2=>?_))))))))))));refine SC.to (g':=g4) (s':=pt b3 (.cells (edV e (.slice sp e.sides.length sc) (.slice qp e.pairs.length qc)) 42 (0,0))::edP bx u mb ms false::mx mb es2 clk2::mp ms (ii ts)::(di ts++s)) (fun w hw=>hw) ?_;refine rG (lM I (lU (nC I) (lU (fA de I eC I) (lK (qL (v:=.map (some mb)) eD I (cO 1 I I)) (lW (SO.rangeG underlying125 I (vv 2 I)) ?_)))));rintro _ _ _ ⟨it2,rfl,rfl,rfl⟩;refine tZ (bK ?_);refine oP (ι:=List MapEntry×List (Int×Value)×PH×List Rc×Array MapEntry) (fun _=>[(0,pp bx 0),(5,.map (some b17)),(148,pp it2 0)]) (fun i=>i.2.2.1)
     (fun i=>eW it2 mb i.2.2.2.2 clk2 i.1::pt b3 (.cells (edV e (.slice sp e.sides.length sc) (.slice qp e.pairs.length qc)) 42 (0,0))::edP bx u mb ms false::mx mb i.2.2.2.2 clk2::mp ms (ii ts)::(di ts++s))
     (fun i=>jn (i.2.2.2.1.map ah) i.2.2.2.2 clk2∧kU (i.2.2.2.1.map ah) i.2.2.2.2 i.1 i.2.1∧Le g4 i.2.2.1∧aF (aw i.2.2.1) (iM (Db (byF e.pairs)) B (i.2.1.map Prod.fst)) i.2.2.2.1) (fun i=>B.length - i.2.1.length)
     ([],[],g4,rs1,es2) sB rfl rfl ⟨hI2,kU.nil _ _,zb9 _,by dsimp only; rw[List.map_nil,Cj]; exact hall4⟩ ?_
    rintro ⟨vis2,vl2,g5,rs2,es3⟩ ⟨hI3,hrv3,hle5,hall5⟩;dsimp only at hI3 hrv3 hle5 hall5 ⊢;have hrl:=hall5.length;have hbl2:(iM (Db (byF e.pairs)) B (vl2.map Prod.fst)).length=B.length:=by unfold iM; rw[ze6]
    have hids:=Cm hrc B (vl2.map Prod.fst);refine rZ (lW (SO.nextPG 0 I I (vv 3 I) hI3 hrv3) ?_);rintro _ _ _ ⟨rfl,hcase2⟩
    rcases hcase2 with ⟨rfl,rfl,hperm2⟩ | ⟨en2,pr2,hen2,hpr2,hk2',hv2,hrv4,rfl,rfl⟩
    ·have hmem:∀ c∈B,c.id∈vl2.map Prod.fst:=fun c hc=>by
      rw[(hperm2.map Prod.fst).mem_iff,FA];have h1:rs2.map Rc.id=(iM (Db (byF e.pairs)) B (vl2.map Prod.fst)).map Cl.id:=(jt hall5).symm;rw[h1,hids];exact zf2.2 ⟨c,hc,I⟩
     rw[Co hmem] at hall5;refine yX I (tZ (sQ (za1 I (xI (tX (tX (bX (tN (rZ (aT I (rE (ST.closeMap 3 I hI3 ?_))))))))))));refine ST.to (g':=g5) (s':=edP bx u mb ms false::mp mb (rs2.map ah)::mp ms (ii ts)::(di ts++s)) (fun w hw=>hw.sublist (.cons _ (.cons _ (.refl _)))) ?_;exact za8 (.inl I) results108 I ⟨hle2.trans (hle3.trans (hle4.trans hle5)),I,by rw[zg1 I]; exact⟨rs2,ts,hall5,hok,htn,himg,I⟩⟩
    ·obtain ⟨x,hx,rfl⟩:=zf2.1 hpr2;obtain ⟨cx,hcm,hcx⟩:=zh hall5 hx;have hnk:=mu hrv4 hI3;rw[zg5,List.nodup_append] at hnk;have hxn:x.id ∉ vl2.map Prod.fst:=fun hm=>hnk.2.2 _ hm _ (by simp[ah]) rfl;obtain ⟨u1,hu1⟩:∃ u1,df (rs2.map ah) x.id=some u1:=by
      rcases fJ (fun _ _ h=>h.1) hall5 x.id with ⟨h1,_⟩ | ⟨_,r9,_,h2,_⟩
      ·have:=List.find?_eq_none.1 h1 cx hcm;simp[hcx.1] at this
      ·exact⟨_,h2⟩
     have hcB:=Ck hrc hcm (by rw[← hcx.1]; exact hxn);have hfc:=oD hBn hcB;have hlx:=hBf cx hcB;obtain ⟨xi,xd,xp,xn,xc⟩:=x;obtain ⟨f1,f2,hsx⟩:=hcx;dsimp only at f1 f2 hsx hxn hu1;subst f1 f2;have hput:=uz hrc hxn hBn hfc;have hvl3:=hrv4.len hI3;rw[ze5,ze7,ze6] at hvl3;refine yX I (tZ (sQ (za2 I (kP (tN (bK (rZ (lK (SQ.entryPG 0 I I (vv 3 I) hI3 hen2 hk2' hv2) (yX I (yX I (bW (aL zl4) fun b16=>?_)))))))))));refine lA I (oZ (sK 0 aq I I I I I sB) ?_);refine tZ (sQ ?_);refine SC.to (g':=g5) (s':=pt b16 (.cells #[vi cx.id,vi cx.dim,.slice xp xn xc] 56 (0,0))::eW it2 mb es3 clk2 (vis2++[en2])::pt b3 (.cells (edV e (.slice sp e.sides.length sc) (.slice qp e.pairs.length qc)) 42 (0,0))::edP bx u mb ms false::mx mb es3 clk2::mp ms (ii ts)::(di ts++s)) (fun w hw=>hw) ?_;refine rG (lU (fA au I bQ I) (lK (qL (v:=.slice xp xn xc) cZ I (cO 0 I I)) (lM I (lW (cL call171 I (jH E g5 _ _ cx.sides b17 _ (byF e.pairs) hsx hlx (hby4.mono hle5) (wi _))) ?_))));rintro v157 _ _ ⟨rfl,l1,hp1,ha1,rfl⟩;have e1:=vS hp1 ha1;subst e1;refine fR fun g6 hle6 hs6=>?_;obtain ⟨q6,d6,rfl⟩:=Sl.form hs6;refine lU (fA au rfl bQ rfl) (oZ (SO.store1 0 bQ rfl rfl rfl rfl (bE rfl) (by rfl)) ?_);refine tZ ?_;refine dW [6] [(0,2),(1,2),(2,2),(3,1),(4,2),(5,1),(6,0)] ze3 kR ?_;refine yM I (pU I (nC I) (pU I (fA de I eC I) (pK I (qL (v:=.map (some mb)) eD I (cO 3 I I)) (yM I (pK I (qV 0 dL aq I I I) (SP.on I (SO.mapUpdateX 4 mty125 I I I I hI3 ⟨_,hu1⟩) (.inl dC) ?_))))));rintro _ _ _ ⟨rfl,es4,rfl,hI4,hrvu⟩;refine pN (bN ?_);have hrc1:=jg ⟨cx.id,cx.dim,⟨q6,(jx (cx.sides.map (gn (byF e.pairs)))).length,d6⟩⟩ rs2;have hI5:jn ((iZ rs2 ⟨cx.id,cx.dim,⟨q6,(jx (cx.sides.map (gn (byF e.pairs)))).length,d6⟩⟩).map ah) es4 clk2:=by rw[← hrc1]; exact hI4
     have hrv5:=hrvu _ _ hrv4;refine dR (.cons _ (.refl _)) ?_;exact ST.again ((vis2++[en2]).map (oL cx.id (rcv ⟨cx.id,cx.dim,⟨q6,(jx (cx.sides.map (gn (byF e.pairs)))).length,d6⟩⟩)),(vl2++[ah ⟨cx.id,cx.dim,⟨xp,xn,xc⟩⟩]).map (AD cx.id (rcv ⟨cx.id,cx.dim,⟨q6,(jx (cx.sides.map (gn (byF e.pairs)))).length,d6⟩⟩)),g6,iZ rs2 ⟨cx.id,cx.dim,⟨q6,(jx (cx.sides.map (gn (byF e.pairs)))).length,d6⟩⟩,es4) sB I (by dsimp only; rw[yt _ _ _ es3]; rfl) ⟨hI5,by dsimp only; rw[← hrc1]; exact hrv5,hle5.trans hle6,by
      dsimp only;rw[tY,zg5];have h9:(vl2.map Prod.fst++[ah ⟨cx.id,cx.dim,⟨xp,xn,xc⟩⟩].map Prod.fst)=vl2.map Prod.fst++[cx.id]:=rfl;rw[h9,← hput];exact kh (fun _ _ h=>h.1) ⟨I,I,hs6⟩ (hall5.mono fun _ _=>aw.mono hle6)⟩ (by
      dsimp only;rw[ze6,ze5,ze7];omega)
   ·obtain ⟨q,hq,rfl⟩:=zf2.1 hpr;have hnk:=mu hrv2 hmi;rw[zg5,List.nodup_append] at hnk;have hqn:q.2 ∉ vl.map Prod.fst:=fun hm=>hnk.2.2 _ hm _ (by simp[swP]) rfl;have hput:∀ v,dG (ii ts) q.2 v=ii ts++[(q.2,v)]:=fun v=>gS _ _ _ fun p hp e9=>hqn (by
     rw[← hkeys,← Cb,← e9];exact zf2.2 ⟨p,hp,I⟩)
    have hdel:=mw hn (vl.map Prod.fst) q.2;have hvl3:=hrv2.len hmi;rw[ze5,ze7,ze6] at hvl3;obtain ⟨q1,q2⟩:=q;dsimp only at hqn hput hdel;refine yX I (tZ (sQ (za2 I (kP (tN (bK (rZ (lK (SQ.entryP 0 I I hes4 hmi hen hk1 hv1) (yX I (yX I (lA I (aT I (sW I (lU (nC I) (lU (fA de I eC I) (lK (qL (v:=.map (some mb)) eD I (cO 2 I I)) (lM I (lO (SO.delete 3 mty125 I I I) ?_))))))))))))))))));rintro _ _ _ ⟨rfl,rfl⟩;rw[o5];refine tZ ?_;refine dW [8] [(0,2),(1,2),(2,2),(3,1),(4,2),(5,2),(6,0),(7,0),(8,0)] ze3 kR ?_;refine yM I (pU I (nC I) (pU I (fA de I sizeOf110 I) (pK I (qL (v:=.map (some ms)) isAgg110 I (cO 2 I I)) (yM I (yM I (SP.o I (cL call112 I (jW E g4 _ q1 1 dC dC)) dC (.inr iR) ?_))))));rintro _ g5 _ ⟨rfl,rfl,hle5⟩;refine SP.o I (bS sty77 I I I (ae ⟨I,trivial⟩) dC) dC (.inr iR) ?_;rintro _ _ _ ⟨b143,rfl,rfl,rfl⟩;refine SP.to (fun w hw=>At.litRow (e:=a6) (l:=[(q1,1)]) (n:=0) hw I I dC) ?_;refine SP.on I (SO.mapUpdate 5 mty110 I I I I) (.inl dC) ?_;rintro _ _ _ ⟨rfl,rfl⟩;refine pN (bN ?_);refine ST.to (g':=g5) (s':=eW it b17 es clk (vis++[en])::pt b3 (.cells (edV e (.slice sp e.sides.length sc) (.slice qp e.pairs.length qc)) 42 (0,0))::edP bx u mb ms false::mp mb ((oN rs1 q2).map ah)::mp ms (ii (ts++[(q2,.slice (some ⟨b143,0,none⟩) 1 1,[(q1,1)])]))::(di (ts++[(q2,.slice (some ⟨b143,0,none⟩) 1 1,[(q1,1)])])++s)) (fun w1 hw1=>?_) ?_
    ·rw[Ca,zI,← hput];exact hw1.perm (FB _ [eW it b17 es clk (vis++[en]),pt b3 (.cells (edV e (.slice sp e.sides.length sc) (.slice qp e.pairs.length qc)) 42 (0,0)),edP bx u mb ms false,mp mb ((oN rs1 q2).map ah),mp ms (dG (ii ts) q2 (.slice (some ⟨b143,0,none⟩) 1 1))] (di ts) s)
    exact ST.again (vis++[en],vl++[swP (q1,q2)],g5,oN rs1 q2,ts++[(q2,.slice (some ⟨b143,0,none⟩) 1 1,[(q1,1)])]) sB I I ⟨hrv2,hle4.trans hle5,by
     dsimp only;rw[zg5];have h9:vl.map Prod.fst++[swP (q1,q2)].map Prod.fst=vl.map Prod.fst++[q2]:=rfl;rw[h9,← hdel];exact (l7 (fun _ _ h=>h.1) q2 hall4).mono fun _ _=>aw.mono hle5,by dsimp only; rw[zg5,zg5,hkeys]; rfl,fun t ht=>by
     rcases zf3.1 ht with ht | ht
     ·exact hok t ht
     ·simp at ht; subst ht; exact⟨by simp,by simp,_,_,_,I⟩,fun t ht=>by
     rcases zf3.1 ht with ht | ht
     ·exact htq t ht
     ·simp at ht; subst ht; exact⟨(q1,q2),hq,I,I⟩⟩ (by
     dsimp only;rw[ze5,ze7];omega)
set_option maxHeartbeats 4000000
def fp (A:List Cl)(ks:List Int):List Cl:=A.filter fun c=>!decide (c.id∈ks)
theorem rJ {A:List Cl}(hf:ci A)(ks:List Int):ci (fp A ks):=⟨by
 have h1:=zc5 (fun c:Cl=>!decide (c.id∈ks)) A;have h2:=hf.1;unfold fp;omega,fun c hc=>hf.2 c (zh4.1 hc).1⟩
def sgF (l:List Side)(cell:Int):Int:=l.foldl (fun a x=>if x.cell=cell then x.sign else a) 0
def cg (l:List Cl)(e:Ed):List Tm:=((((findC l e.other).getD cJ).sides.filter fun x=>!decide (x.cell=e.cell))).map fun x=>(x.cell,-sgF ((findC l e.other).getD cJ).sides e.cell * x.sign)
def nN (e:Ed)(l:List Side):List Side:=(l.filter fun x=>decide (x.cell=e.cell)).map fun x=>⟨e.other,x.sign⟩
def bC (e:Ed)(a:Int)(y:Cl):Cl:=if y.id=e.cell then ⟨y.id,y.dim,[⟨a,-1⟩,⟨e.new,1⟩]⟩ else ⟨y.id,y.dim,y.sides++nN e y.sides⟩
def bH (l:List Cl)(e:Ed):List Cl:=[⟨e.new,0,[]⟩,⟨e.other,1,[⟨e.new,-1⟩,⟨(iz ((findC l e.cell).getD cJ).sides true).cell,1⟩]⟩]++l.map (bC e (iz ((findC l e.cell).getD cJ).sides false).cell)
def dT (e:Ed):List Tm:=if e.other<e.cell then [(e.other,1),(e.cell,1)] else [(e.cell,1),(e.other,1)]
theorem rW (E:World)(g:PH)(s:Own)(v:Value)(l:List Side)(x:Side)(hv:SlA encSide g v l)(hl:l.length<1099511627776) :
  Ctr Tryz.prog E 174 #[v,.agg #[vi x.cell,vi x.sign]] g s (fun r g' s'=>r=vi ((l.countP fun y=>decide (y=x)):Nat)∧g=g'∧s=s'):=by
 obtain ⟨p,c,rfl⟩:=za4 hv;refine zb2 (args:=[.slice p l.length c,.agg #[vi x.cell,vi x.sign]]) func174 I ntmps174 (bE I) ?_;refine rZ (bW (bO I) fun b3=>?_);refine aT I (rZ (aT I (sQ (rZ (aT I (bK ?_))))));refine oP (ι:=Nat) (fun k=>[(0,.slice p l.length c),(3,pp b3 0),(5,vi (((l.take k).countP fun y=>decide (y=x)):Nat)),(6,vi k)]) (fun _=>g) (fun _=>pt b3 (.cells #[vi x.cell,vi x.sign] 75 (0,0))::s)
  (fun k=>k≤l.length) (fun k=>l.length - k) 0 sB rfl rfl (zf6 _) ?_
 rintro k hk;try dsimp only at hk ⊢
 refine sQ (sW I (lM I (lU (eN aY I) (yL I (tZ ?_)))));refine iP I (fun hlt=>?_) (fun hlt=>?_)
 ·have hkl:k<l.length:=oM;have hb1:=za6 hv oM;have hgk:l[((k:Nat):Int).toNat]?=some l[k]:=gE hkl;have hcs:(l.take (k+1)).countP (fun y=>decide (y=x))=(l.take k).countP (fun y=>decide (y=x))+(if l[k]=x then 1 else 0):=by
   rw[tS hkl,List.countP_append];congr 1;by_cases h:l[k]=x <;> simp[h]
  have hcl:(l.take k).countP (fun y=>decide (y=x))≤k:=zk8 List.countP_le_length (by rw[ze4]; omega);generalize l[k]=y at *;obtain ⟨yc,ys⟩:=y;refine kP (tN (sQ (bK (sQ ?_))));refine dW [] [(0,2),(1,2),(2,2),(3,1),(4,1),(5,2)] ze3 kR ?_;refine yM I (yM I (pU I (iA aY aI I I hb1 oM sL) (pK I (eA fh aI I (za7 hv) hgk) (pK I (qV 0 fh aI I I I) (pU I (SU.eqlSide ⟨yc,ys⟩ x I I) (pN (tN ?_)))))));refine iP I (fun he=>?_) (fun he=>?_)
  ·rw[zg1 he] at hcs;refine rG (lM I (yD I (lA I (nL (bN (tN (rG (lM I (yD I (lA I (nL ?_)))))))))));exact ST.again (k+1) ⟨I,I,(by rw[hcs]; rfl),rfl,trivial⟩ rfl rfl oM oM
  ·rw[zf9 he] at hcs;refine kP (bN (tN (rG (lM I (yD I (lA I (nL ?_)))))));exact ST.again (k+1) ⟨I,I,(by rw[hcs]; rfl),rfl,trivial⟩ rfl rfl oM oM
 ·have hkk:l.take k=l:=tL oM;rw[hkk];refine xI (tX (tX (bX (tN (sW I (aT I (rE (dR (s':=s) uR ?_))))))));exact za8 (.inl I) results174 I ⟨I,I,I⟩
theorem nU:∀ (a b:List Side),(∀ x∈a,(a.countP fun y=>decide (y=x))≤(b.countP fun y=>decide (y=x)))→∃ r,b.Perm (a++r)
 | [],b,_=>⟨b,List.Perm.refl b⟩
 | x::a,b,h=>by
  have h1:=h x (by simp);rw[List.countP_cons] at h1;have hx:x∈b:=by
   have h2:0<b.countP fun y=>decide (y=x):=by simp at h1; omega
   obtain ⟨y,hy,he⟩:=List.countP_pos_iff.1 h2;rw[← zg3 he];exact hy
  obtain ⟨s1,s2,rfl⟩:=List.append_of_mem hx;obtain ⟨r,hr⟩:=nU a (s1++s2) fun y hy=>by
   have h3:=h y (by simp[hy]);rw[List.countP_cons,List.countP_append,List.countP_cons] at h3;rw[List.countP_append];by_cases e:x=y
   ·subst e; simp at h3 ⊢; omega
   ·simp[e] at h3 ⊢; omega
  exact⟨r,List.perm_middle.trans (by simpa using hr.cons x)⟩
theorem tD {a b:List Side}(hl:a.length=b.length)(h:∀ x∈a,(a.countP fun y=>decide (y=x))=(b.countP fun y=>decide (y=x))):a.Perm b:=by
 obtain ⟨r,hr⟩:=nU a b fun x hx=>Nat.le_of_eq (h x hx);have h1:=hr.length_eq;rw[ze5] at h1;have h2:r=[]:=zf4 oM;subst h2;rw[zc6] at hr;exact hr.symm
theorem qZ (E:World)(g:PH)(s:Own)(v u:Value)(l m:List Side)(hv:SlA encSide g v l)(hu:SlA encSide g u m)(hl:l.length<1099511627776)(hm:m.length<1099511627776) :
  Ctr Tryz.prog E 115 #[v,u] g s (fun r g' s'=>r=vb (decide (jx l=jx m))∧g=g'∧s=s'):=by
 obtain ⟨p,c,rfl⟩:=za4 hv;obtain ⟨q,d,rfl⟩:=za4 hu;have hiff:jx l=jx m↔l.Perm m:=⟨fun h=>(eL l).symm.trans (h ▸ eL m),fun h=>sb (sD l) (sD m) ((eL l).trans (h.trans (eL m).symm))⟩;refine zb2 (args:=[.slice p l.length c,.slice q m.length d]) func115 I ntmps115 (bE I) ?_;refine rZ (aT I (sQ (sW I (lU (eN aY I) (lM I (lU (eN aY I) (lU (nQ I I) (tZ ?_))))))));refine iP I (fun hne=>?_) (fun hne=>?_)
 ·refine rZ (aT I (rE (tR ?_)));exact za8 (.inl I) results115 I ⟨by have:¬ jx l=jx m:=fun e=>hne (by rw[(hiff.1 e).length_eq]); simp[this],I,I⟩
 ·refine kP (tN (sQ (rZ (aT I (bK ?_)))));have hlen:l.length=m.length:=oM;refine oP (ι:=Nat) (fun k=>[(0,.slice p l.length c),(1,.slice q m.length d),(5,vi k)]) (fun _=>g) (fun _=>s) (fun k=>k≤l.length∧∀ j (hj:j<k) (hl:j<l.length),(l.countP fun y=>decide (y=l[j]))=(m.countP fun y=>decide (y=l[j]))) (fun k=>l.length - k) 0
   sB rfl rfl ⟨zf6 _,fun j hj=>absurd hj oM⟩ ?_
  rintro k ⟨hk,hall⟩;refine sQ (sW I (lM I (lU (eN aY I) (yL I (tZ ?_)))));refine iP I (fun hlt=>?_) (fun hlt=>?_)
  ·have hkl:k<l.length:=oM;have hb1:=za6 hv oM;have hgk:l[((k:Nat):Int).toNat]?=some l[k]:=gE hkl;have hsucc:(l.countP fun y=>decide (y=l[k]))=(m.countP fun y=>decide (y=l[k]))→∀ j (hj:j<k+1) (hl:j<l.length),(l.countP fun y=>decide (y=l[j]))=(m.countP fun y=>decide (y=l[j])):=fun h j hj hl=>by
    by_cases e:j=k
    ·subst e; exact h
    ·exact hall j oM hl
   have hneq:(l.countP fun y=>decide (y=l[k]))≠(m.countP fun y=>decide (y=l[k]))→¬ jx l=jx m:=fun h e=>h ((hiff.1 e).countP_eq _);generalize l[k]=x at *;obtain ⟨xc,xs⟩:=x;refine kP (tN (sQ (bK (sQ ?_))));refine dW [] [(0,2),(1,2),(2,2),(3,2),(4,1),(6,2),(7,2),(8,2),(9,2),(10,1),(5,0),(11,0),(12,2)] ze3 kR ?_;refine yM I (yM I (yM I (pU I (iA aY aI I I hb1 oM sL) (pK I (eA fh aI I (za7 hv) hgk) (yM I (yM I (yM I (pU I (iA aY aI I I hb1 oM sL) (pK I (eA fh aI I (za7 hv) hgk) (SP.o I (cL call174 I (rW E g _ _ l ⟨xc,xs⟩ hv hl)) dC (.inr iR) ?_))))))))));rintro _ _ _ ⟨rfl,rfl,rfl⟩;refine SP.o I (cL call174 I (rW E g _ _ m ⟨xc,xs⟩ hu hm)) dC (.inr iR) ?_;rintro _ _ _ ⟨rfl,rfl,rfl⟩;refine pU I (nQ I I) (pN (tN ?_));refine iP I (fun hd=>?_) (fun hd=>?_)
   ·have hno:=hneq oM;refine rZ (aT I (rE (bR (tR (tR (bR (tR ?_)))))));exact za8 (.inl I) results115 I ⟨by simp[hno],I,I⟩
   ·refine kP (bN (tN (rG (lM I (yD I (lA I (nL ?_)))))));exact ST.again (k+1) sB I I ⟨oM,hsucc oM⟩ oM
  ·have hyes:jx l=jx m:=hiff.2 (tD hlen fun x hx=>by
    obtain ⟨j,hj,rfl⟩:=zc7 hx;exact hall j oM hj)
   refine xI (tX (tX (bX (tN (rZ (aT I (rE ?_)))))));exact za8 (.inl I) results115 I ⟨by simp[hyes],I,I⟩
def GL (f:Int→Option Int)(c:Cl):Cl:=⟨c.id,c.dim,c.sides.map (gn f)⟩
def dn (l:List Cl)(e:Ed):List Cl:=(fp l (e.pairs.map Prod.snd)).map (GL (byF e.pairs))
def ko (fv:Value)(e:Ed)(A:List Cl)(code:Int)(B:List Cl)(img:Int→List Tm)(bk:Bool):Prop :=
 ∀ (E:World) (g:PH) (s:Own) (bx mb ms:Nat) (u v:Value) (rs:List Rc),ar g u A→aF kY A rs→EdR g v e →
  c4 Tryz.prog E fv [pp bx 0,v] g (edP bx u mb ms false::mp mb (rs.map ah)::mp ms []::(gy A rs++s)) (fun r g' s'=>Le g g'∧r=vi code∧(if code=0 then ∃ rs' ts,aF (aw g') B rs'∧C6 ts∧(ts.map Prod.fst).Nodup∧(∀ k,tV ts k=img k)∧s'=edP bx u mb ms bk::mp mb (rs'.map ah)::mp ms (ii ts)::(di ts++s) else ∃ h,s'=h++s))
def F6 (k:Int):List Tm:=[(k,1)]
theorem sA.gen {fv:Value}{e:Ed}{A:List Cl}{code:Int}{B:List Cl}{bk:Bool}(h:sA fv e A code B bk):ko fv e A code B F6 bk:=fun E g s bx mb ms u v rs hu hO hv=>by
 obtain ⟨n,cap,q1,q2,q3⟩:=h E g s bx mb ms u v rs hu hO hv;refine⟨n,cap,q1,q2,q3.mono ?_⟩;rintro r g' s' ⟨h1,h2,h3⟩;refine⟨h1,h2,?_⟩;by_cases h0:code=0
 ·rw[zg1 h0] at h3 ⊢;obtain ⟨rs',h4,rfl⟩:=h3;exact⟨rs',[],h4,fun t ht=>by simp at ht,List.nodup_nil,fun k=>I,I⟩
 ·rw[zf9 h0] at h3 ⊢;exact h3
def jS (g:PH)(code:Int)(D:List Cl)(ims:List (Int×List Tm))(bk:Bool)(r:Value)(g':PH):Prop:=∃ u p n c b,r = .tuple #[.agg #[u],.agg #[.slice p n c,vb b],vi code]∧hX (mns g' g) u D∧(code=0→b=bk∧Ims g' (.slice p n c) ims)∧(code≠0→b=false∧Ims g' (.slice p n c) [])
theorem jS.old {g:PH}{code:Int}{D:List Cl}{ims:List (Int×List Tm)}{bk:Bool}{r:Value}{g':PH}(h:jS g code D ims bk r g'):sz code D ims bk r g':=by
 obtain ⟨u,p,n,c,b,h1,h2,h3⟩:=h;exact⟨u,p,n,c,b,h1,h2.cells (kI _ _),h3⟩
theorem hX.nil (g:PH):hX g (.slice none 0 0) []:=⟨[],RK.nil _ _ g,trivial⟩
theorem se (E:World)(g:PH)(s:Own)(v ev:Value)(l:List Cl)(e:Ed)(hv:ar g v l)(hf:ci l)(he:EdR g ev e)(ims:List (Int×List Tm))(bk:Bool)(hbad:df m8 e.kind=none∨(aG l).2≠0) :
  Ctr Tryz.prog E 12 #[.agg #[v],ev] g s (fun r g' s'=>s=s'∧Le g g'∧jS g 1 [] ims bk r g'):=by
 obtain ⟨z,hz⟩:=Tryz.mtyKinds;obtain ⟨sv,pv,rfl,hsv,hpv⟩:=he;obtain ⟨sp,sc,rfl⟩:=za4 hsv;obtain ⟨pq,pc,rfl⟩:=za4 hpv;obtain ⟨p,c,rfl⟩:=hv.form;refine zb2 (args:=[.agg #[.slice p l.length c],.agg #[vi e.kind,vi e.cell,vi e.dim,vi e.new,vi e.other,.slice sp e.sides.length sc,.slice pq e.pairs.length pc]]) func12 I ntmps12 (bE I) ?_;cases hg:df m8 e.kind with
 | none =>
  refine rZ (bW (bO I) fun b2=>?_);refine bW (bO I) fun b3=>?_;refine bW (aL zl5) fun b4=>?_;refine bW (aL zl6) fun b5=>?_;refine aT I (sQ ?_);refine dW [] [(1,2),(2,1),(0,0),(3,0),(4,2),(5,2),(6,2),(7,2),(8,2)] ze3 kR ?_;refine pU I (fA cY I zT3 I) (pK I (qL iT3 I (cO 2 I I)) (SP.o I (cL call40 I (nt E g _)) dC (.inr iR) ?_));rintro _ g1 _ ⟨rfl,hle1,bq,rfl,hk⟩;refine oQ I (SQ.eq (v':=.tuple #[z,vb false]) (SQ.lookupOk hz I I (bJ.known hk)) (by rw[hg]; rfl)) dC (.inr ⟨by assumption,(by exact .refl _)⟩) ?_;refine yM I (pU I (xT I I) (pU I (xT I I) (pU I (aS I) (pU I (aS I) (pN (tN (sQ (sW I (lU (SU.not I) (lM I (yA I (yA I (yA I (yP I (tZ (za2 I (rZ (lU (za3 I buildE29) (lU (za3 I buildZ35) (oZ (sK 1 aC I I I I I sB) ?_))))))))))))))))))));refine oZ (sK 0 ma I I I I I sB) ?_;refine aT I (rE (tR ?_));exact ST.retCCT 1 0 s (.inl I) results12 I I I ba aC isAgg35 ma I I I I uR ⟨I,hle1,_,_,_,_,_,I,hX.nil _,(fun h=>by cases h),fun _=>⟨I,Ims.nil _⟩⟩
 | some fv =>
  have hc:decide ((aG l).2=0)=false:=zf7 (by
   rcases hbad with h | h
   ·rw[hg] at h; cases h
   ·exact h)
  refine rZ (bW (bO I) fun b2=>?_);refine bW (bO I) fun b3=>?_;refine bW (aL zl5) fun b4=>?_;refine bW (aL zl6) fun b5=>?_;refine aT I (sQ ?_);refine dW [] [(1,2),(2,1),(0,0),(3,0),(4,2),(5,2),(6,2),(7,2),(8,2)] ze3 kR ?_;refine pU I (fA cY I zT3 I) (pK I (qL iT3 I (cO 2 I I)) (SP.o I (cL call40 I (nt E g _)) dC (.inr iR) ?_));rintro _ g1 _ ⟨rfl,hle1,bq,rfl,hk⟩;refine oQ I (SQ.eq (v':=.tuple #[fv,vb true]) (SQ.lookupOk hz I I (bJ.known hk)) (by rw[hg]; rfl)) dC (.inr ⟨by assumption,(by exact .refl _)⟩) ?_;refine yM I (pU I (xT I I) (pU I (xT I I) (pU I (aS I) (pU I (aS I) (pN (tN (sQ (sW I (lU (SU.not I) (lM I (SL.gq (gT I I I dC) (qV 3 ba aC I I I) dC (SL.go (gT I I I dC) (cL call41 I (uK E g1 _ _ l (hv.mono hle1) hf false hc)) dC ?_))))))))))));rintro _ _ _ ⟨rfl,rfl,rfl⟩;refine lY I I I (SU.not I) (yF I (tZ (za2 I (rZ (lU (za3 I buildE29) (lU (za3 I buildZ35) (oZ (sK 1 aC I I I I I sB) ?_)))))));refine oZ (sK 0 ma I I I I I sB) ?_;refine aT I (rE (tR ?_));exact ST.retCCT 1 0 s (.inl I) results12 I I I ba aC isAgg35 ma I I I I uR ⟨I,hle1,_,_,_,_,_,I,hX.nil _,(fun h=>by cases h),fun _=>⟨I,Ims.nil _⟩⟩
theorem Av (E:World)(g:PH)(s:Own)(v ev:Value)(l:List Cl)(e:Ed)(hv:ar g v l)(hf:ci l)(he:EdR g ev e)(hr:(aG l).2=0)(fv:Value)(code:Int)(B:List Cl)(bk:Bool)(hg:df m8 e.kind=some fv)(img:Int→List Tm)(hrun:ko fv e (aa l) code B img bk)(hB:code=0→ci B∧(B.map Cl.id).Nodup) :
  Ctr Tryz.prog E 12 #[.agg #[v],ev] g s (fun r g' s'=>s=s'∧Le g g'∧jS g (bZ code B).1 (bZ code B).2 ((if bk then aa B else aa l).map fun c=>(c.id,img c.id)) bk r g'):=by
 obtain ⟨z,hz⟩:=Tryz.mtyKinds;have he0:=he;obtain ⟨sv,pv,rfl,hsv,hpv⟩:=he;obtain ⟨sp,sc,rfl⟩:=za4 hsv;obtain ⟨pq,pc,rfl⟩:=za4 hpv;obtain ⟨p,c,rfl⟩:=hv.form;have hc:decide ((aG l).2=0)=true:=zf8 hr;have hnd:((aa l).map Cl.id).Nodup:=by
  rw[List.Nodup,zk5];exact (iL hr).asc.imp fun h=>by omega
 have hAf:=ct hf;refine zb2 (args:=[.agg #[.slice p l.length c],.agg #[vi e.kind,vi e.cell,vi e.dim,vi e.new,vi e.other,.slice sp e.sides.length sc,.slice pq e.pairs.length pc]]) func12 I ntmps12 (bE I) ?_;refine rZ (bW (bO I) fun b2=>?_);refine bW (bO I) fun b3=>?_;refine bW (aL zl5) fun b4=>?_;refine bW (aL zl6) fun b5=>?_;refine aT I (sQ ?_);refine dW [] [(1,2),(2,1),(0,0),(3,0),(4,2),(5,2),(6,2),(7,2),(8,2)] ze3 kR ?_;refine pU I (fA cY I zT3 I) (pK I (qL iT3 I (cO 2 I I)) (SP.o I (cL call40 I (nt E g _)) dC (.inr iR) ?_));rintro _ g1 _ ⟨rfl,hle1,bq,rfl,hk⟩;refine oQ I (SQ.eq (v':=.tuple #[fv,vb true]) (SQ.lookupOk hz I I (bJ.known hk)) (by rw[hg]; rfl)) dC (.inr ⟨by assumption,(by exact .refl _)⟩) ?_;refine yM I (pU I (xT I I) (pU I (xT I I) (pU I (aS I) (pU I (aS I) (pN (tN (sQ (sW I (lU (SU.not I) (lM I (SL.gq (gT I I I dC) (qV 3 ba aC I I I) dC (SL.go (gT I I I dC) (cL call41 I (uK E g1 _ _ l (hv.mono hle1) hf true hc)) dC ?_))))))))))));rintro _ _ _ ⟨rfl,rfl,rfl⟩;refine lY I I I (SU.not I) (yF I (tZ (za1 I (kP (tN (rZ (lK (qV 3 ba aC I I I) (lW (cL call42 I (DH E g1 _ _ l (hv.mono hle1) hf hnd)) ?_))))))));rintro _ g2 _ ⟨hle2,bx,u,mb,ms,rs,rfl,hu,hO,rfl⟩;refine aT I (sW I (lM I (lK (qV ((gy (aa l) rs).length+2+3) rt iY I (by exact (uC (gy (aa l) rs) _ 2).trans I) I) ?_)));refine lW (SO.callV I I (hrun E g2 _ bx mb ms u _ rs hu hO (he0.mono (hle1.trans hle2)))) ?_;rintro _ g3 _ ⟨hle3,rfl,hcase⟩;by_cases hc0:code=0
 ·obtain ⟨hBf,hBn⟩:=hB hc0;subst hc0;rw[zg1 rfl] at hcase;obtain ⟨rs',ts,hall,hts,htn,himg,rfl⟩:=hcase;refine SL.to (g':=g3) (s':=edP bx u mb ms bk::mp mb (rs'.map ah)::mp ms (ii ts)::pt b5 (.cells #[.slice none 0 0,vb false] 35 (0,0))::pt b4 (.cells #[.slice none 0 0] 29 (0,0))::pt b3 (.cells #[vi e.kind,vi e.cell,vi e.dim,vi e.new,vi e.other,.slice sp e.sides.length sc,.slice pq e.pairs.length pc] 42 (0,0))::pt b2 (.cells #[.slice p l.length c] 29 (0,0))::(di ts++s)) (fun w hw=>hw.perm (((List.perm_append_comm_assoc (di ts) [pt b5 (.cells #[.slice none 0 0,vb false] 35 (0,0)),pt b4 (.cells #[.slice none 0 0] 29 (0,0)),pt b3 (.cells #[vi e.kind,vi e.cell,vi e.dim,vi e.new,vi e.other,.slice sp e.sides.length sc,.slice pq e.pairs.length pc] 42 (0,0)),pt b2 (.cells #[.slice p l.length c] 29 (0,0))] s).cons _).cons _ |>.cons _)) ?_;have hcB:=ct hBf;have hout:bZ 0 B=if (aG (aa B)).2≠0 then ((aG (aa B)).2,[]) else (0,aa B):=rfl
  rw[hout];refine aT I (rZ (bW (aL zl5) fun b11=>?_));refine tZ (sQ (sW I (yE I (tZ (za2 I (sQ (cP (zk2 (l₁:=[pt b11 (.cells #[.slice none 0 0] 29 (0,0)),edP bx u mb ms bk])) (SC.freezeMap fun g4 hle4 hm4=>?_))))))));refine rG (lM I (lW (cL call43 I (zJ E g4 _ bx mb ms u bk B rs' (hall.mono fun _ _=>aw.mono hle4) hBn hBf hm4 1 I)) ?_));rintro _ g5 _ ⟨rfl,hle5,u5,rfl,hn5⟩;have hu5:=hn5.cells (kI _ _);obtain ⟨p5,c5,rfl⟩:=hu5.form;refine oZ (sK 0 aC I I I I I sB) ?_;refine tZ (rG (lK (qV 0 ba aC I I I) (lW (cL call14 I (kS E g5 _ _ (aa B) hu5 hcB)) ?_)));rintro _ _ _ ⟨rfl,rfl,rfl⟩;refine lM I (yX I (yX I (aT I (sQ (sW I (lU (nQ I I) (tZ ?_)))))));refine iP I (fun h2=>?_) (fun h2=>?_)
  ·have he2:(if (aG (aa B)).2≠0 then ((aG (aa B)).2,[]) else ((0:Int),aa B))=((aG (aa B)).2,[]):=zg1 h2;rw[he2];refine rZ (lU (za3 I buildE29) (lU (za3 I buildZ35) (lM I (oZ (sK 4 aC I I I I I sB) ?_))));refine oZ (sK 3 ma I I I I I sB) ?_;refine aT I (rE (tR ?_));exact ST.retCCT 4 3 s (.inl I) results12 I I I ba aC isAgg35 ma I I I I (.cons _ (.cons _ (.cons _ (.cons _ (.cons _ (.cons _ (.cons _ (List.sublist_append_right _ _)))))))) ⟨I,hle1.trans (hle2.trans (hle3.trans (hle4.trans hle5))),_,_,_,_,_,I,hX.nil _,fun h=>absurd h h2,fun _=>⟨I,Ims.nil _⟩⟩
  ·have he2:(if (aG (aa B)).2≠0 then ((aG (aa B)).2,[]) else ((0:Int),aa B))=(0,aa B):=zf9 h2;rw[he2];refine kP (tN (sQ ?_));refine SC.drawT 1 [4,5] [(0,1),(1,2),(2,1),(3,0),(4,0),(5,0),(6,2)] ze3 kR ?_;refine pK rfl (qV 0 ba aC rfl rfl rfl) (yM rfl (pK rfl (qV 0 ba aC rfl rfl rfl) (SP.o rfl (cL call44 rfl (BN E g5 [pt b11 (.cells #[.slice p5 (aa B).length c5] 29 (0,0)),edP bx u mb ms bk,mp ms (ii ts),pt b5 (.cells #[.slice none 0 0,vb false] 35 (0,0)),pt b4 (.cells #[.slice none 0 0] 29 (0,0)),pt b3 (.cells #[vi e.kind,vi e.cell,vi e.dim,vi e.new,vi e.other,.slice sp e.sides.length sc,.slice pq e.pairs.length pc] 42 (0,0)),pt b2 (.cells #[.slice p l.length c] 29 (0,0))] s bx mb ms u _ bk (aa l) (aa B) ts hts htn (hu.mono (hle3.trans (hle4.trans hle5))) hu5 hAf.1 hcB.1 1 2 rfl rfl)) dC (.inr (by rintro _ g6 _ ⟨rfl,hle6,iv,rfl,him⟩; exact⟨by assumption,(by exact .cons_cons _ (List.nil_sublist _))⟩)) ?_)));rintro _ g6 _ ⟨rfl,hle6,iv,rfl,him⟩;obtain ⟨p6,n6,c6,rfl⟩:=him.form;refine SP.on I (sK 4 aC I I I I I sB) (.inl dC) ?_;rintro _ _ _ ⟨rfl,rfl⟩;refine SP.on I (sK 3 ma I I I I I sB) (.inl dC) ?_;rintro _ _ _ ⟨rfl,rfl⟩;refine pU I (aS I) (pN (tN (rE ?_)));exact ST.retCCT 4 3 s (.inl I) results12 I I I ba aC isAgg35 ma I I I I uR ⟨I,hle1.trans (hle2.trans (hle3.trans (hle4.trans (hle5.trans hle6)))),_,_,_,_,_,I,(hn5.mono (oA (hle1.trans (hle2.trans (hle3.trans hle4))))).mono (oz hle6),fun _=>⟨I,by rw[show (fun c:Cl=>(c.id,img c.id))=fun c:Cl=>(c.id,tV ts c.id) from funext fun c=>by rw[himg]]; exact him⟩,fun h=>absurd I h⟩
 ·rw[zf9 hc0] at hcase;obtain ⟨h,rfl⟩:=hcase;have hout:bZ code B=(code,[]):=zg1 hc0;rw[hout];refine SL.drop (List.sublist_append_right _ _) (aT I (rZ (bW (aL zl5) fun b11=>?_)));refine tZ (sQ (sW I (yE I (tZ ?_))));refine iP I (fun h0=>?_) (fun h0=>?_)
  ·exact absurd h0 hc0
  ·refine kP (tN (sQ (sW I (lU (nQ I I) (tZ ?_)))));refine iP I (fun h2=>?_) (fun h2=>?_)
   ·refine rZ (lU (za3 I buildE29) (lU (za3 I buildZ35) (lM I (oZ (sK 2 aC I I I I I sB) ?_))));refine oZ (sK 1 ma I I I I I sB) ?_;refine aT I (rE (tR ?_));exact ST.retCCT 2 1 s (.inl I) results12 I I I ba aC isAgg35 ma I I I I uR ⟨I,hle1.trans (hle2.trans hle3),_,_,_,_,_,I,hX.nil _,fun h=>absurd h hc0,fun _=>⟨I,Ims.nil _⟩⟩
   ·exact absurd hc0 h2
set_option maxHeartbeats 1000000
theorem vO {l m:List Side}(h:l.Perm m)(hl:l.Pairwise fun a b=>a.cell≤b.cell)(hm:m.Pairwise fun a b=>a.cell≤b.cell):l.map Side.cell=m.map Side.cell:=by
 refine List.Perm.eq_of_pairwise (le:=fun a b:Int=>a≤b) (fun a b _ _ h1 h2=>by omega) ?_ ?_ (h.map _)
 ·rw[zk5]; exact hl
 ·rw[zk5]; exact hm
def CaC (a b:Cl):Prop:=a.id=b.id∧a.dim=b.dim∧a.sides.Perm b.sides∧a.sides.map Side.cell=b.sides.map Side.cell
theorem vW:∀ {L M:List Cl},aF CaC L M→∀ k,(am L k).map Cl.dim=(am M k).map Cl.dim
 | [],[],_,_=>rfl
 | a::L,b::M,h,k=>by
  have ih:=vW h.2 k;have h1:=h.1.1;have h2:=h.1.2.1;unfold am at ih ⊢;rw[zi6,zi6,h1];cases hd:decide (b.id=k) with
  | true=>simp[h2]
  | false=>simpa using ih
 | [],_::_,h,_=>h.elim
 | _::_,[],h,_=>h.elim
theorem Cw {L M:List Cl}(h:aF CaC L M)(k:Int):(am L k).isSome=(am M k).isSome:=by
 have h1:=ze2 Option.isSome (vW h k);simpa using h1
theorem Gy {L M:List Cl}(h:aF CaC L M)(k:Int):((am L k).getD cJ).dim=((am M k).getD cJ).dim:=by
 have h1:=vW h k;cases h2:am L k <;> cases h3:am M k <;> (try rfl)<;>rw[h2,h3] at h1 <;> simp at h1
 exact h1
theorem Gb {a b:Cl}(h:CaC a b)(i:Nat):a.sides[i]?.map Side.cell=b.sides[i]?.map Side.cell:=by
 have h1:=ze2 (fun l:List Int=>l[i]?) h.2.2.2;simpa using h1
theorem GG {L M:List Cl}(h:aF CaC L M){a b:Cl}(hab:CaC a b)(i:Nat):fF L a i=fF M b i:=by
 have h1:=Gb hab i;unfold fF;cases h2:a.sides[i]? with
 | none =>
  cases h3:b.sides[i]? with
  | none=>rfl
  | some y=>rw[h2,h3] at h1; simp at h1
 | some x =>
  cases h3:b.sides[i]? with
  | none=>rw[h2,h3] at h1; simp at h1
  | some y =>
   rw[h2,h3] at h1;have h4:x.cell=y.cell:=by simpa using h1
   show bV L a i x=bV M b i y;unfold bV;rw[h4,Cw h,Gy h,hab.2.1,Gb hab (i - 1)]
theorem FQ {L M:List Cl}(h:aF CaC L M){a b:Cl}(hab:CaC a b):cq L a=cq M b:=by
 have hl:a.sides.length=b.sides.length:=hab.2.2.1.length_eq;have h1:eZ a=eZ b:=by unfold eZ; rw[hab.2.1]
 have h2:aR a=aR b:=by unfold aR; rw[hab.2.1,hl]
 have h3:(List.range a.sides.length).any (fF L a)=(List.range b.sides.length).any (fF M b):=by
  rw[hl,show fF L a=fF M b from funext fun i=>GG h hab i]
 have h4:a.sides.any bM=b.sides.any bM:=by
  rw[Bool.eq_iff_iff,zj8,zj8];exact⟨fun ⟨x,hx,hb⟩=>⟨x,hab.2.2.1.mem_iff.1 hx,hb⟩,fun ⟨x,hx,hb⟩=>⟨x,hab.2.2.1.mem_iff.2 hx,hb⟩⟩
 have h5:mf a.sides=mf b.sides:=iW (hab.2.2.1.map Side.sign);unfold cq;rw[h1,h2,h3,h4,h5,hab.2.1]
theorem Bo {L0 M0:List Cl}(h0:aF CaC L0 M0):∀ {L M:List Cl},aF CaC L M→∀ n,fY L0 L n=fY M0 M n
 | [],[],_,_=>rfl
 | a::L,b::M,h,n=>by
  unfold fY;rw[h.1.1,FQ h0 h.1,Bo h0 h.2]
 | [],_::_,h,_=>h.elim
 | _::_,[],h,_=>h.elim
theorem uP {tl:List Cl}:∀ {l:List Cl} {n:Int} {p:Int×Int},fY tl l n=some p→p.2≠0
 | [],_,_,h=>by cases h
 | x::r,n,p,h=>by
  unfold fY at h;split at h
  ·cases h; exact (by decide:(20:Int)≠0)
  ·split at h
   ·rename_i h1; cases h; exact h1
   ·exact uP h
theorem vg {α β α' β':Type}{R:α→β→Prop}{S:α'→β'→Prop}{f:α→α'}{k:β→β'}(hR:∀ a b,R a b→S (f a) (k b)):∀ {l:List α} {m:List β},aF R l m→aF S (l.map f) (m.map k)
 | [],[],_=>trivial
 | _::_,_::_,h=>⟨hR _ _ h.1,vg hR h.2⟩
 | [],_::_,h=>h.elim
 | _::_,[],h=>h.elim
theorem FF {a b:Cl}(h:ShC a b):CaC (bP a) (bP b):=by
 have hp:(bP a).sides.Perm (bP b).sides:=(j8 a.sides).trans (h.2.2.trans (j8 b.sides).symm);exact⟨h.1,h.2.1,hp,vO hp (ck a.sides) (ck b.sides)⟩
theorem Ei {B D:List Cl}(h:ShL B D)(hn:(B.map Cl.id).Nodup):aF CaC (aa B) (aa D):=by
 obtain ⟨l1,hp,ha⟩:=h;have h1:sortBy Cl.id B=sortBy Cl.id l1:=wG hp.symm hn;unfold aa;rw[h1];exact vg (R:=ShC) (S:=CaC) (fun a b h=>FF h) (aF.sortBy (R:=ShC) (f:=Cl.id) (h:=Cl.id) (fun a b h=>h.1) ha)
theorem EO:∀ {L M:List Cl},aF CaC L M→L.map Cl.id=M.map Cl.id
 | [],[],_=>rfl
 | a::L,b::M,h=>by rw[zg4,zg4,h.1.1,EO h.2]
 | [],_::_,h=>h.elim
 | _::_,[],h=>h.elim
theorem AY:∀ {L M:List Cl},aF CaC L M→(∀ c∈L,c.sides.Pairwise fun a b=>a.cell<b.cell)→L=M
 | [],[],_,_=>rfl
 | a::L,b::M,h,hl=>by
  rw[AY h.2 fun c hc=>hl c (by simp[hc])];obtain ⟨⟨h1,h2,h3,h4⟩,-⟩:=h;have ha:=hl a (by simp);have hb:b.sides.Pairwise fun a b=>a.cell<b.cell:=by
   have h5:(a.sides.map Side.cell).Pairwise fun a b=>a<b:=by rw[zk5]; exact ha
   rw[h4,zk5] at h5;exact h5
  have h6:a.sides=b.sides:=List.Perm.eq_of_pairwise (le:=fun a b:Side=>a.cell<b.cell) (fun a b _ _ h1 h2=>by omega) ha hb h3;congr 1;cases a; cases b;simp at h1 h2 h6;rw[h1,h2,h6]
 | [],_::_,h,_=>h.elim
 | _::_,[],h,_=>h.elim
theorem vA {B:List Cl}(hn:(B.map Cl.id).Nodup):(aa B).Pairwise fun a b=>a.id<b.id:=by
 have h1:((aa B).map Cl.id).Nodup:=by
  have:(aa B).map Cl.id=(sortBy Cl.id B).map Cl.id:=by unfold aa; rw[zi5]; rfl
  rw[this];exact ((j8 B).map Cl.id).symm.nodup hn
 rw[List.Nodup,zk5] at h1;exact ((gO B).and h1).imp fun ⟨h2,h3⟩=>by have h2':_≤_:=h2; omega
theorem y9 {B D:List Cl}(h:ShL B D)(hn:(B.map Cl.id).Nodup):bZ 0 B=bZ 0 D:=by
 have hca:=Ei h hn;have hlen:B.length=D.length:=h.length;have hsB:=vA hn;have hsD:(aa D).Pairwise fun a b=>a.id<b.id:=by
  have h1:((aa B).map Cl.id).Pairwise fun a b=>a<b:=by rw[zk5]; exact hsB
  rw[EO hca,zk5] at h1;exact h1
 have htB:=bG hsB;have htD:=bG hsD;have h1:fY (ak B) (aa B) 0=fY (ak D) (aa D) 0:=by rw[htB,htD]; exact Bo hca hca 0
 by_cases hl:(B.length:Int)>4000
 ·have hB:aG B=(0,2):=by unfold aG; rw[zg1 hl]
  have hD:aG D=(0,2):=by unfold aG; rw[zg1 oM]
  unfold bZ;rw[iy,iy,hB,hD];rfl
 ·cases hq:fY (ak B) (aa B) 0 with
  | some p =>
   have hB:aG B=p:=by unfold aG; rw[zf9 hl,hq]; rfl
   have hD:aG D=p:=by unfold aG; rw[zf9 oM,← h1,hq]; rfl
   have hp:=uP hq;unfold bZ;rw[iy,iy,hB,hD,zf9 (by decide:¬ (0:Int)≠0),zf9 (by decide:¬ (0:Int)≠0),zg1 hp,zg1 hp]
  | none =>
   obtain ⟨-,-,h4⟩:=cR hq;have he:aa B=aa D:=AY hca fun c hc=>(F9 (h4 c hc) (qA B c hc)).asc;unfold bZ;rw[he]
theorem Rt.findC {A:List Cl}(h:Rt A)(id:Int):findC A id=am A id:=by
 unfold Go.Proofs.YtbbppeihhkhkcaaGreatDoor.findC;rw[h.tab];rfl
theorem Rt.ids {A:List Cl}(h:Rt A):(A.map Cl.id).Nodup:=by
 rw[List.Nodup,zk5];exact h.asc.imp fun h=>by omega
theorem Rt.few64 {A:List Cl}(h:Rt A){c:Cl}(hc:c∈A):c.sides.length≤64:=(jh (h.form c hc).ok).1
theorem Rt.signs {A:List Cl}(h:Rt A){c:Cl}(hc:c∈A):∀ x∈c.sides,x.sign=1∨x.sign = -1:=(h.form c hc).sg
theorem Rt.difS {A:List Cl}(h:Rt A){c:Cl}(hc:c∈A):(c.sides.map Side.cell).Nodup:=by
 rw[List.Nodup,zk5];exact (h.form c hc).asc.imp fun h=>by omega
theorem Rt.getD {A:List Cl}(_:Rt A)(id:Int):((am A id).getD cJ)=cJ∨((am A id).getD cJ)∈A:=by
 cases h:am A id with
 | none=>exact .inl rfl
 | some c=>exact .inr (cw h).1
theorem Rt.fits {A:List Cl}(h:Rt A):ci A:=⟨by have:=h.few; omega,fun c hc=>by have:=h.few64 hc; omega⟩
theorem Rt.mem_above {A:List Cl}(h:Rt A){k id:Int}:id∈aj A k↔∃ c∈A,c.id=id∧oa c k=true:=by
 unfold aj;rw[h.tab,zf2];constructor
 ·rintro ⟨c,hc,rfl⟩;obtain ⟨h1,h2⟩:=zh4.1 hc;exact⟨c,h1,I,h2⟩
 ·rintro ⟨c,h1,rfl,h2⟩;exact⟨c,zh4.2 ⟨h1,h2⟩,I⟩
theorem Rt.above_nodup {A:List Cl}(h:Rt A)(k:Int):(aj A k).Nodup:=by
 unfold aj;rw[h.tab];exact (List.filter_sublist.map Cl.id).nodup h.ids
theorem Rt.not_self {A:List Cl}(h:Rt A)(k:Int):k ∉ aj A k:=fun hk=>by
 obtain ⟨c,hc,rfl,hh⟩:=h.mem_above.1 hk;unfold oa at hh;obtain ⟨x,hx,he⟩:=zj8.1 hh;obtain ⟨d,hd1,hd2⟩:=(h.form c hc).found x hx;rw[zg3 he,h.find hc] at hd1;cases hd1;omega
theorem Rt.edge {A:List Cl}(h:Rt A){c:Cl}(hc:c∈A)(hd:c.dim=1):∃ z0 z1,c.sides=[z0,z1]∧((z0.sign=1∧z1.sign = -1)∨(z0.sign = -1∧z1.sign=1)):=by
 have hf:=h.form c hc;have h1:=hf.cnt;have h2:c.sides.length=2:=by
  unfold aR at h1;simp[hd] at h1;omega
 obtain ⟨z0,z1,h3⟩:∃ z0 z1,c.sides=[z0,z1]:=by
  match hs:c.sides,h2 with
  | [z0,z1],_=>exact⟨z0,z1,rfl⟩
 refine⟨z0,z1,h3,?_⟩;have h4:=hf.one hd;have h5:=hf.sg z0 (by rw[h3]; simp);have h6:=hf.sg z1 (by rw[h3]; simp);rw[h3] at h4;simp[mf] at h4;omega
theorem Rt.above_one {A:List Cl}(h:Rt A){k m:Int}(ha:aj A k=[m]):∃ c∈A,c.id=m∧am A m=some c∧oa c k=true:=by
 obtain ⟨c,hc,rfl,hh⟩:=h.mem_above.1 (show m∈aj A k by rw[ha]; simp);exact⟨c,hc,I,h.find hc,hh⟩
theorem xz {A:List Cl}(h:Rt A)(e:Ed):∀ x∈bB A e,x.sign=1∨x.sign = -1:=by
 unfold bB
 rcases h.getD e.other with h1 | h1
 ·rw[h1]; intro x hx; cases hx
 ·exact h.signs h1
theorem n8 {A:List Cl}(h:Rt A)(e:Ed):(bB A e).length≤64:=by
 unfold bB
 rcases h.getD e.other with h1 | h1
 ·rw[h1]; decide
 ·exact h.few64 h1
theorem n5 {A:List Cl}(h:Rt A)(e:Ed)(ha:aj A e.cell=[e.other]):(bB A e).any (fun x=>decide (x.cell=e.cell))=true:=by
 obtain ⟨c,hc,hi,hf,hh⟩:=h.above_one ha;unfold bB;rw[hf];exact hh
theorem vT {cell:Int}:∀ {S:List Side} (a:Int),(∀ x∈S,x.cell≠cell)→S.foldl (fun a x=>if x.cell=cell then x.sign else a) a=a
 | [],_,_=>rfl
 | x::S,a,h=>by
  rw[zi8,zf9 (h x (by simp))];exact vT a fun y hy=>h y (by simp[hy])
theorem uJ {cell:Int}:∀ {S:List Side},(S.map Side.cell).Nodup→S.any (fun x=>decide (x.cell=cell))=true→S.eraseIdx (S.findIdx fun x=>decide (x.cell=cell))=S.filter (fun x=>!decide (x.cell=cell))∧m3 S (S.findIdx fun x=>decide (x.cell=cell))=sgF S cell
 | [],_,h=>by cases h
 | x::S,hn,h=>by
  rw[zg4,zk3] at hn;rw[List.findIdx_cons];by_cases hx:x.cell=cell
  ·have hno:∀ y∈S,y.cell≠cell:=fun y hy e=>hn.1 (zf2.2 ⟨y,hy,by rw[e,hx]⟩);have h1:S.filter (fun x=>!decide (x.cell=cell))=S:=List.filter_eq_self.2 fun y hy=>by simp[hno y hy]
   rw[zf8 hx];refine⟨by simp[hx,h1],?_⟩;show x.sign=_;unfold sgF;rw[zi8,zg1 hx,vT _ hno]
  ·have h1:S.any (fun x=>decide (x.cell=cell))=true:=by simpa [hx] using h
   obtain ⟨h2,h3⟩:=uJ hn.2 h1;rw[zf7 hx];refine⟨?_,?_⟩
   ·simp[hx,h2]
   ·have h4:sgF (x::S) cell=sgF S cell:=by unfold sgF; rw[zi8,zf9 hx]
    rw[h4,← h3];simp[m3]
theorem xB {A:List Cl}(h:Rt A)(e:Ed)(ha:aj A e.cell=[e.other]):sortBy Prod.fst (eR A e)=cg A e:=by
 have hmem:=n5 h e ha;obtain ⟨c,hc,hi,hf,hh⟩:=h.above_one ha;have hS:bB A e=c.sides:=by unfold bB; rw[hf]; rfl
 have hR:cg A e=(c.sides.filter fun x=>!decide (x.cell=e.cell)).map fun x=>(x.cell,-sgF c.sides e.cell * x.sign):=by unfold cg; rw[h.findC,hf]; rfl
 rw[hS] at hmem;obtain ⟨h1,h2⟩:=uJ (h.difS hc) hmem;have hC:eR A e=cg A e:=by
  rw[hR];unfold eR;rw[hS,h1,h2]
 rw[hC];refine (cB ?_ (aA.refl _)).symm;rw[hR];unfold Srt;rw[zk5];exact ((h.form c hc).asc.sublist List.filter_sublist).imp fun h=>by dsimp only; omega
def dF (A:List Cl)(e:Ed)(k:Int):List Tm:=if k=e.cell then cg A e else if k=e.other then [] else [(k,1)]
theorem xA {A:List Cl}(h:Rt A)(e:Ed)(ha:aj A e.cell=[e.other])(v1 v2:Value)(k:Int):tV [(e.cell,v1,eR A e),(e.other,v2,[])] k=dF A e k:=by
 unfold tV dF;by_cases h1:k=e.cell
 ·subst h1;rw[zg1 rfl,List.find?_cons_of_pos (by simp)];exact xB h e ha
 ·rw[zf9 h1,List.find?_cons_of_neg (by simpa using fun e=>h1 e.symm)];by_cases h2:k=e.other
  ·subst h2;rw[zg1 rfl,List.find?_cons_of_pos (by simp)];rfl
  ·rw[zf9 h2,List.find?_cons_of_neg (by simpa using fun e=>h2 e.symm)];rfl
theorem uv {e:Ed}:∀ {S:List Side},(S.map Side.cell).Nodup→nN e S=if S.any (fun x=>decide (x.cell=e.cell)) then [⟨e.other,EX S e.cell⟩] else []
 | [],_=>rfl
 | x::S,hn=>by
  rw[zg4,zk3] at hn;by_cases hx:x.cell=e.cell
  ·have hno:∀ y∈S,y.cell≠e.cell:=fun y hy e'=>hn.1 (zf2.2 ⟨y,hy,by rw[e',hx]⟩);have h1:S.filter (fun x=>decide (x.cell=e.cell))=[]:=List.filter_eq_nil_iff.2 fun y hy=>by simp[hno y hy]
   unfold nN EX;simp[hx,h1]
  ·have ih:=uv (e:=e) hn.2;unfold nN EX at ih ⊢;simp[hx] at ih ⊢;exact ih
theorem yg {c:Cl}:∀ {B:List Cl},(B.map Cl.id).Nodup→(∃ x∈B,x.id=c.id)→eE B c=B.map fun y=>if y.id=c.id then c else y
 | [],_,⟨x,hx,_⟩=>by cases hx
 | x::B,hn,hx=>by
  rw[zg4,zk3] at hn;unfold eE;by_cases h1:c.id=x.id
  ·rw[zg1 h1,zg4,zg1 h1.symm];congr 1;have:B.map (fun y=>if y.id=c.id then c else y)=B.map id:=zc8 fun y hy=>by
    rw[zf9 fun e=>hn.1 (zf2.2 ⟨y,hy,by rw[e,h1]⟩)];rfl
   rw[this,List.map_id]
  ·rw[zf9 h1,zg4,zf9 fun e=>h1 e.symm];congr 1;refine yg hn.2 ?_;obtain ⟨y,hy,he⟩:=hx
   rcases zf1.1 hy with rfl | hy
   ·exact absurd he.symm h1
   ·exact⟨y,hy,he⟩
theorem yN {A:List Cl}{k:Int}(h:(am A k).isSome=false):∀ x∈A,x.id≠k:=fun x hx he=>by
 have h1:(am A k).isSome=true:=by
  unfold am;rw[List.find?_isSome];exact⟨x,hx,by simpa using he⟩
 rw[h] at h1;cases h1
theorem Ec {S:List Side}{z0 z1:Side}(hl:S=[z0,z1])(h:(z0.sign=1∧z1.sign = -1)∨(z0.sign = -1∧z1.sign=1)):iz S true=⟨(iz S true).cell,1⟩∧iz S false=⟨(iz S false).cell,-1⟩:=by
 subst hl;obtain ⟨c0,s0⟩:=z0;obtain ⟨c1,s1⟩:=z1
 rcases h with ⟨h0,h1⟩ | ⟨h0,h1⟩ <;> dsimp only at h0 h1 <;> subst h0 <;> subst h1 <;> exact⟨rfl,rfl⟩
theorem qd {A:List Cl}(h:Rt A)(e:Ed)(hc:aU A e=0):fj A e=A.map (bC e (iz ((findC A e.cell).getD cJ).sides false).cell)++[⟨e.new,0,[]⟩,⟨e.other,1,[⟨e.new,-1⟩,⟨(iz ((findC A e.cell).getD cJ).sides true).cell,1⟩]⟩]:=by
 rw[h.findC];unfold aU at hc;cases hf:am A e.cell with
 | none=>rw[hf] at hc; cases hc
 | some c =>
 rw[hf] at hc;dsimp only at hc;split at hc
 ·cases hc
 rename_i hd;split at hc
 ·cases hc
 rename_i hnew;split at hc
 ·cases hc
 rename_i hno;rw[zj4,not_or,zj7,zj7] at hno;have hd:c.dim=1:=Decidable.not_not.1 hd;obtain ⟨hcA,hci⟩:=cw hf;obtain ⟨z0,z1,hz,hsg⟩:=h.edge hcA hd;obtain ⟨e1,e2⟩:=Ec hz hsg;unfold fj;rw[hf,Option.getD_some];generalize iz c.sides true=zt at *;generalize iz c.sides false=zf at *;have hids:(aV A e (aj A e.cell)).map Cl.id=A.map Cl.id:=by
  unfold aV;rw[zi5];refine zc8 fun y _=>?_;show (if y.id∈aj A e.cell then eY e y else y).id=y.id;split <;> rfl
 have hmemid:∀ k,(∃ x∈aV A e (aj A e.cell),x.id=k)→∃ x∈A,x.id=k:=fun k ⟨x,hx,he⟩=>by
  have h1:k∈(aV A e (aj A e.cell)).map Cl.id:=zf2.2 ⟨x,hx,he⟩;rw[hids] at h1;obtain ⟨y,hy,he⟩:=zf2.1 h1;exact⟨y,hy,he⟩
 have hno1:=yN hno.1;have hno2:=yN hno.2;have hp1:eE (aV A e (aj A e.cell)) ⟨e.new,0,[]⟩=aV A e (aj A e.cell)++[⟨e.new,0,[]⟩]:=oy fun x hx he=>by
  obtain ⟨y,hy,he⟩:=hmemid e.new ⟨x,hx,he⟩;exact hno1 y hy he
 have hp2:eE (aV A e (aj A e.cell)++[⟨e.new,0,[]⟩]) ⟨e.other,1,[⟨e.new,-1⟩,zt]⟩=(aV A e (aj A e.cell)++[⟨e.new,0,[]⟩])++[⟨e.other,1,[⟨e.new,-1⟩,zt]⟩]:=oy fun x hx he=>by
  rcases zf3.1 hx with hx | hx
  ·obtain ⟨y,hy,he⟩:=hmemid e.other ⟨x,hx,he⟩;exact hno2 y hy he
  ·simp at hx;subst hx;exact hnew (.inr he)
 have hcn:e.cell≠e.new:=fun he=>hno1 c hcA (by rw[hci,he]);have hco:e.cell≠e.other:=fun he=>hno2 c hcA (by rw[hci,he]);have hnd:(((aV A e (aj A e.cell)++[(⟨e.new,0,[]⟩:Cl)])++[(⟨e.other,1,[⟨e.new,-1⟩,zt]⟩:Cl)]).map Cl.id).Nodup:=by
  rw[← hp2,← hp1];exact fH (fH (by rw[hids]; exact h.ids))
 rw[hp1,hp2,yg hnd]
 ·rw[zg5,zg5,zg8];congr 1
  ·unfold aV;rw[zi5];refine zc8 fun y hy=>?_;show (if (if y.id∈aj A e.cell then eY e y else y).id=e.cell then _ else _)=_;have hyi:(if y.id∈aj A e.cell then eY e y else y).id=y.id:=by split <;> rfl
   rw[hyi];unfold bC;by_cases h1:y.id=e.cell
   ·have hyc:y=c:=h.same hy hcA (by rw[h1,hci]);subst hyc;rw[zg1 h1,zg1 h1,h1,hd,e2]
   ·rw[zf9 h1,zf9 h1,uv (h.difS hy)];by_cases h2:oa y e.cell=true
    ·have h3:y.id∈aj A e.cell:=h.mem_above.2 ⟨y,hy,rfl,h2⟩;unfold oa at h2;rw[zg1 h3,zg1 h2];rfl
    ·have h3:y.id ∉ aj A e.cell:=fun h4=>by
      obtain ⟨z,hz,he,hh⟩:=h.mem_above.1 h4;rw[h.same hz hy he] at hh;exact h2 hh
     unfold oa at h2;rw[zf9 h3,zf9 h2,zc6]
  ·simp only[zg4,List.map_nil,List.cons_append,List.nil_append];rw[zf9 (by exact fun he=>hcn he.symm),zf9 (by exact fun he=>hco he.symm),e1]
 ·have h1:e.cell∈(aV A e (aj A e.cell)).map Cl.id:=by
   rw[hids];exact zf2.2 ⟨c,hcA,hci⟩
  obtain ⟨x,hx,he⟩:=zf2.1 h1;exact (by exact⟨x,List.mem_append_left _ (List.mem_append_left _ hx),he⟩)
theorem ShC.refl (c:Cl):ShC c c:=⟨rfl,rfl,.refl _⟩
theorem Dq {A:List Cl}(h:Rt A)(e:Ed)(hc:aU A e=0):ShL (fj A e) (bH A e):=by
 refine⟨bH A e,?_,?_⟩
 ·rw[qd h e hc];exact List.perm_append_comm
 ·have:∀ l:List Cl,aF ShC l l:=fun l=>by
   induction l with
   | nil=>trivial
   | cons x l ih=>exact⟨ShC.refl x,ih⟩
  exact this _
theorem lg {A:List Cl}(h:Rt A)(e:Ed):((fj A e).map Cl.id).Nodup:=by
 unfold fj;have hids:(aV A e (aj A e.cell)).map Cl.id=A.map Cl.id:=by
  unfold aV;rw[zi5];refine zc8 fun y _=>?_;show (if y.id∈aj A e.cell then eY e y else y).id=y.id;split <;> rfl
 exact fH (fH (fH (by rw[hids]; exact h.ids)))
def cj (e:Ed)(k:Int):List Tm:=if k=e.cell then dT e else [(k,1)]
theorem tw (e:Ed)(v1:Value)(k:Int):tV [(e.cell,v1,[(e.cell,1),(e.other,1)])] k=cj e k:=by
 unfold tV cj dT;by_cases h1:k=e.cell
 ·subst h1;rw[zg1 rfl,List.find?_cons_of_pos (by simp)];show sortBy Prod.fst [(e.cell,(1:Int)),(e.other,1)]=_;simp only[sortBy,ins];by_cases h2:e.other<e.cell
  ·rw[zg1 h2,zf9 oM]
  ·rw[zf9 h2,zg1 oM]
 ·rw[zf9 h1,List.find?_cons_of_neg (by simpa using fun e=>h1 e.symm)];rfl
theorem DZ (A:List Cl)(e:Ed):ShL (eP A e) (dn A e):=by
 refine⟨eP A e,.refl _,?_⟩;unfold eP dn;have:fp A (e.pairs.map Prod.snd)=ig A (e.pairs.map Prod.snd):=rfl;rw[this];generalize ig A (e.pairs.map Prod.snd)=l;induction l with
 | nil=>trivial
 | cons c l ih=>exact⟨⟨rfl,rfl,eL _⟩,ih⟩
theorem lj {A:List Cl}(h:Rt A)(e:Ed):((eP A e).map Cl.id).Nodup:=by
 unfold eP;rw[zi5];have:(Cl.id ∘ Db (byF e.pairs))=Cl.id:=rfl;rw[this];exact (List.filter_sublist.map Cl.id).nodup h.ids
set_option maxHeartbeats 2000000
def jN (A:List Cl)(e:Ed):Int:=if e.kind=1 then jb A e else if e.kind=2 then nr A e else if e.kind=3 then aU A e else if e.kind=4 then dX A e else if e.kind=5 then dP A e else 1
def m9 (A:List Cl)(e:Ed):List Cl:=if e.kind=1 then A++[⟨e.cell,e.dim,e.sides⟩] else if e.kind=2 then fp A [e.cell] else if e.kind=3 then bH A e else if e.kind=4 then dn A e else fp A [e.cell,e.other]
def nG (A:List Cl)(e:Ed)(k:Int):List Tm:=if e.kind=3 then cj e k else if e.kind=4 then ec e k else if e.kind=5 then dF A e k else [(k,1)]
def bkK (e:Ed):Bool:=decide (e.kind=2)
def dB (l:List Cl)(e:Ed):Int×List Cl:=if (aG l).2=0 then bZ (jN (aa l) e) (m9 (aa l) e) else (1,[])
def th (l:List Cl)(e:Ed):List (Int×List Tm):=(if bkK e then (dB l e).2 else aa l).map fun c=>(c.id,nG (aa l) e c.id)
theorem B6 {A:List Cl}(hn:(A.map Cl.id).Nodup)(a b:Int):qT (qT A a) b=fp A [a,b]:=by
 have h0:A=ig A []:=(List.filter_eq_self.2 fun _ _=>by simp).symm;have h1:qT A a=ig A [a]:=by
  have:=mw hn [] a;rw[← h0] at this;exact this
 rw[h1,mw hn];rfl
theorem B7 {A:List Cl}(hn:(A.map Cl.id).Nodup)(a:Int):qT A a=fp A [a]:=by
 have h0:A=ig A []:=(List.filter_eq_self.2 fun _ _=>by simp).symm;have:=mw hn [] a;rw[← h0] at this;exact this
theorem uo {A:List Cl}(hn:(A.map Cl.id).Nodup)(ks:List Int):((fp A ks).map Cl.id).Nodup:=(List.filter_sublist.map Cl.id).nodup hn
theorem uq {A:List Cl}(h:Rt A)(ks:List Int):aa (fp A ks)=fp A ks∧ak (fp A ks)=fp A ks:=by
 have h1:(fp A ks).Pairwise fun a b=>a.id<b.id:=h.asc.sublist List.filter_sublist;have h2:aa (fp A ks)=fp A ks:=by
  unfold aa;rw[(cB (key:=Cl.id) (h1.imp fun h=>by omega) (aA.refl _)).symm];have:∀ c∈fp A ks,bP c=c:=fun c hc=>by
   unfold bP;rw[(cB (key:=Side.cell) ((h.form c (zh4.1 hc).1).asc.imp fun h=>by omega) (aA.refl c.sides)).symm]
  rw[zc8 this];simp
 exact⟨h2,by rw[bG (by rw[h2]; exact h1),h2]⟩
theorem zB {A:List Cl}(h:Rt A)(e:Ed)(hc:aU A e=0):ci (fj A e):=by
 rw[qd h e hc];have hl:=h.few;refine⟨by simp only[ze5,ze6,ze8,zc4]; omega,fun c hc=>?_⟩
 rcases zf3.1 hc with hc | hc
 ·obtain ⟨y,hy,rfl⟩:=zf2.1 hc;have h1:=h.few64 hy;have h2:(nN e y.sides).length≤y.sides.length:=by unfold nN; rw[ze6]; exact zc5 _ _
  unfold bC;split
  ·simp
  ·simp only[ze5]; omega
 ·simp at hc
  rcases hc with rfl | rfl <;> simp
theorem Ab {A:List Cl}(hf:ci A)(e:Ed):ci (eP A e):=by
 refine⟨?_,fun c hc=>?_⟩
 ·unfold eP;rw[ze6];exact Nat.lt_of_le_of_lt (zc5 _ _) hf.1
 ·unfold eP at hc;obtain ⟨y,hy,rfl⟩:=zf2.1 hc;have h1:=hf.2 y (zh4.1 hy).1;show (jx (y.sides.map (gn (byF e.pairs)))).length<_;rw[(eL _).length_eq,ze6];exact h1
theorem BO {A:List Cl}(hA:Rt A)(e:Ed):ko (.func (.func 107) #[] #[]) e A (aU A e) (fj A e) (cj e) false:=by
 intro E g s bx mb ms u v rs hu hO hv;refine c4.mk (args:=[_,_]) (cap:=[]) call107 ?_;refine (zA E g s bx mb ms u v e A rs hu hA.fits hA.ids hO hv ?_ (hA.above_nodup _) (hA.not_self _) ?_).mono ?_
 ·intro id hid;obtain ⟨c,hc,rfl,hh⟩:=hA.mem_above.1 hid;exact⟨c,hA.find hc,hh,hA.few64 hc⟩
 ·intro c hc hd;exact hA.edge (cw hc).1 hd
 ·rintro r g' s' ⟨h1,h2,h3⟩;refine⟨h1,h2,?_⟩;by_cases h0:aU A e=0
  ·rw[zg1 h0] at h3 ⊢;obtain ⟨rs',v1,p,n,c,hv1,h4,rfl⟩:=h3;have hne:e.cell≠e.other:=fun he=>by
    unfold aU at h0;cases hf:am A e.cell with
    | none=>rw[hf] at h0; cases h0
    | some c =>
     rw[hf] at h0;rw[he] at hf;rw[hf] at h0;dsimp only at h0;split at h0
     ·cases h0
     ·split at h0
      ·cases h0
      ·simp at h0
   refine⟨rs',_,h4,?_,by simp,tw e v1,I⟩;intro t ht;simp at ht;subst ht;exact⟨by simp,by simpa using hne,p,n,c,hv1⟩
  ·rw[zf9 h0] at h3 ⊢;exact h3
theorem CB {A:List Cl}(hA:Rt A)(e:Ed)(hpl:e.pairs.length<1099511627776):ko (.func (.func 108) #[] #[]) e A (dX A e) (eP A e) (ec e) false:=by
 intro E g s bx mb ms u v rs hu hO hv;refine c4.mk (args:=[_,_]) (cap:=[]) call108 ?_;refine Ctr.freezeO (L:=[edP bx u mb ms false,mp mb (rs.map ah),mp ms []]) hO fun g1 hle1 hall=>?_;refine (tF E g1 s bx mb ms u v e A rs hA.fits hA.ids hall (hv.mono hle1) hpl).mono ?_;rintro r g' s' ⟨h1,h2,h3⟩;exact⟨hle1.trans h1,h2,h3⟩
theorem FT {A:List Cl}(hA:Rt A)(e:Ed):ko (.func (.func 109) #[] #[]) e A (dP A e) (qT (qT A e.cell) e.other) (dF A e) false:=by
 intro E g s bx mb ms u v rs hu hO hv;refine c4.mk (args:=[_,_]) (cap:=[]) call109 ?_;refine Ctr.freezeO (L:=[edP bx u mb ms false,mp mb (rs.map ah),mp ms []]) hO fun g1 hle1 hall=>?_;refine (tJ E g1 s bx mb ms u v e A rs (hu.mono hle1) hA.fits hall (hv.mono hle1) (xz hA e) (n8 hA e) (n5 hA e)).mono ?_;rintro r g' s' ⟨h1,h2,h3⟩;refine⟨hle1.trans h1,h2,?_⟩;by_cases h0:dP A e=0
 ·rw[zg1 h0] at h3 ⊢;obtain ⟨v1,p,n,c,hv1,rfl⟩:=h3;have ha:aj A e.cell=[e.other]:=by
   unfold dP at h0;split at h0
   ·split at h0
    ·rename_i h; exact h.1
    ·cases h0
   ·cases h0
  obtain ⟨cy,hcy,hi,hf,hh⟩:=hA.above_one ha;have hne:e.cell≠e.other:=fun he=>by
   have:=hA.not_self e.cell;rw[ha,he] at this;exact this (by simp)
  refine⟨oN (oN rs e.cell) e.other,_,((l7 (fun _ _ h=>h.1) e.other (l7 (fun _ _ h=>h.1) e.cell hall)).mono fun _ _=>aw.mono h1),?_,?_,xA hA e ha v1 (.slice none 0 0),I⟩
  ·intro t ht;simp at ht
   rcases ht with rfl | rfl
   ·have hS:bB A e=cy.sides:=by unfold bB; rw[hf]; rfl
    have h64:=n8 hA e;refine⟨?_,?_,p,n,c,hv1⟩
    ·show (eR A e).length<_;unfold eR;rw[ze6];have:=List.length_eraseIdx_le (bB A e) ((bB A e).findIdx fun x=>decide (x.cell=e.cell));omega
    ·show ((eR A e).map Prod.fst).Nodup;unfold eR;rw[zi5];have hs:((bB A e).eraseIdx ((bB A e).findIdx fun x=>decide (x.cell=e.cell))).Sublist (bB A e):=List.eraseIdx_sublist _ _;refine (hs.map Side.cell).nodup ?_;rw[hS];exact hA.difS hcy
   ·exact⟨by simp,List.nodup_nil,none,0,0,I⟩
  ·simpa using hne
 ·rw[zf9 h0] at h3 ⊢;exact h3
theorem Au {A:List Cl}{e:Ed}(h:jb A e=0):eE A ⟨e.cell,e.dim,e.sides⟩=A++[⟨e.cell,e.dim,e.sides⟩]:=by
 refine oy fun x hx hxe=>?_;unfold jb at h;have h1:(am A e.cell).isSome=true:=by
  unfold am;rw[List.find?_isSome];exact⟨x,hx,by simpa using hxe⟩
 rw[h1] at h;cases h
theorem DS {A:List Cl}(hA:Rt A)(e:Ed)(hes:e.sides.length<1099511627776)(hpl:e.pairs.length<1099511627776)(hk:e.kind=1∨e.kind=2∨e.kind=3∨e.kind=4∨e.kind=5) :
  ∃ fv B,df m8 e.kind=some fv∧ko fv e A (jN A e) B (nG A e) (bkK e)∧(jN A e=0→ci B∧(B.map Cl.id).Nodup∧bZ 0 B=bZ 0 (m9 A e)):=by
 unfold jN nG bkK m9;have hs:(fun k:Int=>[(k,(1:Int))])=F6:=rfl
 rcases hk with hk | hk | hk | hk | hk <;> simp only[hk] <;> simp only[Int.reduceEq,if_true,if_false,decide_true,decide_false]
 ·refine⟨_,eE A ⟨e.cell,e.dim,e.sides⟩,I,(As A e hes).gen,fun h0=>?_⟩;have hB:=Au h0;refine⟨?_,fH hA.ids,by rw[hB]⟩;rw[hB];have hl:=hA.few;refine⟨by rw[ze5,ze7]; omega,fun c hc=>?_⟩
  rcases zf3.1 hc with hc | hc
  ·exact hA.fits.2 c hc
  ·simp at hc; subst hc; exact hes
 ·refine⟨_,qT A e.cell,I,(zL A hA.fits e).gen,fun h0=>?_⟩;rw[B7 hA.ids];exact⟨rJ hA.fits _,uo hA.ids _,I⟩
 ·refine⟨_,fj A e,I,BO hA e,fun h0=>?_⟩;exact⟨zB hA e h0,lg hA e,y9 (Dq hA e h0) (lg hA e)⟩
 ·refine⟨_,eP A e,I,CB hA e hpl,fun h0=>?_⟩;exact⟨Ab hA.fits e,lj hA e,y9 (DZ A e) (lj hA e)⟩
 ·refine⟨_,qT (qT A e.cell) e.other,I,FT hA e,fun h0=>?_⟩;rw[B6 hA.ids];exact⟨rJ hA.fits _,uo hA.ids _,I⟩
theorem FG {e:Ed}(hk:¬ (e.kind=1∨e.kind=2∨e.kind=3∨e.kind=4∨e.kind=5)):df m8 e.kind=none:=by
 unfold m8;simp only[bD,yl]
 repeat' rw[zf9 oM]
theorem Am {A:List Cl}{e:Ed}(hk:¬ (e.kind=1∨e.kind=2∨e.kind=3∨e.kind=4∨e.kind=5)):jN A e=1:=by
 unfold jN;rw[zf9 oM,zf9 oM,zf9 oM,zf9 oM,zf9 oM]
theorem jS.congr {g0:PH}{code:Int}{D:List Cl}{ims ims':List (Int×List Tm)}{bk bk':Bool}{r:Value}{g:PH}(h:jS g0 code D ims bk r g)(hi:code=0→ims=ims')(hb:code=0→bk=bk'):jS g0 code D ims' bk' r g:=by
 obtain ⟨u,p,n,c,b,h1,h2,h3,h4⟩:=h;refine⟨u,p,n,c,b,h1,h2,fun h0=>?_,h4⟩;obtain ⟨h5,h6⟩:=h3 h0;rw[hi h0] at h6;exact⟨h5.trans (hb h0),h6⟩
theorem wS (E:World)(g:PH)(s:Own)(v ev:Value)(l:List Cl)(e:Ed)(hv:ar g v l)(hf:ci l)(he:EdR g ev e)(hes:e.sides.length<1099511627776)(hpl:e.pairs.length<1099511627776) :
  Ctr Tryz.prog E 12 #[.agg #[v],ev] g s (fun r g' s'=>s=s'∧Le g g'∧jS g (dB l e).1 (dB l e).2 (th l e) (bkK e) r g'):=by
 by_cases hr:(aG l).2=0
 ·have hA:=iL hr;have hap:dB l e=bZ (jN (aa l) e) (m9 (aa l) e):=zg1 hr;by_cases hk:e.kind=1∨e.kind=2∨e.kind=3∨e.kind=4∨e.kind=5
  ·obtain ⟨fv,B,h1,h2,h3⟩:=DS hA e hes hpl hk;have hout:bZ (jN (aa l) e) B=dB l e:=by
    rw[hap];by_cases h0:jN (aa l) e=0
    ·rw[h0]; exact (h3 h0).2.2
    ·unfold bZ; rw[zg1 h0,zg1 h0]
   have h4:=Av E g s v ev l e hv hf he hr fv (jN (aa l) e) B (bkK e) h1 (nG (aa l) e) h2 (fun h0=>⟨(h3 h0).1,(h3 h0).2.1⟩);refine h4.mono fun r g' s' ⟨h5,h6,h7⟩=>⟨h5,h6,?_⟩;rw[hout] at h7;refine h7.congr (fun h0=>?_) fun _=>I;have h8:aa B=(dB l e).2:=by
    rw[← hout] at h0 ⊢;unfold bZ at h0 ⊢;split at h0
    ·rename_i hh; exact absurd h0 hh
    ·rename_i hh;rw[zf9 hh];split at h0
     ·rename_i hh2; exact absurd h0 hh2
     ·rename_i hh2; rw[zf9 hh2]
   unfold th;rw[h8]
  ·have hc1:=Am (A:=aa l) hk;have hout:dB l e=(1,[]):=by rw[hap,hc1]; rfl
   rw[hout];exact se E g s v ev l e hv hf he _ _ (.inl (FG hk))
 ·have hout:dB l e=(1,[]):=zf9 hr;rw[hout];exact se E g s v ev l e hv hf he _ _ (.inr hr)
theorem kN (E:World)(g:PH)(s:Own)(v ev:Value)(l:List Cl)(e:Ed)(hv:ar g v l)(hf:ci l)(he:EdR g ev e)(hes:e.sides.length<1099511627776)(hpl:e.pairs.length<1099511627776) :
  Ctr Tryz.prog E 12 #[.agg #[v],ev] g s (fun r g' s'=>s=s'∧Le g g'∧sz (dB l e).1 (dB l e).2 (th l e) (bkK e) r g') :=
 (wS E g s v ev l e hv hf he hes hpl).mono fun _ _ _ ⟨h1,h2,h3⟩=>⟨h1,h2,h3.old⟩
theorem xH {code:Int}{B:List Cl}(h:(bZ code B).1=0):Rt (bZ code B).2∧code=0∧(bZ code B).2=aa B:=by
 unfold bZ at h ⊢;split at h
 ·rename_i h1; exact absurd h h1
 ·rename_i h1;rw[zf9 h1];split at h
  ·rename_i h2; exact absurd h h2
  ·rename_i h2;rw[zf9 h2];have h3:=iL (Decidable.not_not.1 h2);rw[fL] at h3;exact⟨h3,Decidable.not_not.1 h1,I⟩
theorem jj {l:List Cl}{e:Ed}(h:(dB l e).1=0):Rt (dB l e).2∧(aG l).2=0∧jN (aa l) e=0∧(dB l e).2=aa (m9 (aa l) e):=by
 unfold dB at h ⊢;split at h
 ·rename_i h1;rw[zg1 h1];obtain ⟨h2,h3,h4⟩:=xH h;exact⟨h2,h1,h3,h4⟩
 ·cases h
theorem ze {l:List Cl}{e:Ed}(h:(dB l e).1≠0):(dB l e).2=[]:=by
 unfold dB at h ⊢;split at h
 ·rename_i h1;rw[zg1 h1];unfold bZ at h ⊢;split at h
  ·rename_i h2; rw[zg1 h2]
  ·rename_i h2;rw[zf9 h2];split at h
   ·rename_i h3; rw[zg1 h3]
   ·exact absurd I h
 ·rename_i h1; rw[zf9 h1]
theorem uZ (l:List Cl)(e:Ed):ci (dB l e).2:=by
 by_cases h:(dB l e).1=0
 ·exact (jj h).1.fits
 ·rw[ze h]; exact⟨by simp,by simp⟩
theorem Es (l:List Cl)(e:Ed):(dB l e).2.length≤4000:=by
 by_cases h:(dB l e).1=0
 ·exact (jj h).1.few
 ·rw[ze h]; simp
theorem jp (n:Int):bw (IntKind.i64.wrap n):=by
 have h:IntKind.i64.wrap n=if (decide (n % 18446744073709551616≥9223372036854775808))=true then n % 18446744073709551616 - 18446744073709551616 else n % 18446744073709551616:=by
  simp[IntKind.wrap,IntKind.bits,IntKind.signed]
 rw[h];unfold bw;by_cases h2:n % 18446744073709551616≥9223372036854775808
 ·rw[zg1 (zf8 h2)];omega
 ·rw[zf9 (by simpa using h2)];omega
theorem vJ (E:World)(g:PH)(s:Own)(v:Value)(l:List Cl)(hv:ar g v l)(hf:ci l) :
  Ctr Tryz.prog E 46 #[.agg #[v]] g s (fun r g' s'=>s=s'∧g=g'∧∃ n:Int,r=vi n∧bw n):=by
 obtain ⟨rs,hrs,hall⟩:=hv;have hfl:=hf.1;have hlen:=hall.length;obtain ⟨p,c,rfl⟩:=za4 hrs;refine zb2 (args:=[.agg #[.slice p rs.length c]]) func46 I ntmps46 (bE I) ?_;refine rZ (bW (bO I) fun b1=>?_);refine aT I (rZ (aT I (sQ (rZ (aT I (bK ?_))))));refine oP (ι:=Nat×Int) (fun k=>[(1,pp b1 0),(3,vi k.2),(4,vi k.1)]) (fun _=>g) (fun _=>pt b1 (.cells #[.slice p rs.length c] 29 (0,0))::s)
  (fun k=>k.1≤rs.length∧bw k.2) (fun k=>rs.length - k.1) (0,1) sB rfl rfl ⟨zf6 _,by unfold bw; dsimp only; omega⟩ ?_
 rintro ⟨k,n⟩ ⟨hk,hn⟩;dsimp only at hk hn ⊢;refine sQ (sW I (lU (fA eH I ee I) (lK (qL (v:=.slice p rs.length c) fX I (cO 0 I I)) (lU (eN aJ I) (yL I (tZ ?_))))));refine iP I (fun hlt=>?_) (fun hlt=>?_)
 ·have hkr:k<rs.length:=oM;have hb1:=za6 hrs oM;have hgx:rs[((k:Nat):Int).toNat]?=some rs[k]:=gE hkr;generalize rs[k]=x at *;refine kP (tN (sQ (bK (rG (lM I (lU (fA eH I ee I) (lK (qL (v:=.slice p rs.length c) fX I (cO 0 I I)) (lM I (lU (iA aJ aq I I hb1 oM sL) (lU (fC au I zT3 I hb1) (lK (aZ (e:=encCell) (o:=0) (u:=vi x.id) iT3 I (za7 hrs) hgx I) (lU (ze1 I I) (lU (SU.maxI I I) (lA I (nL (bN (tN (rG (lM I (yD I (lA I (nL ?_))))))))))))))))))))));exact ST.again (k+1,_) sB I I ⟨by dsimp only; omega,by
   have h1:=jp (x.id+1);dsimp only;unfold bw at h1 hn ⊢;omega⟩ (by dsimp only; omega)
 ·refine xI (tX (tX (bX (tN (sW I (aT I (rE (dR (s':=s) uR ?_))))))));exact za8 (.inl I) results46 I ⟨I,I,_,I,hn⟩
theorem qi (E:World)(g:PH)(s:Own)(v:Value)(l:List Int)(n:Int)(hv:eG g v l)(hl:l.length<1099511627776) :
  Ctr Tryz.prog E 47 #[v,vi n] g s (fun r g' s'=>s=s'∧g=g'∧∃ y:Int,r=vi y∧(y=0∨y∈l)):=by
 obtain ⟨p,c,rfl⟩:=za4 hv;refine zb2 (args:=[.slice p l.length c,vi n]) func47 I ntmps47 (bE I) ?_;refine rZ (aT I (sQ (sW I (lU (eN aH I) (yE I (tZ ?_))))));refine iP I (fun h0=>?_) (fun h0=>?_)
 ·refine rZ (aT I (rE (tR ?_)));exact za8 (.inl I) results47 I ⟨I,I,_,I,.inl I⟩
 ·obtain ⟨hm1,hm2⟩:=sN n l.length oM oM;have hb:=za6 hv oM;have hgm:l[(co n l.length).toNat]?=some l[(co n l.length).toNat]:=gE hm2;have hym:l[(co n l.length).toNat]∈l:=gM hm2;generalize l[(co n l.length).toNat]=y at *;refine kP (tN (sW I (lM I (lM I (lU (eN aH I) (lW (cL mh I (bL E g _ n l.length oM)) ?_))))));rintro _ _ _ ⟨rfl,rfl,rfl⟩;rw[hm1];refine lU (iA aH zT3 I I hb oM sL) (lK (eB (u:=vi y) iT3 I (za7 hv) hgm I) (aT I (rE ?_)));exact za8 (.inl I) results47 I ⟨I,I,_,I,.inr hym⟩
theorem dV (E:World)(g:PH)(s:Own)(v:Value)(l:List Int)(n:Int)(hv:eG g v l)(hl:l.length<1099511627776) :
  Ctr Tryz.prog E 47 #[v,vi n] g s (fun r g' s'=>s=s'∧g=g'∧∃ n:Int,r=vi n) :=
 (qi E g s v l n hv hl).mono fun _ _ _ ⟨h1,h2,y,h3,_⟩=>⟨h1,h2,y,h3⟩
theorem Ct (l:List Int):decide ((l.length:Int)=0)=decide (l=[]):=by
 rw[Bool.eq_iff_iff,zj6,zj6];exact⟨fun h=>zf4 oM,fun h=>by rw[h]; rfl⟩
def mU (l:List Cl)(id:Int):Bool:=match aj l id with
 | [m]=>decide (aj l m=[])
 | _=>false
theorem xr (E:World)(g:PH)(s:Own)(v:Value)(l:List Cl)(hv:ar g v l)(hf:ci l) :
  Ctr Tryz.prog E 51 #[.agg #[v]] g s (fun r g' s'=>s=s'∧Le g g'∧∃ ps:List Pr,SlA iT g' r ps∧ps.length<1099511627776):=by
 have hv0:=hv;obtain ⟨rs,hrs,hall⟩:=hv;have hfl:=hf.1;have hlen:=hall.length;obtain ⟨p,c,rfl⟩:=za4 hrs;refine zb2 (args:=[.agg #[.slice p rs.length c]]) func51 I ntmps51 (bE I) ?_;refine rZ (bW (bO I) fun b1=>?_);refine aT I (rZ (aT I (sQ (rZ (aT I (bK (zb6 76 2 ?_)))))));refine oP (ι:=Nat×PH×Value×List Pr) (fun i=>[(1,pp b1 0),(3,i.2.2.1),(4,vi i.1)]) (fun i=>i.2.1) (fun i=>rowA iT 76 i.2.2.1 i.2.2.2::pt b1 (.cells #[.slice p rs.length c] 29 (0,0))::s)
  (fun i=>i.1≤rs.length∧Le g i.2.1∧i.2.2.2.length≤i.1) (fun i=>rs.length - i.1) (0,g,.slice none 0 0,[]) sB rfl rfl ⟨zf6 _,zb9 _,zf6 _⟩ ?_
 rintro ⟨k,g1,ov,acc⟩ ⟨hk,hle1,hal⟩;dsimp only at hk hle1 hal ⊢;refine sQ (sW I (lU (fA eH I ee I) (lK (qL (v:=.slice p rs.length c) fX I (cO 1 I I)) (lU (eN aJ I) (yL I (tZ ?_))))));refine iP I (fun hlt=>?_) (fun hlt=>?_)
 ·have hkr:k<rs.length:=oM;have hb1:=za6 hrs oM;have hrs1:=za5 hrs hle1;have hv1:=hv0.mono hle1;have hgx:rs[((k:Nat):Int).toNat]?=some rs[k]:=gE hkr;generalize rs[k]=x at *;have hal2:(aj l x.id).length<1099511627776:=Nat.lt_of_le_of_lt (by unfold aj; rw[ze6]; exact zc5 _ _) (dv hf).1;refine kP (tN (sQ (bK (sQ ?_))));refine dW [] [(0,1),(1,2),(2,1),(3,2),(4,2),(5,2),(6,1),(7,0),(8,2)] ze3 kR ?_;refine pK I (qV 1 ba aC I I I) (pU I (fA eH I ee I) (pK I (qL (v:=.slice p rs.length c) fX I (cO 1 I I)) (yM I (pU I (iA aJ aq I I hb1 oM sL) (pU I (fC au I zT3 I hb1) (pK I (aZ (e:=encCell) (o:=0) (u:=vi x.id) iT3 I (za7 hrs1) hgx I) (SP.o I (cL call116 I (mL E g1 _ _ l x.id hv1 hf)) dC (.inr iR) ?_)))))));rintro _ g2 _ ⟨rfl,hle2,ha2⟩;obtain ⟨q2,d2,rfl⟩:=za4 ha2;have hv2:=hv1.mono hle2;have hrs2:=za5 hrs1 hle2;refine pU I (aS I) (pN (tN ?_));refine SC.cut (ι:=PH) (fun _=>[(1,pp b1 0),(3,ov),(4,vi k),(5,.slice q2 (aj l x.id).length d2),(32,vb (mU l x.id))]) (fun g'=>g') (fun _=>rowA iT 76 ov acc::pt b1 (.cells #[.slice p rs.length c] 29 (0,0))::s) (fun g'=>Le g2 g') ?_ ?_
  ·by_cases h1:(aj l x.id).length=1
   ·obtain ⟨m,hm⟩:∃ m,aj l x.id=[m]:=by
     match hq:aj l x.id,h1 with
     | [m],_=>exact⟨m,rfl⟩
    have hfb:mU l x.id=decide (aj l m=[]):=by unfold mU; rw[hm]
    have hb2:=za6 ha2 oM;have hg0:(aj l x.id)[((0:Nat):Int).toNat]?=some m:=by rw[hm]; rfl
    refine SC.drawX [] ze3 kR ?_;refine SX.u (i:=0) I kR (mV I) dC (SX.u (i:=1) I kR (eN aH I) dC (SX.u (i:=2) I kR (SU.eq (v':=vb true) (eQ I I) (ze2 vb (zf8 oM))) dC (SX.u (i:=3) I kR (mV I) dC (SX.gq (i:=4) I kR (gT I I I dC) (qV 1 ba aC I I I) dC (SX.gu (i:=5) I kR (gT I I I dC) (mV I) dC (SX.gu (i:=6) I kR (gT I I I dC) (iA (i:=0) aH zT3 I I hb2 dC (show (0:Int)<(((aj l x.id).length:Nat):Int) by omega)) dC ?_))))));refine SX.gq (i:=7) I kR (gT I I I dC) (eB iT3 I (za7 ha2) hg0 I) dC ?_;refine zd6 8 kR ?_
    ·refine SB.go (i:=8) I (gT I I I dC) (cL call116 I (mL E g2 _ _ l m hv2 hf)) dC (.inr iR) ?_;rintro _ g3 _ ⟨rfl,hle3,ha3⟩;obtain ⟨q3,d3,rfl⟩:=za4 ha3;refine SX.gu (i:=9) I kR (gT I I I dC) (eN aH I) dC (SX.gu (i:=10) I kR (gT I I I dC) (SU.eq (v':=vb (decide (aj l m=[]))) (eQ I I) (ze2 vb (Ct _))) dC (SX.u (i:=11) I kR (wT I I) dC (SX.nil kR ?_)));exact za9 g3 ⟨I,I,I,I,(by rw[hfb]; rfl),trivial⟩ rfl rfl hle3
   ·have hfb:mU l x.id=false:=by
     unfold mU;split
     ·rename_i m hm; rw[hm] at h1; exact absurd I h1
     ·rfl
    refine SC.drawX [] ze3 kR ?_;refine SX.u (i:=0) I kR (mV I) dC (SX.u (i:=1) I kR (eN aH I) dC (SX.u (i:=2) I kR (SU.eq (v':=vb false) (eQ I I) (ze2 vb (zf7 oM))) dC (SX.u (i:=3) I kR (mV I) dC (SX.off (i:=4) I kR (gZ I I I dC) dC (SX.off (i:=5) I kR (gZ I I I dC) dC (SX.off (i:=6) I kR (gZ I I I dC) dC (SX.off (i:=7) I kR (gZ I I I dC) dC ?_)))))));refine zd6 8 kR ?_
    ·refine SB.offo (i:=8) I (gZ I I I dC) dC ⟨by exact zb9 _,(by exact .refl _)⟩ ?_;refine SX.off (i:=9) I kR (gZ I I I dC) dC (SX.off (i:=10) I kR (gZ I I I dC) dC (SX.u (i:=11) I kR (wF I I) dC (SX.nil kR ?_)));exact za9 g2 ⟨I,I,I,I,(by rw[hfb]; rfl),trivial⟩ rfl rfl (zb9 _)
  rintro g3 hle3;try dsimp only at hle3 ⊢
  have hle13:=hle1.trans (hle2.trans hle3);refine iQ I (fun hb=>?_) (fun hb=>?_)
  ·obtain ⟨m,hm,hm0⟩:∃ m,aj l x.id=[m]∧aj l m=[]:=by
    unfold mU at hb;split at hb
    ·rename_i m hm; exact⟨m,hm,zg3 hb⟩
    ·cases hb
   have hb2:=za6 ha2 (by rw[hm]; simp);have hg0:(aj l x.id)[((0:Nat):Int).toNat]?=some m:=by rw[hm]; rfl
   have hl1:(aj l x.id).length=1:=by rw[hm]; rfl
   refine dW [12] [(0,2),(1,2),(2,1),(3,2),(4,2),(5,2),(6,1),(7,2),(8,2),(9,1),(10,2),(11,0),(12,0),(13,2)] ze3 kR ?_;refine yM I (pU I (fA eH I ee I) (pK I (qL (v:=.slice p rs.length c) fX I (cO 1 I I)) (yM I (pU I (iA aJ aq I I hb1 oM sL) (pU I (fC au I zT3 I hb1) (pK I (aZ (e:=encCell) (o:=0) (u:=vi x.id) iT3 I (za7 (za5 hrs2 hle3)) hgx I) (yM I (pU I (iA (i:=0) aH zT3 I I hb2 dC (show (0:Int)<(((aj l x.id).length:Nat):Int) by omega)) ?_))))))));refine pK I (eB iT3 I (za7 (za5 ha2 hle3)) hg0 I) (pU I (za3 I (build76 _ _)) (SP.o I (bS sty40 I I I (ae ⟨I,trivial⟩) dC) dC (.inr iR) ?_));rintro _ _ _ ⟨b44,rfl,rfl,rfl⟩;refine SP.o I (aP (e:=iT) (l:=acc) 0 (x.id,m) sty40 I I I I I oM oM) dC (.inl dC) ?_;rintro ov' _ _ ⟨rfl,rfl⟩;refine pU I (aS I) (pN (bN (tN (rG (lM I (yD I (lA I (nL ?_))))))));exact ST.again (k+1,g3,ov',acc++[(x.id,m)]) sB I I ⟨by dsimp only; omega,hle13,by dsimp only; rw[ze5,ze7]; omega⟩ (by dsimp only; omega)
  ·refine kP (bN (tN (rG (lM I (yD I (lA I (nL ?_)))))));exact ST.again (k+1,g3,ov,acc) sB I I ⟨by dsimp only; omega,hle13,by dsimp only; omega⟩ (by dsimp only; omega)
 ·refine xI (tX (tX (bX (tN (sQ (fS fun g2 hle2 hs2=>?_))))));obtain ⟨q0,d0,rfl⟩:=Sl.form hs2;refine rG (lM I (aT I (rE (dR (s':=s) uR ?_))));exact za8 (.inl I) results51 I ⟨I,hle1.trans hle2,acc,hs2,oM⟩
theorem Ay (E:World)(g:PH)(s:Own)(v:Value)(l:List Cl)(n:Int)(hv:ar g v l)(hf:ci l) :
  Ctr Tryz.prog E 50 #[.agg #[v],vi n] g s (fun r g' s'=>∃ ps:List Pr,s'=rowA iT 76 r ps::s∧Le g g'∧ps.length≤1):=by
 obtain ⟨rs,hrs,hall⟩:=hv;have hfl:=hf.1;have hlen:=hall.length;obtain ⟨p,c,rfl⟩:=za4 hrs;refine zb2 (args:=[.agg #[.slice p rs.length c],vi n]) func50 I ntmps50 (bE I) ?_;refine rZ (bW (bO I) fun b2=>?_);refine aT I (rZ (lU (fA eH I ee I) (lK (qL (v:=.slice p rs.length c) fX I (cO 0 I I)) (lU (eN aJ I) (aT I (sQ (rZ (aT I (bK ?_)))))))));refine oP (ι:=Nat) (fun k=>[(1,vi n),(2,pp b2 0),(5,vi rs.length),(6,vi k)]) (fun _=>g) (fun _=>pt b2 (.cells #[.slice p rs.length c] 29 (0,0))::s)
  (fun k=>k≤rs.length) (fun k=>rs.length - k) 0 sB rfl rfl (zf6 _) ?_
 rintro k hk;try dsimp only at hk ⊢
 refine sQ (sW I (lM I (yL I (tZ ?_))));refine iP I (fun hlt=>?_) (fun hlt=>?_)
 ·have hb1:=za6 hrs oM;obtain ⟨hm1,hm2⟩:=sN (IntKind.i64.wrap (k+n)) rs.length oM oM;have hgx:rs[(co (IntKind.i64.wrap (k+n)) rs.length).toNat]?=some rs[(co (IntKind.i64.wrap (k+n)) rs.length).toNat]:=gE hm2;have hcx:=hall.get (gE (show (co (IntKind.i64.wrap (k+n)) rs.length).toNat<l.length by omega)) hgx;have hxl:=hf.2 _ (gM (show (co (IntKind.i64.wrap (k+n)) rs.length).toNat<l.length by omega));generalize l[(co (IntKind.i64.wrap (k+n)) rs.length).toNat]'oM=cx at *;generalize rs[(co (IntKind.i64.wrap (k+n)) rs.length).toNat]=x at *;obtain ⟨xi,xd,xp,xn,xc⟩:=x;obtain ⟨f1,f2,hxs⟩:=hcx;dsimp only at f1 f2 hxs;subst f1 f2;refine kP (tN (sQ (bK ?_)));refine SC.cut (ι:=Nat) (fun b=>[(1,vi n),(2,pp b2 0),(5,vi rs.length),(6,vi k),(7,pp b 0)]) (fun _=>g) (fun b=>pt b (.cells #[vi cx.id,vi cx.dim,.slice xp xn xc] 56 (0,0))::pt b2 (.cells #[.slice p rs.length c] 29 (0,0))::s) (fun _=>True) ?_ ?_
  ·refine SC.drawX [10] ze3 kR ?_;refine SX.u (i:=0) I kR (fA eH I ee I) dC (SX.q (i:=1) I kR (qL (v:=.slice p rs.length c) fX I (cO (by exact 0) I I)) dC ?_);refine SX.u (i:=2) I kR (mV I) dC (SX.u (i:=3) I kR (mV I) dC (SX.u (i:=4) I kR (ze1 I I) dC (SX.u (i:=5) I kR (mV I) dC ?_)))
   repeat' (first
    | (refine SB.o (i:=6) rfl (cL mh rfl (bL E g _ _ rs.length oM)) dC (.inr (by rintro _ _ _ ⟨rfl,rfl,rfl⟩; exact⟨by exact zb9 _,(by exact .cons _ (.refl _))⟩)) ?_; rintro _ _ _ ⟨rfl,rfl,rfl⟩; rw[hm1]; refine SX.u (i:=7) I kD (iA aJ aq I I hb1 oM sL) dC ?_; refine SX.q (i:=8) I kD (eA dL aq I (za7 hrs) hgx) dC ?_)
    | (refine SB.o (i:=6) rfl (cL mh rfl (bL E g _ _ rs.length oM)) dC (.inr (by rintro _ _ _ ⟨rfl,rfl,rfl⟩; exact⟨by exact zb9 _,(by exact .refl _)⟩)) ?_; rintro _ _ _ ⟨rfl,rfl,rfl⟩; rw[hm1]; refine SX.u (i:=7) I kD (iA aJ aq I I hb1 oM sL) dC ?_; refine SX.q (i:=8) I kD (eA dL aq I (za7 hrs) hgx) dC ?_)
    | (refine SB.o (i:=9) rfl (aL zl4) dC (.inr (by rintro _ _ _ ⟨b7,rfl,rfl,rfl⟩; exact⟨by exact zb9 _,(by exact .cons _ (.refl _))⟩)) ?_; rintro _ _ _ ⟨b7,rfl,rfl,rfl⟩)
    | (refine SB.on (i:=10) I (sK 0 aq I I I I I sB) (.inl dC) ?_; rintro _ _ _ ⟨rfl,rfl⟩)
    | refine zd7 6 9 kD ?_ ?_
    | refine zd6 9 kD ?_
    | refine zd6 10 kD ?_
    | refine zd6 6 kD ?_
    | (refine SX.nil kD ?_; exact za9 b7 sB I I trivial))
  rintro b7 -;try dsimp only
  clear hm1 hm2;refine rZ (aT I (bK ?_));refine oP (ι:=Nat) (fun j=>[(1,vi n),(2,pp b2 0),(5,vi rs.length),(6,vi k),(7,pp b7 0),(8,vi j)]) (fun _=>g) (fun _=>pt b7 (.cells #[vi cx.id,vi cx.dim,.slice xp xn xc] 56 (0,0))::pt b2 (.cells #[.slice p rs.length c] 29 (0,0))::s)
   (fun j=>j≤rs.length) (fun j=>rs.length - j) 0 sB rfl rfl (zf6 _) ?_
  rintro j hj;try dsimp only at hj ⊢
  refine sQ (sW I (lM I (yL I (tZ ?_))));refine iP I (fun hlt2=>?_) (fun hlt2=>?_)
  ·have hjr:j<rs.length:=oM;have hjl:j<l.length:=oM;have hgy:rs[((j:Nat):Int).toNat]?=some rs[j]:=gE hjr;have hcy:=hall.get (gE hjl) (gE hjr);have hyl:=hf.2 _ (gM hjl);generalize l[j]=cy at *;generalize rs[j]=y at *;obtain ⟨yi,yd,yp,yn,yc⟩:=y;obtain ⟨f1,f2,hys⟩:=hcy;dsimp only at f1 f2 hys;subst f1 f2;refine kP (tN (sQ (bK (rZ (lU (fA eH I ee I) (lK (qL (v:=.slice p rs.length c) fX I (cO 1 I I)) (lM I (lU (iA aJ aq I I hb1 oM sL) (lK (eA dL aq I (za7 hrs) hgy) (bW (aL zl4) fun b9=>?_))))))))));refine oZ (sK 0 aq I I I I I sB) ?_;refine tZ ?_;refine SC.cutB 60 (decide (cx.id≠cy.id)&&decide (cx.dim=cy.dim)&&decide (cx.dim>0)&&decide (jx cx.sides=jx cy.sides)) ?_ ?_
   ·refine rG (lU (fA au I zT3 I) (lK (qL (v:=vi cx.id) iT3 I (cO 1 I I)) (lU (fA au I zT3 I) (lK (qL (v:=vi cy.id) iT3 I (cO 0 I I)) (lU (nQ I I) (lM I ?_))))));refine sP ?_ ?_
    ·intro h42;refine lY I I I (fA au I zT3 I) (SL.gq (gT I I I dC) (qL (v:=vi cx.dim) iT3 I (cO 1 I I)) dC (lY I I I (fA au I zT3 I) (SL.gq (gT I I I dC) (qL (v:=vi cy.dim) iT3 I (cO 0 I I)) dC (lY I I I (eQ I I) (yP I (lM I ?_))))));refine sP ?_ ?_
     ·intro h49;refine lY I I I (fA au I zT3 I) (SL.gq (gT I I I dC) (qL (v:=vi cx.dim) iT3 I (cO 1 I I)) dC (lY I I I (gR I I) (yP I (lM I ?_))));refine sP ?_ ?_
      ·intro h54;refine lY I I I (fA au I bQ I) (SL.gq (gT I I I dC) (qL (v:=.slice xp xn xc) cZ I (cO 1 I I)) dC (lY I I I (fA au I bQ I) (SL.gq (gT I I I dC) (qL (v:=.slice yp yn yc) cZ I (cO 0 I I)) dC (SL.go (gT I I I dC) (cL call115 I (qZ E g _ _ _ _ _ hxs hys hxl hyl)) dC ?_))));rintro _ _ _ ⟨rfl,rfl,rfl⟩;refine yP I (nL ?_);exact zb1 (by (simp_all[bh]; done)) mI
      ·intro h54;refine yA I (yA I (yA I (yA I (yA I (yF I (nL ?_))))));exact zb1 (by (simp_all[bh]; omega)) mI
     ·intro h49;refine yA I (yA I (yA I (yF I (lM I (yA I (yA I (yA I (yA I (yA I (yF I (nL ?_)))))))))));exact zb1 (by (simp_all[bh]; done)) mI
    ·intro h42;refine yA I (yA I (yA I (yA I (yA I (yF I (lM I (yA I (yA I (yA I (yF I (lM I (yA I (yA I (yA I (yA I (yA I (yF I (nL ?_))))))))))))))))));exact zb1 (by (simp_all[bh]; done)) mI
   refine iQ I (fun hq=>?_) (fun hq=>?_)
   ·refine rZ (lU (fA au I zT3 I) (lK (qL (v:=vi cx.id) iT3 I (cO 1 I I)) (lU (fA au I zT3 I) (lK (qL (v:=vi cy.id) iT3 I (cO 0 I I)) (lU (za3 I (build76 _ _)) (lW (bS sty40 I I I (ae ⟨I,trivial⟩) dC) ?_))))));rintro _ _ _ ⟨b66,rfl,rfl,rfl⟩;refine SL.to (fun w hw=>At.litRow (e:=iT) (l:=[(cx.id,cy.id)]) (n:=0) hw I I dC) ?_;refine aT I (rE (bR (tR (tR (bR (bR (tR (tR (bR (tR (dR (.cons_cons _ (.cons _ (.cons _ (.cons _ (.refl s))))) ?_)))))))))));exact za8 (.inl I) results50 I ⟨_,I,zb9 _,by simp⟩
   ·refine kP (bN (tN (rG (lM I (yD I (lA I (nL (dR (.cons _ (.refl _)) ?_))))))));exact ST.again (j+1) sB I I oM oM
  ·refine xI (tX (tX (bX (bN (tN (rG (lM I (yD I (lA I (nL (dR (.cons _ (.refl _)) ?_)))))))))));exact ST.again (k+1) sB I I oM oM
 ·refine xI (tX (tX (bX (tN (rZ (aT I (rE (dR (s':=s) (.cons _ (.refl _)) (ST.nilRow 76 2 ?_)))))))));exact za8 (.inl I) results50 I ⟨[],I,zb9 _,by simp⟩
end Go.Proofs.YtbbppeihhkhkcaaGreatDoor
