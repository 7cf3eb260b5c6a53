/- 13 -/
import Derived.Test.YtdepcjnaieflmaaGreatDoorMc12
set_option linter.unusedSimpArgs false
set_option linter.unusedVariables false
namespace Go.Proofs.YtdepcjnaieflmaaGreatDoor
open _root_.Go.Proofs.Tryz _root_.Go.Proofs.YtdepcjnaieflmaaGreatDoor.Tryz
open Go Go.Sy Go.Pl Go.Proofs
set_option maxRecDepth 100000
set_option maxHeartbeats 8000000
theorem yT (ps:List Pr):(qi ps).length=2 * ps.length:=by
 induction ps with
 | nil=>rfl
 | cons p ps ih =>
  have hc:qi (p::ps)=p.1::p.2::qi ps:=rfl;rw[hc,zf1,zf1,zf1,ih];omega
def nb (l:List Cl)(id:Int):Int:=((findC l id).getD aA).dim
def i6 (l:List Cl)(id:Int):List aj:=((findC l id).getD aA).sides
def ir (l:List Cl)(ps:List Pr)(p:Pr):Bool:=decide (lH ((i6 l p.1).map<|kH<|byF ps)=lH ((i6 l p.2).map<|kH<|byF ps))
def dq (l:List Cl)(e:Ed):Int :=
 if e.pairs.all (fun p=>(findC l p.1).isSome&&(findC l p.2).isSome) then
  if zh e.pairs then 54 else if e.pairs.any (fun p=>decide (nb l p.1≠nb l p.2)) then 21 else if e.pairs.all (ir l e.pairs) then 0 else 33
 else 30
def CX (f:Int→Option Int)(c:Cl):Cl:=⟨c.id,c.dim,c.sides.map<|kH f⟩
def ey (l:List Cl)(e:Ed):List Cl:=(cJ l<|e.pairs.map Prod.snd).map (CX<|byF e.pairs)
def ft (ps:List Pr)(M:List (Int×List Tm)):List (Int×List Tm):=ps.foldl (fun M p=>M.map<|df p.2 [(p.1,1)]) M
theorem vy {ps:List Pr}{k:Nat}(a:k<ps.length)(M:List (Int×List Tm)):ft (ps.take<|k+1) M=(ft (ps.take k) M).map (df ps[k].2 [(ps[k].1,1)]):=by
 unfold ft;rw[tS a,zj2];rfl
theorem wI (ps:List Pr):∀ M,(ft ps M).length=M.length:=by
 unfold ft;induction ps with
 | nil=>intro M;rfl
 | cons p ps ih=>intro M;rw[zj1,ih,ze8]
theorem DE {α:Type}(f:α→α){l:List α}{k:Nat}(a:k<l.length):(l.take<|k+1).map f++l.drop (k+1)=((l.take k).map f++l.drop k).set k (f l[k]):=by
 rw[tS a,zg7,zh1,List.set_append_right _ _ (by rw[ze8,ze6];omega),ze8,ze6,show k - min k l.length=0 by omega];congr 1;rw[zg8 a];rfl
theorem Fj {α:Type}(f:α→α){l:List α}{k:Nat}(a:k<l.length):((l.take k).map f++l.drop k)[k]?=some l[k]:=by
 rw[zh5 (by rw[ze8,ze6];omega),ze8,ze6,show k - min k l.length=0 by omega,zg8 a];rfl
theorem Dy {L:List Int}(h:∀ a (f:a<L.length) b (hb:b<a),L[a]≠L[b]'oM):L.Nodup:=by
 rw[List.nodup_iff_pairwise_ne,zd1];intro i j g d c e;exact h j d i c e.symm
theorem nP (E:World)(g:PH)(s:Own)(v ev:Value)(l:List Cl)(e:Ed)(hv:ai g v l)(hf:aM l)(he:EdR g ev e)(y4:e.pairs.length<100000000000)(n3:∀ id,(i6 l id).length<1099511627776) :
  Ctr Tryz.prog E 123 #[.agg #[v],ev] g s (fun r g' s'=>s=s'∧Le g g'∧EI (dq l e) (if dq l e=0 then ey l e else l) (ft e.pairs<|(am l).map gr) false r g'):=by
 obtain ⟨sv,pv,rfl,u0,b9⟩:=he;obtain ⟨sp,sc,rfl⟩:=za4 u0;obtain ⟨C,D,rfl⟩:=za4 b9;obtain ⟨p,c,rfl⟩:=hv.form;refine zb2 (args:=[.agg #[.slice p l.length c],.agg #[vi e.kind,vi e.cell,vi e.dim,vi e.new,vi e.other,.slice sp e.sides.length sc,.slice C e.pairs.length D]]) func123 I ntmps123 (bE I)<|rZ (bW (bO I) fun Y=>?_);refine bW (bO I) fun Z=>bW (aL zl3) fun b4=>bW (aL zl5) fun b5=>aT I<|rZ<|aT I<|rZ<|aT I<|sQ<|rZ<|aT I<|bK<|zb6 3 1<|zb6 3 1<|oP (ι:=Nat×PH×Value×Value) (fun i=>[(2,pp Y 0),(3,pp Z 0),(4,pp b4 0),(5,pp b5 0),(7,i.2.2.1),(8,i.2.2.2),(9,vi i.1)]) (fun i=>i.2.1)
  (fun i=>rowA encInt 3 i.2.2.1 (qi<|e.pairs.take i.1)::rowA encInt 3 i.2.2.2 ((e.pairs.take i.1).map Prod.snd)::pt b5 (bY #[.slice none 0 0,vb false] 92)::pt b4 (bY #[.slice none 0 0] 29)::pt Z (.cells (edV e (.slice sp e.sides.length sc)<|.slice C e.pairs.length D) 58 (0,0))::pt Y (bY #[.slice p l.length c] 29)::s)
  (fun i=>i.1≤e.pairs.length∧Le g i.2.1∧(∀ q∈e.pairs.take i.1,(findC l q.1).isSome=true∧(findC l q.2).isSome=true)) (fun i=>e.pairs.length - i.1) (0,g,.slice none 0 0,.slice none 0 0)
  sB rfl rfl ⟨zf8 _,zb9 _,fun q hq=>by simp at hq⟩ ?_
 rintro ⟨k,g1,wa,wg⟩ ⟨hk,K,d9⟩;dsimp only at hk K d9 ⊢;refine sQ<|sW I<|lU (fA a6 I kF I)<|lK (qL (v:=.slice C e.pairs.length D) nx I<|cO 4 I I)<|lU (eN mG I)<|yL I<|tZ<|iP I (fun u1=>?_) (fun u1=>?_)
 ·have O:k<e.pairs.length:=oM;have d:=za6 b9 oM;have P:=za5 b9 K;have a0:=hv.mono K;have A:e.pairs[((k:Nat):Int).toNat]?=some e.pairs[k]:=List.getElem?_eq_getElem O;have c1:e.pairs.take (k+1)=e.pairs.take k++[e.pairs[k]]:=tS O;have n5:=yT<|e.pairs.take k;rw[ze6] at n5;have y5:((e.pairs.take k).map Prod.snd).length≤k:=by rw[ze8,ze6];omega
  have a1:¬ ((findC l e.pairs[k].1).isSome=true∧(findC l e.pairs[k].2).isSome=true)→dq l e=30:=fun h=>by
   unfold dq;rw[zg2];intro h2;have h3:=zk2.1 h2 _<|gM O;rw[zj5] at h3;exact h h3
  have h0:qi (e.pairs.take<|k+1)=qi (e.pairs.take k)++[e.pairs[k].1,e.pairs[k].2]:=by rw[c1,CK]
  have h4:(e.pairs.take<|k+1).map Prod.snd=(e.pairs.take k).map Prod.snd++[e.pairs[k].2]:=by rw[c1,zg7];rfl
  generalize e.pairs[k]=x at *;obtain ⟨H,J⟩:=x;dsimp only at a1 h0 h4;cases c3:(findC l H).isSome with
  | false =>
   rw[a1 (by rw[c3];rintro ⟨h,_⟩;cases h)];refine kP<|tN<|sQ<|bK<|sQ<|sQ<|dW [] [(0,1),(1,2),(2,1),(3,2),(4,2),(5,2),(6,1),(7,0),(8,2),(9,2),(10,1),(11,2),(12,1),(13,2),(14,2),(15,2),(16,1),(17,0),(18,2),(19,2)] ze5 kR<|pK I (qV 5 an ae I I I)<|pU I (fA a6 I kF I)<|pK I (qL (v:=.slice C e.pairs.length D) nx I<|cO 4 I I)<|yM I<|pU I (iA mG p4 I I d oM sL)<|pU I (SU.indexAddrC qx zT3 I d I dC dC)<|pK I (aZ (e:=ei) (o:=0) (u:=vi H) iT3 I (za7 P) A I)<|SP.o I (SO.call call181 I<|di E g1 _ _ l H a0 hf) dC (.inr iR) ?_;rintro _ g2 _ ⟨rfl,rfl,F⟩;rw[c3];refine pU I (SU.not I)<|yM I<|yI I<|yG I<|yI I<|yG I<|yG I<|yG I<|yI I<|fO I (gZ I I I dC) dC ⟨by assumption,(by exact .refl _)⟩ ?_;refine yG I<|pU I (wT I I)<|pN<|tN<|za2 I<|rZ<|lK (qV 5 an ae I I I)<|lU (za3 I buildZ92)<|oZ (sK 3 ae I I I I I sB) ?_;refine oZ (sK 2 bT I I I I I sB) ?_;refine aT I<|rE<|tR<|bR<|tR<|tR<|bR<|tR ?_;exact ST.retCCT 3 2 s (.inl I) results123 I I I an ae gt bT I I I I uR ⟨I,K.trans F,_,_,_,_,I,a0.mono F,fun h=>by cases h⟩
  | true =>
  cases e0:(findC l J).isSome with
  | false =>
   rw[a1 (by rw[e0];rintro ⟨_,h⟩;cases h)];refine kP<|tN<|sQ<|bK<|sQ<|sQ<|dW [] [(0,1),(1,2),(2,1),(3,2),(4,2),(5,2),(6,1),(7,0),(8,2),(9,2),(10,1),(11,2),(12,1),(13,2),(14,2),(15,2),(16,1),(17,0),(18,2),(19,2)] ze5 kR<|pK I (qV 5 an ae I I I)<|pU I (fA a6 I kF I)<|pK I (qL (v:=.slice C e.pairs.length D) nx I<|cO 4 I I)<|yM I<|pU I (iA mG p4 I I d oM sL)<|pU I (SU.indexAddrC qx zT3 I d I dC dC)<|pK I (aZ (e:=ei) (o:=0) (u:=vi H) iT3 I (za7 P) A I)<|SP.o I (SO.call call181 I<|di E g1 _ _ l H a0 hf) dC (.inr iR) ?_;rintro _ g2 _ ⟨rfl,rfl,F⟩;rw[c3];refine pU rfl (SU.not rfl)<|yM rfl<|SP.gq rfl (gT rfl rfl rfl dC) (qV 5 an ae rfl rfl rfl) dC<|zb3 rfl (gT rfl rfl rfl dC) (fA a6 rfl kF rfl) dC<|SP.gq rfl (gT rfl rfl rfl dC) (qL (v:=.slice C e.pairs.length D) nx rfl<|cO 4 rfl rfl) dC<|yJ rfl<|zb3 rfl (gT rfl rfl rfl dC) (iA mG p4 rfl rfl d oM sL) dC<|zb3 rfl (gT rfl rfl rfl dC) (SU.indexAddrC qx zT3 rfl d rfl dC dC) dC<|SP.gq rfl (gT rfl rfl rfl dC) (aZ (e:=ei) (o:=1) (u:=vi J) iT3 rfl (za7 P) A rfl) dC<|SP.go rfl (gT rfl rfl rfl dC) (SO.call call181 rfl<|di E _ _ _ l J (a0.mono<|by assumption) hf) dC (.inr (by rintro _ g3 _ ⟨rfl,rfl,G⟩;exact⟨by exact Le.trans io io,(by exact .refl _)⟩)) ?_;rintro _ g3 _ ⟨rfl,rfl,G⟩;rw[e0];have z:=F.trans G;refine zb3 I (gT I I I dC) (SU.not I) dC<|pU I (wF I I)<|pN<|tN<|za2 I<|rZ<|lK (qV 5 an ae I I I)<|lU (za3 I buildZ92)<|oZ (sK 3 ae I I I I I sB) ?_;refine oZ (sK 2 bT I I I I I sB) ?_;refine aT I<|rE<|tR<|bR<|tR<|tR<|bR<|tR ?_;exact ST.retCCT 3 2 s (.inl I) results123 I I I an ae gt bT I I I I uR ⟨I,K.trans z,_,_,_,_,I,a0.mono z,fun h=>by cases h⟩
  | true =>
  refine kP (tN (sQ (bK (sQ (sQ ?_)))));refine dW [] [(0,1),(1,2),(2,1),(3,2),(4,2),(5,2),(6,1),(7,0),(8,2),(9,2),(10,1),(11,2),(12,1),(13,2),(14,2),(15,2),(16,1),(17,0),(18,2),(19,2)] ze5 kR<|pK I (qV 5 an ae I I I) (pU I (fA a6 I kF I) (pK I (qL (v:=.slice C e.pairs.length D) nx I (cO 4 I I)) (yM I (pU I (iA mG p4 I I d oM sL) (pU I (SU.indexAddrC qx zT3 I d I dC dC) (pK I (aZ (e:=ei) (o:=0) (u:=vi H) iT3 I (za7 P) A I) (SP.o I (SO.call call181 I (di E g1 _ _ l H a0 hf)) dC (.inr iR) ?_)))))));rintro _ g2 _ ⟨rfl,rfl,F⟩;rw[c3];refine pU rfl (SU.not rfl) (yM rfl (SP.gq rfl (gT rfl rfl rfl dC) (qV 5 an ae rfl rfl rfl) dC (zb3 rfl (gT rfl rfl rfl dC) (fA a6 rfl kF rfl) dC (SP.gq rfl (gT rfl rfl rfl dC) (qL (v:=.slice C e.pairs.length D) nx rfl (cO 4 rfl rfl)) dC (yJ rfl (zb3 rfl (gT rfl rfl rfl dC) (iA mG p4 rfl rfl d oM sL) dC (zb3 rfl (gT rfl rfl rfl dC) (SU.indexAddrC qx zT3 rfl d rfl dC dC) dC (SP.gq rfl (gT rfl rfl rfl dC) (aZ (e:=ei) (o:=1) (u:=vi J) iT3 rfl (za7 P) A rfl) dC (SP.go rfl (gT rfl rfl rfl dC) (SO.call call181 rfl (di E _ _ _ l J (a0.mono io) hf)) dC (.inr (by rintro _ g3 _ ⟨rfl,rfl,G⟩;exact⟨by exact Le.trans io io,(by exact .refl _)⟩)) ?_)))))))));rintro _ g3 _ ⟨rfl,rfl,G⟩;rw[e0];have z:=F.trans G;have Q:=za5 P z;refine zb3 I (gT I I I dC) (SU.not I) dC (pU I (wF I I) (pN (tN (za1 I (kP (tN (sQ ?_)))))));refine dW [14] [(0,2),(1,2),(2,1),(3,2),(4,2),(5,2),(6,1),(7,2),(8,1),(9,2),(10,2),(11,2),(12,1),(13,0),(14,0),(15,2)] ze5 kR ?_;refine yM I (pU I (fA a6 I kF I) (pK I (qL (v:=.slice C e.pairs.length D) nx I (cO 4 I I)) (yM I (pU I (iA mG p4 I I d oM sL) (pU I (SU.indexAddrC qx zT3 I d I dC dC) (pK I (aZ (e:=ei) (o:=0) (u:=vi H) iT3 I (za7 Q) A I) (pU I (fA a6 I kF I) (pK I (qL (v:=.slice C e.pairs.length D) nx I (cO 4 I I)) (yM I (pU I (iA mG p4 I I d oM sL) (pU I (SU.indexAddrC qx zT3 I d I dC dC) (pK I (aZ (e:=ei) (o:=1) (u:=vi J) iT3 I (za7 Q) A I) (SP.o I (bS sty32 I I I (ab sB) dC) dC (.inr iR) ?_)))))))))))));rintro _ _ _ ⟨z2,rfl,rfl,rfl⟩;refine SP.to (fun w hw=>At.litRow (e:=encInt) (l:=[H,J]) (n:=1) hw I I dC) ?_;refine SP.freezeRow fun g4 y u2=>?_;refine SP.o I (aQ (e:=encInt) (l:=qi (e.pairs.take k)) (m:=[H,J]) 0 sty32 I I I u2 (by simp;omega) (by simp;omega)) dC (.inl dC) ?_;rintro wa' _ _ ⟨rfl,rfl⟩;refine pU I (aS I) (pN (tN ?_));have M:=za5 Q y;refine rG (lM I (lU (fA a6 I kF I) (lK (qL (v:=.slice C e.pairs.length D) nx I (cO 4 I I)) (lM I (lU (iA mG p4 I I d oM sL) (lU (SU.indexAddrC qx zT3 I d I dC dC) (lK (aZ (e:=ei) (o:=1) (u:=vi J) iT3 I (za7 M) A I) (lW (bS sty32 I I I (ab ⟨I,trivial⟩) dC) ?_))))))));rintro _ _ _ ⟨z3,rfl,rfl,rfl⟩;refine lW (aP (e:=encInt) 1 J sty32 I I I I I oM oM) ?_;rintro wg' _ _ ⟨rfl,rfl⟩;refine lA I (SL.nil (bN (tN (rG (lM I (yD I (lA I (SL.nil ?_))))))));exact ST.again (k+1,g4,wa',wg') sB I (by dsimp only;rw[h0,h4];rfl) ⟨by dsimp only;omega,K.trans (z.trans y),fun q hq=>by
   dsimp only at hq;rw[c1] at hq
   rcases zf5.1 hq with hq | hq
   ·exact d9 q hq
   ·simp at hq;subst hq;exact⟨c3,e0⟩⟩ (by dsimp only;omega)
 ·have u3:e.pairs.take k=e.pairs:=tL oM;rw[u3] at d9 ⊢;have u4:e.pairs.all (fun p=>(findC l p.1).isSome&&(findC l p.2).isSome)=true:=zk2.2 fun p hp=>by
   obtain ⟨h1,h2⟩:=d9 p hp;rw[h1,h2];rfl
  have i2:dq l e=if zh e.pairs then 54 else if e.pairs.any (fun p=>decide (nb l p.1≠nb l p.2)) then 21 else if e.pairs.all (ir l e.pairs) then 0 else 33:=by unfold dq;rw[zg3 u4]
  rw[i2];have n5:=yT e.pairs;refine xI (tX<|tX<|bX<|tN<|sQ<|sQ<|fS fun g2 F u6=>?_);refine fS fun g3 G u7=>?_;have z:=F.trans G;have a5:dp g3 wa (qi e.pairs):=Sl.mono u6 G;obtain ⟨qa,da,rfl⟩:=za4 a5;have h6:dp g3 wg (e.pairs.map Prod.snd):=u7;obtain ⟨qg,dg,rfl⟩:=za4 h6;refine rG<|aT I<|bK ?_;have N:=K.trans z;have i3:=hv.mono N;have Q:=za5 b9 N;generalize hL:qi e.pairs=L at *;refine oP (ι:=Nat) (fun i=>[(2,pp Y 0),(3,pp Z 0),(4,pp b4 0),(5,pp b5 0),(7,.slice qa L.length da),(8,.slice qg (e.pairs.map Prod.snd).length dg),(10,vi i)]) (fun _=>g3)
   (fun _=>pt b5 (bY #[.slice none 0 0,vb false] 92)::pt b4 (bY #[.slice none 0 0] 29)::pt Z (.cells (edV e (.slice sp e.sides.length sc)<|.slice C e.pairs.length D) 58 (0,0))::pt Y (bY #[.slice p l.length c] 29)::s)
   (fun i=>i≤L.length∧∀ a (ha:a<i) (hl:a<L.length) b (hb:b<a),L[a]≠L[b]'oM) (fun i=>L.length - i) 0 sB rfl rfl ⟨zf8 _,fun a ha=>absurd ha oM⟩ ?_
  rintro i ⟨hi,j0⟩;try dsimp only at hi j0 ⊢
  refine sQ<|sW I<|lM I<|lU (eN az I)<|yL I<|tZ<|iP I (fun n6=>?_) (fun n6=>?_)
  ·have u8:i<L.length:=oM;have o1:=za6 a5 oM;have u9:L[((i:Nat):Int).toNat]?=some L[i]:=List.getElem?_eq_getElem u8;refine kP<|tN<|sQ<|bK<|rZ<|aT I<|bK<|oP (ι:=Nat) (fun j=>[(2,pp Y 0),(3,pp Z 0),(4,pp b4 0),(5,pp b5 0),(7,.slice qa L.length da),(8,.slice qg (e.pairs.map Prod.snd).length dg),(10,vi i),(11,vi j)]) (fun _=>g3)
    (fun _=>pt b5 (bY #[.slice none 0 0,vb false] 92)::pt b4 (bY #[.slice none 0 0] 29)::pt Z (.cells (edV e (.slice sp e.sides.length sc)<|.slice C e.pairs.length D) 58 (0,0))::pt Y (bY #[.slice p l.length c] 29)::s)
    (fun j=>j≤i∧∀ b (hb:b<j) (hl:b<L.length),L[i]≠L[b]) (fun j=>i - j) 0 sB rfl rfl ⟨zf8 _,fun b hb=>absurd hb oM⟩ ?_
   rintro j ⟨hj,j1⟩;try dsimp only at hj j1 ⊢
   refine sQ<|sW I<|lM I<|yL I<|tZ<|iP I (fun o2=>?_) (fun o2=>?_)
   ·have v0:j<L.length:=oM;have v1:L[((j:Nat):Int).toNat]?=some L[j]:=List.getElem?_eq_getElem v0;refine kP<|tN<|sQ<|bK<|sQ<|dW [] [(0,2),(1,2),(2,2),(3,1),(4,2),(5,2),(6,2),(7,1),(8,2)] ze5 kR<|yM I<|yM I<|pU I (iA az zT3 I I o1 oM sL)<|pK I (eB iT3 I (za7 a5) u9 I)<|yM I<|yM I<|pU I (iA az zT3 I I o1 oM sL)<|pK I (eB iT3 I (za7 a5) v1 I)<|pU I (eQ I I)<|pN<|tN<|iP I (fun j2=>?_) (fun j2=>?_)
    ·have c5:zh e.pairs=true:=by
      unfold zh;rw[hL];refine zg1 fun hn=>?_;have h5:=(List.getElem_inj hn).1 j2;omega
     rw[zg3 c5];exact rZ<|lK (qV 3 an ae I I I)<|lU (za3 I buildZ92)<|oZ (sK 1 ae I I I I I sB)<|oZ (sK 0 bT I I I I I sB)<|aT I<|rE<|bR<|tR<|tR<|bR<|bR<|tR<|tR<|bR<|tR<|ST.retCCT 1 0 s (.inl I) results123 I I I an ae gt bT I I I I uR ⟨I,N,_,_,_,_,I,i3,fun h=>by cases h⟩
    ·refine kP (bN (tN (rG (lM I (yD I (lA I (SL.nil ?_)))))));exact ST.again (j+1) sB I I ⟨oM,fun b hb hl=>by
      by_cases e9:b=j
      ·subst e9;exact j2
      ·exact j1 b oM hl⟩ oM
   ·refine xI (tX (tX (bX (bN (tN (rG (lM I (yD I (lA I (SL.nil ?_))))))))));exact ST.again (i+1) sB I I ⟨oM,fun a ha hl b hb=>by
     by_cases e9:a=i
     ·subst e9;exact j1 b oM oM
     ·exact j0 a oM hl b hb⟩ oM
  ·have v2:L.Nodup:=Dy fun a ha b hb=>j0 a oM ha b hb;have c5:zh e.pairs=false:=by
    unfold zh;rw[hL];exact zf9 fun h=>h v2
   rw[c5,zg2 Bool.false_ne_true];refine xI<|tX<|tX<|bX<|tN<|rZ<|aT I<|sQ<|rZ<|aT I<|bK<|oP (ι:=Nat×PH) (fun i=>[(2,pp Y 0),(3,pp Z 0),(4,pp b4 0),(5,pp b5 0),(8,.slice qg (e.pairs.map Prod.snd).length dg),(12,vi (if (e.pairs.take i.1).all (ir l e.pairs) then 0 else 33)),(13,vi i.1)]) (fun i=>i.2)
    (fun _=>pt b5 (bY #[.slice none 0 0,vb false] 92)::pt b4 (bY #[.slice none 0 0] 29)::pt Z (.cells (edV e (.slice sp e.sides.length sc)<|.slice C e.pairs.length D) 58 (0,0))::pt Y (bY #[.slice p l.length c] 29)::s)
    (fun i=>i.1≤e.pairs.length∧Le g3 i.2∧(e.pairs.take i.1).any (fun p=>decide (nb l p.1≠nb l p.2))=false) (fun i=>e.pairs.length - i.1) (0,g3) sB rfl rfl ⟨zf8 _,zb9 _,rfl⟩ ?_
   rintro ⟨k3,g4⟩ ⟨v3,y,e4⟩;dsimp only at v3 y e4 ⊢;refine sQ<|sW I<|lU (fA a6 I kF I)<|lK (qL (v:=.slice C e.pairs.length D) nx I<|cO 2 I I)<|lU (eN mG I)<|yL I<|tZ<|iP I (fun p0=>?_) (fun p0=>?_)
   ·have O:k3<e.pairs.length:=oM;have d:=za6 b9 oM;have M:=za5 Q y;have X:=i3.mono y;have A:e.pairs[((k3:Nat):Int).toNat]?=some e.pairs[k3]:=List.getElem?_eq_getElem O;have c1:e.pairs.take (k3+1)=e.pairs.take k3++[e.pairs[k3]]:=tS O;have c6:nb l e.pairs[k3].1≠nb l e.pairs[k3].2→e.pairs.any (fun p=>decide (nb l p.1≠nb l p.2))=true:=fun h=>zk1.2 ⟨_,gM O,zg1 h⟩;have c7:nb l e.pairs[k3].1=nb l e.pairs[k3].2→(e.pairs.take<|k3+1).any (fun p=>decide (nb l p.1≠nb l p.2))=false:=fun h=>by
     rw[c1,List.any_append,e4,Bool.false_or];simp[h]
    have a9:(e.pairs.take<|k3+1).all (ir l e.pairs)=((e.pairs.take k3).all (ir l e.pairs)&&ir l e.pairs e.pairs[k3]):=by
     rw[c1,List.all_append];simp
    have l0:=n3 e.pairs[k3].1;have l1:=n3 e.pairs[k3].2;generalize e.pairs[k3]=x at *;obtain ⟨H,J⟩:=x;dsimp only at c6 c7 l0 l1;have l2:ir l e.pairs (H,J)=decide (lH ((i6 l H).map<|kH<|byF e.pairs)=lH ((i6 l J).map<|kH<|byF e.pairs)):=rfl;generalize ir l e.pairs (H,J)=al at *;refine kP<|tN<|sQ<|bK<|SC.cut (ι:=Nat×PH×Rc) (fun i=>[(2,pp Y 0),(3,pp Z 0),(4,pp b4 0),(5,pp b5 0),(8,.slice qg (e.pairs.map Prod.snd).length dg),(12,vi (if (e.pairs.take k3).all (ir l e.pairs) then 0 else 33)),(13,vi k3),(14,pp i.1 0)]) (fun i=>i.2.1)
     (fun i=>pt i.1 (bY #[vi i.2.2.id,vi i.2.2.dim,.slice i.2.2.sv.p i.2.2.sv.n i.2.2.sv.c] 37)::pt b5 (bY #[.slice none 0 0,vb false] 92)::pt b4 (bY #[.slice none 0 0] 29)::pt Z (.cells (edV e (.slice sp e.sides.length sc)<|.slice C e.pairs.length D) 58 (0,0))::pt Y (bY #[.slice p l.length c] 29)::s)
     (fun i=>Le g4 i.2.1∧ak i.2.1 ((findC l H).getD aA) i.2.2) ?_ ?_
    ·refine SC.drawX [12] ze5 kR ?_;refine SX.q (i:=0) I kR (qV 3 an ae I I I) dC<|SX.u (i:=1) I kR (fA a6 I kF I) dC<|SX.q (i:=2) I kR (qL (v:=.slice C e.pairs.length D) nx I<|cO 2 I I) dC<|SX.u (i:=3) I kR (mV I) dC<|SX.u (i:=4) I kR (iA mG p4 I I d oM sL) dC<|SX.u (i:=5) I kR (SU.indexAddrC qx zT3 I d I dC dC) dC<|SX.q (i:=6) I kR (aZ (e:=ei) (o:=0) (u:=vi H) iT3 I (za7 M) A I) dC ?_
     repeat' (first
      | (refine SB.o (i:=7) rfl (SO.call call55 rfl<|bc E g4 _ _ l H X hf) dC (.inr (by rintro _ g5 _ ⟨rfl,t,r5,rfl,S⟩;exact⟨by assumption,(by exact .cons _<|.refl _)⟩)) ?_;rintro _ g5 _ ⟨rfl,t,r5,rfl,S⟩;refine SX.u (i:=8) I kD (mV I) dC ?_;refine SX.u (i:=9) I kD (xT I I) dC ?_;refine SX.u (i:=10) I kD (xT I I) dC ?_)
      | (refine SB.o (i:=7) rfl (SO.call call55 rfl<|bc E g4 _ _ l H X hf) dC (.inr (by rintro _ g5 _ ⟨rfl,t,r5,rfl,S⟩;exact⟨by assumption,(by exact .refl _)⟩)) ?_;rintro _ g5 _ ⟨rfl,t,r5,rfl,S⟩;refine SX.u (i:=8) I kD (mV I) dC ?_;refine SX.u (i:=9) I kD (xT I I) dC ?_;refine SX.u (i:=10) I kD (xT I I) dC ?_)
      | (refine SB.o (i:=11) rfl (aL zm2) dC (.inr (by rintro _ _ _ ⟨a2,rfl,rfl,rfl⟩;exact⟨by exact zb9 _,(by exact .cons _<|.refl _)⟩)) ?_;rintro _ _ _ ⟨a2,rfl,rfl,rfl⟩)
      | (refine SB.o (i:=11) rfl (aL zm2) dC (.inr (by rintro _ _ _ ⟨a2,rfl,rfl,rfl⟩;exact⟨by assumption,(by exact .cons _<|.refl _)⟩)) ?_;rintro _ _ _ ⟨a2,rfl,rfl,rfl⟩)
      | (refine SB.on (i:=12) I (sK 0 ar I I I I I sB) (.inl dC) ?_;rintro _ _ _ ⟨rfl,rfl⟩;refine SX.u (i:=13) I kD (aS I) dC ?_)
      | refine zd8 7 11 kD ?_ ?_
      | refine zd7 11 kD ?_
      | refine zd7 12 kD ?_
      | refine zd7 7 kD ?_
      | (refine SX.nil kD ?_;exact za9 (a2,g5,r5) sB I I ⟨t,S⟩))
    rintro ⟨a2,g5,r5⟩ ⟨t,S⟩;obtain ⟨v4,l3,l4,m1,m2⟩:=r5;obtain ⟨f1,f2,p1⟩:=S;dsimp only at t f1 f2 p1 ⊢;have p2:=X.mono t;have b1:=za5 M t;refine SC.cut (ι:=Nat×PH×Rc) (fun i=>[(2,pp Y 0),(3,pp Z 0),(4,pp b4 0),(5,pp b5 0),(8,.slice qg (e.pairs.map Prod.snd).length dg),(12,vi (if (e.pairs.take k3).all (ir l e.pairs) then 0 else 33)),(13,vi k3),(14,pp a2 0),(16,pp i.1 0)]) (fun i=>i.2.1)
     (fun i=>pt i.1 (bY #[vi i.2.2.id,vi i.2.2.dim,.slice i.2.2.sv.p i.2.2.sv.n i.2.2.sv.c] 37)::pt a2 (bY #[vi v4,vi l3,.slice l4 m1 m2] 37)::pt b5 (bY #[.slice none 0 0,vb false] 92)::pt b4 (bY #[.slice none 0 0] 29)::pt Z (.cells (edV e (.slice sp e.sides.length sc)<|.slice C e.pairs.length D) 58 (0,0))::pt Y (bY #[.slice p l.length c] 29)::s)
     (fun i=>Le g5 i.2.1∧ak i.2.1 ((findC l J).getD aA) i.2.2) ?_ ?_
    ·refine SC.drawX [12] ze5 kR ?_;refine SX.q (i:=0) I kR (qV 4 an ae I I I) dC<|SX.u (i:=1) I kR (fA a6 I kF I) dC<|SX.q (i:=2) I kR (qL (v:=.slice C e.pairs.length D) nx I<|cO 3 I I) dC<|SX.u (i:=3) I kR (mV I) dC<|SX.u (i:=4) I kR (iA mG p4 I I d oM sL) dC<|SX.u (i:=5) I kR (SU.indexAddrC qx zT3 I d I dC dC) dC<|SX.q (i:=6) I kR (aZ (e:=ei) (o:=1) (u:=vi J) iT3 I (za7 b1) A I) dC ?_
     repeat' (first
      | (refine SB.o (i:=7) rfl (SO.call call55 rfl<|bc E g5 _ _ l J p2 hf) dC (.inr (by rintro _ g6 _ ⟨rfl,f,r6,rfl,T⟩;exact⟨by assumption,(by exact .cons _<|.refl _)⟩)) ?_;rintro _ g6 _ ⟨rfl,f,r6,rfl,T⟩;refine SX.u (i:=8) I kD (mV I) dC ?_;refine SX.u (i:=9) I kD (xT I I) dC ?_;refine SX.u (i:=10) I kD (xT I I) dC ?_)
      | (refine SB.o (i:=7) rfl (SO.call call55 rfl<|bc E g5 _ _ l J p2 hf) dC (.inr (by rintro _ g6 _ ⟨rfl,f,r6,rfl,T⟩;exact⟨by assumption,(by exact .refl _)⟩)) ?_;rintro _ g6 _ ⟨rfl,f,r6,rfl,T⟩;refine SX.u (i:=8) I kD (mV I) dC ?_;refine SX.u (i:=9) I kD (xT I I) dC ?_;refine SX.u (i:=10) I kD (xT I I) dC ?_)
      | (refine SB.o (i:=11) rfl (aL zm2) dC (.inr (by rintro _ _ _ ⟨c9,rfl,rfl,rfl⟩;exact⟨by exact zb9 _,(by exact .cons _<|.refl _)⟩)) ?_;rintro _ _ _ ⟨c9,rfl,rfl,rfl⟩)
      | (refine SB.o (i:=11) rfl (aL zm2) dC (.inr (by rintro _ _ _ ⟨c9,rfl,rfl,rfl⟩;exact⟨by assumption,(by exact .cons _<|.refl _)⟩)) ?_;rintro _ _ _ ⟨c9,rfl,rfl,rfl⟩)
      | (refine SB.on (i:=12) I (sK 0 ar I I I I I sB) (.inl dC) ?_;rintro _ _ _ ⟨rfl,rfl⟩;refine SX.u (i:=13) I kD (aS I) dC ?_)
      | refine zd8 7 11 kD ?_ ?_
      | refine zd7 11 kD ?_
      | refine zd7 12 kD ?_
      | refine zd7 7 kD ?_
      | (refine SX.nil kD ?_;exact za9 (c9,g6,r6) sB I I ⟨f,T⟩))
    rintro ⟨c9,g6,r6⟩ ⟨f,T⟩;obtain ⟨z4,p3,p5,p6,p7⟩:=r6;obtain ⟨f3,f4,p9⟩:=T;dsimp only at f f3 f4 p9 ⊢;have v5:nb l H=l3:=by unfold nb;rw[f2]
    have v6:nb l J=p3:=by unfold nb;rw[f4]
    rw[v5,v6] at c6 c7;have q0:SlA encSide g6 (.slice l4 m1 m2) (i6 l H):=za5 p1 f;have q1:SlA encSide g6 (.slice p5 p6 p7) (i6 l J):=p9;have h7:=za5 b1 f;have V:=t.trans f;refine sQ<|rZ<|lU (fA ao I zT3 I)<|lK (qL (v:=vi l3) iT3 I<|cO 1 I I)<|lU (fA ao I zT3 I)<|lK (qL (v:=vi p3) iT3 I<|cO 0 I I)<|lU (nQ I I)<|tZ<|iP I (fun m3=>?_) (fun m3=>?_)
    ·rw[zg3<|c6 m3];exact rZ<|lK (qV 5 an ae I I I)<|lU (za3 I buildZ92)<|oZ (sK 3 ae I I I I I sB)<|oZ (sK 2 bT I I I I I sB)<|aT I<|rE<|tR<|bR<|tR<|tR<|bR<|tR<|ST.retCCT 3 2 s (.inl I) results123 I I I an ae gt bT I I I I uR ⟨I,N.trans<|y.trans V,_,_,_,_,I,X.mono V,fun h=>by cases h⟩
    ·have h8:=c7<|Decidable.not_not.1 m3;have b6:e.pairs.length<1099511627776:=oM;refine kP<|tN<|sQ<|dW [] [(0,2),(1,1),(2,2),(3,1),(5,2),(6,1),(7,2),(8,1),(4,0),(9,0),(10,0),(11,2)] ze5 kR<|pU I (fA ao I aH I)<|pK I (qL (v:=.slice l4 m1 m2) bi I<|cO 1 I I)<|pU I (fA a6 I kF I)<|pK I (qL (v:=.slice C e.pairs.length D) nx I<|cO 4 I I)<|pU I (fA ao I aH I)<|pK I (qL (v:=.slice p5 p6 p7) bi I<|cO 0 I I)<|pU I (fA a6 I kF I)<|pK I (qL (v:=.slice C e.pairs.length D) nx I<|cO 4 I I)<|SP.o I (SO.call call188 I<|gv E g6 _ _ _ (i6 l H) e.pairs q0 l0 h7 b6) dC (.inr iR) ?_;rintro v137 g7 _ ⟨rfl,U,v7⟩;refine SP.o rfl (SO.call call188 rfl<|gv E g7 _ _ _ (i6 l J) e.pairs (za5 q1 U) l1 (za5 h7 U) b6) dC (.inr (by rintro v142 g8 _ ⟨rfl,B,q2⟩;exact⟨by exact Le.trans io io,(by exact .refl _)⟩)) ?_;rintro v142 g8 _ ⟨rfl,B,q2⟩;have d0:=U.trans B;refine SP.o I (SO.call call187 I<|kL E g8 _ _ _ _ _ (za5 v7 B) q2 (by rw[ze8];exact l0) (by rw[ze8];exact l1)) dC (.inr iR) ?_;rintro _ _ _ ⟨rfl,rfl,rfl⟩;rw[← l2];refine pU I (SU.not I)<|pN<|tN ?_;refine iQ I (fun hq=>?_) (fun hq=>?_)
     ·have m4:al=false:=by simpa using hq
      rw[m4,Bool.and_false] at a9;exact rG<|lA I<|SL.nil<|bN<|tN<|rG<|lM I<|yD I<|lA I<|SL.nil<|dR (.cons _<|.cons _<|.refl _)<|ST.again (k3+1,g8) ⟨I,I,I,I,I,(by rw[a9];rfl),rfl,trivial⟩ rfl rfl ⟨by dsimp only;omega,y.trans<|V.trans d0,h8⟩ (by dsimp only;omega)
     ·have m4:al=true:=by simpa using hq
      rw[m4,Bool.and_true] at a9;exact kP<|bN<|tN<|rG<|lM I<|yD I<|lA I<|SL.nil<|dR (.cons _<|.cons _<|.refl _)<|ST.again (k3+1,g8) ⟨I,I,I,I,I,(by rw[a9];rfl),rfl,trivial⟩ rfl rfl ⟨by dsimp only;omega,y.trans<|V.trans d0,h8⟩ (by dsimp only;omega)
   ·have q3:e.pairs.take k3=e.pairs:=tL oM;rw[q3] at e4 ⊢;rw[e4,zg2 Bool.false_ne_true];have X:=i3.mono y;have d1:=N.trans y;cases y2:e.pairs.all (ir l e.pairs) with
    | false =>
     have e33:(if false=true then (0:Int) else 33)=33:=rfl;rw[e33];exact xI<|tX<|tX<|bX<|tN<|sQ<|sW I<|lU (nQ I I)<|tZ<|za2 I<|rZ<|lK (qV 3 an ae I I I)<|lU (za3 I buildZ92)<|lM I<|oZ (sK 1 ae I I I I I sB)<|oZ (sK 0 bT I I I I I sB)<|aT I<|rE<|tR<|ST.retCCT 1 0 s (.inl I) results123 I I I an ae gt bT I I I I uR ⟨I,d1,_,_,_,_,I,X,fun h=>by cases h⟩
    | true =>
    have e00:(if true=true then (0:Int) else 33)=0:=rfl;rw[e00,zg3 rfl];have q4:(e.pairs.map Prod.snd).length<1099511627776:=by rw[ze8];omega
    have b6:e.pairs.length<1099511627776:=oM;have M:=za5 Q y;have q9:dp g4 (.slice qg (e.pairs.map Prod.snd).length dg) (e.pairs.map Prod.snd):=za5 h6 y;have r0:=gP hf<|e.pairs.map Prod.snd;have v8:∀ x∈cJ l (e.pairs.map Prod.snd),x.sides.length<1099511627776:=fun x hx=>r0.2 x hx;have v9:((am l).map gr).length<1099511627776:=by rw[ze8];exact (bU hf).1
    have w1:ey l e=(cJ l<|e.pairs.map Prod.snd).map (CX<|byF e.pairs):=rfl;rw[w1];generalize w2:cJ l (e.pairs.map Prod.snd)=R at *;refine xI<|tX<|tX<|bX<|tN<|sQ<|sW I<|lU (nQ I I)<|tZ<|za1 I<|kP<|tN<|rZ<|lK (qV 3 an ae I I I)<|lM I<|lW (SO.call call184 I<|kT E g4 _ _ _ l (e.pairs.map Prod.snd) X hf q9 q4) ?_;rintro _ _ _ ⟨rfl,u5,W,rfl,a3,rfl⟩;rw[w2] at a3;refine zd4 fun ⟨w0,n0⟩=>?_;obtain ⟨q5,d5,rfl⟩:=ah (i:=0) n0 rfl;have w3:0<W.length→based (.slice q5 W.length d5)=true:=fun h=>(by obtain ⟨b0,c0,he⟩:=bw (i:=0) n0 rfl h;rw[he];rfl);clear n0 w0;refine bW (aL zl3) fun f7=>?_;refine oZ (sK 0 ae I I I I I sB) ?_;refine tZ<|sQ<|rZ<|aT I<|bK ?_;have y3:=a3.length;have z5:=r0.1;refine oP (ι:=Nat×PH×List Rc) (fun i=>[(2,pp Y 0),(3,pp Z 0),(4,pp b4 0),(5,pp b5 0),(18,pp f7 0),(19,vi i.1)]) (fun i=>i.2.1)
     (fun i=>pt f7 (bY #[.slice q5 W.length d5] 29)::rowA encCell 37 (.slice q5 W.length d5) i.2.2::pt b5 (bY #[.slice none 0 0,vb false] 92)::pt b4 (bY #[.slice none 0 0] 29)::pt Z (.cells (edV e (.slice sp e.sides.length sc)<|.slice C e.pairs.length D) 58 (0,0))::pt Y (bY #[.slice p l.length c] 29)::s)
     (fun i=>i.1≤R.length∧Le g4 i.2.1∧ax (ak i.2.1) ((R.take i.1).map (CX<|byF e.pairs)++R.drop i.1) i.2.2) (fun i=>R.length - i.1) (0,g4,W) sB rfl rfl ⟨zf8 _,zb9 _,a3⟩ ?_
    rintro ⟨k5,g5,ds⟩ ⟨w5,t,c2⟩;dsimp only at w5 t c2 ⊢;have w6:=c2.length;rw[ze7,ze8,ze6,zf2] at w6;refine sQ<|sW I<|lU (fA dA I cq I)<|lK (qL (v:=.slice q5 W.length d5) eG I<|cO 0 I I)<|lU (eN aF I)<|yL I<|tZ<|iP I (fun r1=>?_) (fun r1=>?_)
    ·have n1:k5<R.length:=oM;have r2:k5<ds.length:=oM;have f8:=w3 oM;have r3:ds[((k5:Nat):Int).toNat]?=some ds[k5]:=List.getElem?_eq_getElem r2;have w7:=c2.get (Fj (CX (byF e.pairs)) n1) (List.getElem?_eq_getElem r2);have w9:=DE (CX (byF e.pairs)) n1;have x0:=v8 _ (gM n1);have b1:=za5 M t;generalize ds[k5]=x at *;generalize R[k5]=cx at *;obtain ⟨xi,xd,xp,xn,xc⟩:=x;obtain ⟨e1,e2,h9⟩:=w7;dsimp only at e1 e2 h9;subst e1 e2;refine kP (tN (sQ (bK ?_)));refine dW [14] [(0,2),(1,1),(2,2),(3,2),(4,1),(5,2),(6,2),(7,2),(8,1),(9,2),(10,1),(11,0),(12,2),(13,2),(14,0)] ze5 kR<|pU I (fA dA I cq I) (pK I (qL (v:=.slice q5 W.length d5) eG I (cO 0 I I)) (yM I (pU I (fA dA I cq I) (pK I (qL (v:=.slice q5 W.length d5) eG I (cO 0 I I)) (yM I (pU I (iA aF ar I I f8 oM sL) (pU I (fC ao I aH I f8) (pK I (aZ (e:=encCell) (o:=2) bi I (zb7 1 I) r3 I) (pU I (fA a6 I kF I) (pK I (qL (v:=.slice C e.pairs.length D) nx I (cO 4 I I)) (SP.o I (SO.call call188 I (gv E g5 _ _ _ cx.sides e.pairs h9 x0 b1 b6)) dC (.inr iR) ?_)))))))))));rintro v171 g6 _ ⟨rfl,f,r4⟩;obtain ⟨q6,d6,rfl⟩:=za4 r4;refine pU I (iA aF ar I I f8 oM sL) (pU I (fC ao I aH I f8) (SP.on I (SO.partA (e:=encCell) (a:=(⟨cx.id,cx.dim,⟨xp,xn,xc⟩⟩:Rc)) (j:=((k5:Nat):Int).toNat) (o:=2) 1 ⟨cx.id,cx.dim,⟨q6,(cx.sides.map (kH (byF e.pairs))).length,d6⟩⟩ aH I I I r3 I I dC I) (.inl dC) ?_));rintro _ _ _ ⟨rfl,rfl⟩;refine pN (bN (tN (rG (lM I (yD I (lA I (SL.nil ?_)))))));exact ST.again (k5+1,g6,ds.set k5 ⟨cx.id,cx.dim,⟨q6,(cx.sides.map (kH (byF e.pairs))).length,d6⟩⟩) sB I I ⟨by dsimp only;omega,t.trans f,by
      dsimp only;rw[w9];exact ax.set (R:=ak g6) (a:=CX (byF e.pairs) cx) ⟨I,I,r4⟩ k5 (c2.mono fun _ _=>ak.mono f)⟩ (by dsimp only;omega)
    ·have r7:R.take k5=R:=tL oM;have r8:R.drop k5=[]:=List.drop_eq_nil_of_le oM;rw[r7,r8,zc7] at c2;have r9:ds.length=W.length:=oM;rw[← r9];refine xI (tX<|tX<|bX<|tN<|sQ<|cP (zk3 _ _ _)<|fS fun g6 f x3=>?_);have x4:ai g6 (.slice q5 ds.length d5) (R.map<|CX<|byF e.pairs):=⟨ds,x3,c2.mono fun _ _=>ak.mono f⟩;have d2:=t.trans f;have x5:=X.mono d2;refine rG<|lK (qV 4 an ae I I I)<|lW (SO.call call182 I<|fG E g6 _ _ l x5 hf) ?_;rintro _ g7 _ ⟨rfl,U,iv,rfl,i0⟩;obtain ⟨q7,n7,d7,rfl⟩:=i0.form;refine bW (aL zl7) fun s2=>oZ (sK 0 p8 I I I I I sB)<|tZ<|sQ<|rZ<|aT I<|bK ?_;have d3:=d2.trans U;have t0:=za5 M d3;have x6:=x4.mono U;refine oP (ι:=Nat×PH×Option Addr×Nat×Nat) (fun i=>[(2,pp Y 0),(3,pp Z 0),(4,pp b4 0),(5,pp b5 0),(18,pp f7 0),(20,pp s2 0),(21,vi i.1)]) (fun i=>i.2.1)
      (fun i=>pt s2 (bY #[.slice i.2.2.1 i.2.2.2.1 i.2.2.2.2] 90)::pt f7 (bY #[.slice q5 ds.length d5] 29)::pt b5 (bY #[.slice none 0 0,vb false] 92)::pt b4 (bY #[.slice none 0 0] 29)::pt Z (.cells (edV e (.slice sp e.sides.length sc)<|.slice C e.pairs.length D) 58 (0,0))::pt Y (bY #[.slice p l.length c] 29)::s)
      (fun i=>i.1≤e.pairs.length∧Le g7 i.2.1∧Ims i.2.1 (.slice i.2.2.1 i.2.2.2.1 i.2.2.2.2) (ft (e.pairs.take i.1)<|(am l).map gr)) (fun i=>e.pairs.length - i.1) (0,g7,q7,n7,d7) sB rfl rfl ⟨zf8 _,zb9 _,i0⟩ ?_
     rintro ⟨k8,g8,q8,n8,d8⟩ ⟨x7,B,b7⟩;dsimp only at x7 B b7 ⊢;refine sQ<|sW I<|lU (fA a6 I kF I)<|lK (qL (v:=.slice C e.pairs.length D) nx I<|cO 4 I I)<|lU (eN mG I)<|yL I<|tZ<|iP I (fun t1=>?_) (fun t1=>?_)
     ·have O:k8<e.pairs.length:=oM;have d:=za6 b9 oM;have i1:=za5 t0 B;have A:e.pairs[((k8:Nat):Int).toNat]?=some e.pairs[k8]:=List.getElem?_eq_getElem O;have t2:=vy O<|(am l).map gr;generalize e.pairs[k8]=x at *;obtain ⟨H,J⟩:=x;dsimp only at t2;refine kP<|tN<|sQ<|bK<|dW [16] [(0,1),(1,2),(2,1),(3,2),(4,2),(5,2),(6,1),(7,2),(8,1),(9,2),(10,2),(11,2),(12,1),(13,0),(14,0),(15,0),(16,0)] ze5 kR<|pK I (qV 0 isAgg90 p8 I I I)<|pU I (fA a6 I kF I)<|pK I (qL (v:=.slice C e.pairs.length D) nx I<|cO 4 I I)<|yM I<|pU I (iA mG p4 I I d oM sL)<|pU I (SU.indexAddrC qx zT3 I d I dC dC)<|pK I (aZ (e:=ei) (o:=1) (u:=vi J) iT3 I (za7 i1) A I)<|pU I (fA a6 I kF I)<|pK I (qL (v:=.slice C e.pairs.length D) nx I<|cO 4 I I)<|yM I<|pU I (iA mG p4 I I d oM sL)<|pU I (SU.indexAddrC qx zT3 I d I dC dC)<|pK I (aZ (e:=ei) (o:=0) (u:=vi H) iT3 I (za7 i1) A I)<|SP.o I (SO.call call185 I<|eF E g8 _ H 1<|.inr<|.inl I) dC (.inr iR) ?_;rintro _ g9 _ ⟨rfl,rfl,t3⟩;refine SP.o I (bS sty188 I I I (ab ⟨I,trivial⟩) dC) dC (.inr iR) ?_;rintro _ _ _ ⟨t4,rfl,rfl,rfl⟩;refine SP.freeze fun g10 n2 t5=>?_;have x8:SlA fm g10 (.slice (some ⟨t4,0,none⟩) 1 1) [(H,1)]:=SlA.lit t5 rfl rfl;have b8:=t3.trans n2;refine SP.o I (SO.call call186 I<|iM E g10 _ _ _ _ J _ (b7.mono b8) (by rw[wI];exact v9) x8) dC (.inr (by rintro _ g11 _ ⟨rfl,d4,x9,rfl,a4⟩;exact⟨by exact Le.trans io io,(by exact .refl _)⟩)) ?_;rintro _ g11 _ ⟨rfl,d4,x9,rfl,a4⟩;obtain ⟨y0,n11,d11,rfl⟩:=a4.form;refine SP.on I (sK 0 p8 I I I I I sB) (.inl dC) ?_;rintro _ _ _ ⟨rfl,rfl⟩;refine pN<|bN<|tN<|rG<|lM I<|yD I<|lA I<|SL.nil ?_;exact ST.again (k8+1,g11,y0,n11,d11) sB I I ⟨by dsimp only;omega,B.trans<|b8.trans d4,by dsimp only;rw[t2];exact a4⟩ (by dsimp only;omega)
     ·have t9:e.pairs.take k8=e.pairs:=tL oM;rw[t9] at b7;have y1:=x6.mono B;refine xI<|tX<|tX<|bX<|tN<|sQ ?_;refine SC.drawX [3,4] ze5 kR ?_;refine SX.q (i:=0) I kR (qV 1 an ae I I I) dC ?_
      repeat' (first
       | (refine SB.o (i:=1) rfl (SQ.sof<|qV 0 isAgg90 p8 rfl rfl rfl) dC (.inr (by rintro _ _ _ ⟨rfl,rfl,rfl⟩;exact⟨by exact zb9 _,(by exact .refl _)⟩)) ?_;rintro _ _ _ ⟨rfl,rfl,rfl⟩;refine SX.u (i:=2) I kD (za3 I<|buildS92 _ _ _) dC ?_)
       | (refine SB.ob (i:=1) I (SQ.sof<|qV 0 isAgg90 p8 I I I) dC kD ?_;rintro _ _ _ ⟨rfl,rfl,rfl⟩;refine SX.u (i:=2) I kD (za3 I<|buildS92 _ _ _) dC ?_)
       | (refine SB.on (i:=3) I (sK 3 ae I I I I I sB) (.inl dC) ?_;rintro _ _ _ ⟨rfl,rfl⟩)
       | (refine SB.on (i:=4) I (sK 2 bT I I I I I sB) (.inl dC) ?_;rintro _ _ _ ⟨rfl,rfl⟩;refine SX.u (i:=5) I kD (aS I) dC ?_)
       | refine zd8 1 3 kD ?_ ?_
       | refine zd7 3 kD ?_
       | refine zd7 4 kD ?_
       | refine zd7 1 kD ?_
       | (refine SX.nil kD ?_;refine tN ?_;refine rE ?_;exact ST.retCCT 3 2 s (.inl I) results123 I I I an ae gt bT I I I I uR ⟨I,d1.trans (d3.trans B),_,_,_,_,I,y1,fun _=>b7⟩))
set_option maxHeartbeats 4000000
def te (fv:Value)(e:Ed)(A:List Cl)(code:Int)(B:List Cl)(img:Int→List Tm)(bk:Bool):Prop :=
 ∀ (E:World) (g:PH) (s:Own) (bx mb ms:Nat) (u v:Value) (rs:List Rc),ai g u A→ax xE A rs→EdR g v e →
  cU Tryz.prog E fv [pp bx 0,v] g (edP bx u mb ms false::mp mb (rs.map ap)::mp ms []::(qe A rs++s)) (fun r g' s'=>Le g g'∧r=vi code∧(if code=0 then ∃ rs' ts,ax (ak g') B rs'∧EH ts∧(ts.map Prod.fst).Nodup∧(∀ k,EF ts k=img k)∧s'=edP bx u mb ms bk::mp mb (rs'.map ap)::mp ms (vQ ts)::(fU ts++s) else ∃ h,s'=h++s))
def FF (k:Int):List Tm:=[(k,1)]
theorem sh.gen {c:Value}{e:Ed}{A:List Cl}{code:Int}{B:List Cl}{bk:Bool}(h:sh c e A code B bk):te c e A code B FF bk:=fun E g s bx f ms u v rs i j l=>by
 obtain ⟨n,cap,m,o,p⟩:=h E g s bx f ms u v rs i j l;refine⟨n,cap,m,o,p.mono ?_⟩;rintro r g' s' ⟨q,w,a⟩;refine⟨q,w,?_⟩;by_cases d:code=0
 ·rw[zg3 d] at a ⊢;obtain ⟨b,x,rfl⟩:=a;exact⟨b,[],x,fun t y=>by simp at y,List.nodup_nil,fun k=>I,I⟩
 ·rw[zg2 d] at a ⊢;exact a
def jb (g:PH)(code:Int)(D:List Cl)(ims:List (Int×List Tm))(bk:Bool)(r:Value)(g':PH):Prop:=∃ u p n c b,r = .tuple #[.agg #[u],.agg #[.slice p n c,vb b],vi code]∧fQ (mns g' g) u D∧(code=0→b=bk∧Ims g' (.slice p n c) ims)∧(code≠0→b=false∧Ims g' (.slice p n c) [])
theorem jb.old {g:PH}{code:Int}{D:List Cl}{a:List (Int×List Tm)}{bk:Bool}{r:Value}{g':PH}(h:jb g code D a bk r g'):fu code D a bk r g':=by
 obtain ⟨u,p,n,c,b,d,e,f⟩:=h;exact⟨u,p,n,c,b,d,e.cells<|fh _ _,f⟩
theorem fQ.nil (g:PH):fQ g (.slice none 0 0) []:=⟨[],RK.nil _ _ g,trivial⟩
theorem Aq (E:World)(g:PH)(s:Own)(v ev:Value)(l:List Cl)(e:Ed)(k:ai g v l)(m:aM l)(n:EdR g ev e)(d:List (Int×List Tm))(bk:Bool)(b:ep qw e.kind=none∨(aq l).2≠0) :
  Ctr Tryz.prog E 46 #[.agg #[v],ev] g s (fun r g' s'=>s=s'∧Le g g'∧jb g 1 [] d bk r g'):=by
 obtain ⟨z,hz⟩:=Tryz.mtyKinds;obtain ⟨sv,pv,rfl,f,i⟩:=n;obtain ⟨sp,q,rfl⟩:=za4 f;obtain ⟨t,u,rfl⟩:=za4 i;obtain ⟨p,c,rfl⟩:=k.form;refine zb2 (args:=[.agg #[.slice p l.length c],.agg #[vi e.kind,vi e.cell,vi e.dim,vi e.new,vi e.other,.slice sp e.sides.length q,.slice t e.pairs.length u]]) func46 I ntmps46 (bE I) ?_;cases hg:ep qw e.kind with
 | none =>
  refine rZ (bW (bO I) fun w=>?_);refine bW (bO I) fun x=>bW (aL zl3) fun y=>bW (aL zl5) fun A=>aT I<|sQ<|dW [] [(1,2),(2,1),(0,0),(3,0),(4,2),(5,2),(6,2),(7,2),(8,2)] ze5 kR<|pU I (fA a6 I zT3 I)<|pK I (qL iT3 I<|cO 2 I I)<|SP.o I (SO.call call101 I<|mX E g _) dC (.inr iR) ?_;rintro _ g1 _ ⟨rfl,a,B,rfl,j⟩;refine oQ I (SQ.eq (v':=.tuple #[z,vb false]) (SQ.lookupOk hz I I<|bh.known j) (by rw[hg];rfl)) dC (.inr ⟨by assumption,(by exact .refl _)⟩) ?_;refine yM I<|pU I (xT I I)<|pU I (xT I I)<|pU I (aS I)<|pU I (aS I)<|pN<|tN<|sQ<|sW I<|lU (SU.not I)<|lM I<|yA I<|yA I<|yA I<|yP I<|tZ<|za2 I<|rZ<|lU (za3 I buildE29)<|lU (za3 I buildZ92)<|oZ (sK 1 ae I I I I I sB) ?_;refine oZ (sK 0 bT I I I I I sB) ?_;refine aT I<|rE<|tR ?_;exact ST.retCCT 1 0 s (.inl I) results46 I I I an ae gt bT I I I I uR ⟨I,a,_,_,_,_,_,I,fQ.nil _,(fun h=>by cases h),fun _=>⟨I,Ims.nil _⟩⟩
 | some fv =>
  have hc:decide ((aq l).2=0)=false:=zf9 (by
   rcases b with h | h
   ·rw[hg] at h;cases h
   ·exact h)
  refine rZ (bW (bO I) fun w=>?_);refine bW (bO I) fun x=>bW (aL zl3) fun y=>bW (aL zl5) fun A=>aT I<|sQ<|dW [] [(1,2),(2,1),(0,0),(3,0),(4,2),(5,2),(6,2),(7,2),(8,2)] ze5 kR<|pU I (fA a6 I zT3 I)<|pK I (qL iT3 I<|cO 2 I I)<|SP.o I (SO.call call101 I<|mX E g _) dC (.inr iR) ?_;rintro _ g1 _ ⟨rfl,a,B,rfl,j⟩;refine oQ I (SQ.eq (v':=.tuple #[fv,vb true]) (SQ.lookupOk hz I I<|bh.known j) (by rw[hg];rfl)) dC (.inr ⟨by assumption,(by exact .refl _)⟩) ?_;refine yM I<|pU I (xT I I)<|pU I (xT I I)<|pU I (aS I)<|pU I (aS I)<|pN<|tN<|sQ<|sW I<|lU (SU.not I)<|lM I<|SL.gq (gT I I I dC) (qV 3 an ae I I I) dC<|ze3 (gT I I I dC) (SO.call call45 I<|me E g1 _ _ l (k.mono a) m false hc) dC ?_;rintro _ _ _ ⟨rfl,rfl,rfl⟩;refine lY I I I (SU.not I)<|yF I<|tZ<|za2 I<|rZ<|lU (za3 I buildE29)<|lU (za3 I buildZ92)<|oZ (sK 1 ae I I I I I sB) ?_;refine oZ (sK 0 bT I I I I I sB) ?_;refine aT I<|rE<|tR ?_;exact ST.retCCT 1 0 s (.inl I) results46 I I I an ae gt bT I I I I uR ⟨I,a,_,_,_,_,_,I,fQ.nil _,(fun h=>by cases h),fun _=>⟨I,Ims.nil _⟩⟩
theorem Ap (E:World)(g:PH)(s:Own)(v ev:Value)(l:List Cl)(e:Ed)(Q:ai g v l)(R:aM l)(he:EdR g ev e)(hr:(aq l).2=0)(S:Value)(code:Int)(B:List Cl)(bk:Bool)(hg:ep qw e.kind=some S)(img:Int→List Tm)(F:te S e (aa l) code B img bk)(hB:code=0→aM B∧(B.map Cl.id).Nodup) :
  Ctr Tryz.prog E 46 #[.agg #[v],ev] g s (fun r g' s'=>s=s'∧Le g g'∧jb g (aW code B).1 (aW code B).2 ((if bk then aa B else aa l).map fun c=>(c.id,img c.id)) bk r g'):=by
 obtain ⟨z,hz⟩:=Tryz.mtyKinds;have T:=he;obtain ⟨sv,pv,rfl,U,V⟩:=he;obtain ⟨sp,N,rfl⟩:=za4 U;obtain ⟨O,P,rfl⟩:=za4 V;obtain ⟨p,c,rfl⟩:=Q.form;have hc:decide ((aq l).2=0)=true:=zg1 hr;have W:((aa l).map Cl.id).Nodup:=by
  rw[List.Nodup,zk6];exact (iJ hr).asc.imp fun h=>by omega
 have X:=aB R;refine zb2 (args:=[.agg #[.slice p l.length c],.agg #[vi e.kind,vi e.cell,vi e.dim,vi e.new,vi e.other,.slice sp e.sides.length N,.slice O e.pairs.length P]]) func46 I ntmps46 (bE I)<|rZ (bW (bO I) fun Y=>?_);refine bW (bO I) fun Z=>bW (aL zl3) fun b4=>bW (aL zl5) fun b5=>aT I<|sQ<|dW [] [(1,2),(2,1),(0,0),(3,0),(4,2),(5,2),(6,2),(7,2),(8,2)] ze5 kR<|pU I (fA a6 I zT3 I)<|pK I (qL iT3 I<|cO 2 I I)<|SP.o I (SO.call call101 I<|mX E g _) dC (.inr iR) ?_;rintro _ g1 _ ⟨rfl,a,bq,rfl,hk⟩;refine oQ I (SQ.eq (v':=.tuple #[S,vb true]) (SQ.lookupOk hz I I<|bh.known hk) (by rw[hg];rfl)) dC (.inr ⟨by assumption,(by exact .refl _)⟩) ?_;refine yM I<|pU I (xT I I)<|pU I (xT I I)<|pU I (aS I)<|pU I (aS I)<|pN<|tN<|sQ<|sW I<|lU (SU.not I)<|lM I<|SL.gq (gT I I I dC) (qV 3 an ae I I I) dC<|ze3 (gT I I I dC) (SO.call call45 I<|me E g1 _ _ l (Q.mono a) R true hc) dC ?_;rintro _ _ _ ⟨rfl,rfl,rfl⟩;refine lY I I I (SU.not I)<|yF I<|tZ<|za1 I<|kP<|tN<|rZ<|lK (qV 3 an ae I I I)<|lW (SO.call call102 I<|Du E g1 _ _ l (Q.mono a) R W) ?_;rintro _ g2 _ ⟨d,bx,u,q,ms,rs,rfl,hu,hO,rfl⟩;refine aT I<|sW I<|lM I<|lK (qV ((qe (aa l) rs).length+2+3) jX eE I (by exact (us (qe (aa l) rs) _ 2).trans I) I) ?_;refine lW (SO.callV I I<|F E g2 _ bx q ms u _ rs hu hO<|T.mono<|a.trans d) ?_;rintro _ g3 _ ⟨f,rfl,b⟩;by_cases j:code=0
 ·obtain ⟨G,a0⟩:=hB j;subst j;rw[zg3 rfl] at b;obtain ⟨H,D,J,a1,a2,K,rfl⟩:=b;refine SL.to (g':=g3) (s':=edP bx u q ms bk::mp q (H.map ap)::mp ms (vQ D)::pt b5 (bY #[.slice none 0 0,vb false] 92)::pt b4 (bY #[.slice none 0 0] 29)::pt Z (bY #[vi e.kind,vi e.cell,vi e.dim,vi e.new,vi e.other,.slice sp e.sides.length N,.slice O e.pairs.length P] 58)::pt Y (bY #[.slice p l.length c] 29)::(fU D++s)) (fun w hw=>hw.perm (((List.perm_append_comm_assoc (fU D) [pt b5<|.cells #[.slice none 0 0,vb false] 92 (0,0),pt b4<|.cells #[.slice none 0 0] 29 (0,0),pt Z<|.cells #[vi e.kind,vi e.cell,vi e.dim,vi e.new,vi e.other,.slice sp e.sides.length N,.slice O e.pairs.length P] 58 (0,0),pt Y<|.cells #[.slice p l.length c] 29 (0,0)] s).cons _).cons _ |>.cons _)) ?_;have L:=aB G;have k:aW 0 B=if (aq<|aa B).2≠0 then ((aq<|aa B).2,[]) else (0,aa B):=rfl
  rw[k];refine aT I (rZ<|bW (aL zl3) fun t=>?_);refine tZ (sQ<|sW I<|yE I<|tZ<|za2 I<|sQ<|cP (List.perm_middle (l₁:=[pt t<|.cells #[.slice none 0 0] 29 (0,0),edP bx u q ms bk]))<|SC.freezeMap fun g4 i a3=>?_);refine rG<|lM I<|lW (SO.call call103 I<|zD E g4 _ bx q ms u bk B H (J.mono fun _ _=>ak.mono i) a0 G a3 1 I) ?_;rintro _ g5 _ ⟨rfl,m,u5,rfl,M⟩;have x:=M.cells<|fh _ _;obtain ⟨p5,c5,rfl⟩:=x.form;refine oZ (sK 0 ae I I I I I sB)<|tZ<|rG<|lK (qV 0 an ae I I I)<|lW (SO.call call17 I<|m0 E g5 _ _ (aa B) x L) ?_;rintro _ _ _ ⟨rfl,rfl,rfl⟩;refine lM I<|yX I<|yX I<|aT I<|sQ<|sW I<|lU (nQ I I)<|tZ<|iP I (fun y=>?_) (fun y=>?_)
  ·have A:(if (aq<|aa B).2≠0 then ((aq<|aa B).2,[]) else ((0:Int),aa B))=((aq<|aa B).2,[]):=zg3 y;rw[A];exact rZ<|lU (za3 I buildE29)<|lU (za3 I buildZ92)<|lM I<|oZ (sK 4 ae I I I I I sB)<|oZ (sK 3 bT I I I I I sB)<|aT I<|rE<|tR<|ST.retCCT 4 3 s (.inl I) results46 I I I an ae gt bT I I I I (.cons _<|.cons _<|.cons _<|.cons _<|.cons _<|.cons _<|.cons _<|List.sublist_append_right _ _) ⟨I,a.trans<|d.trans<|f.trans<|i.trans m,_,_,_,_,_,I,fQ.nil _,fun h=>absurd h y,fun _=>⟨I,Ims.nil _⟩⟩
  ·have A:(if (aq<|aa B).2≠0 then ((aq<|aa B).2,[]) else ((0:Int),aa B))=(0,aa B):=zg2 y;rw[A];refine kP<|tN<|sQ<|SC.drawT 1 [4,5] [(0,1),(1,2),(2,1),(3,0),(4,0),(5,0),(6,2)] ze5 kR<|pK rfl (qV 0 an ae rfl rfl rfl)<|yM rfl<|pK rfl (qV 0 an ae rfl rfl rfl)<|SP.o rfl (SO.call call104 rfl<|BH E g5 [pt t<|.cells #[.slice p5 (aa B).length c5] 29 (0,0),edP bx u q ms bk,mp ms<|vQ D,pt b5<|.cells #[.slice none 0 0,vb false] 92 (0,0),pt b4<|.cells #[.slice none 0 0] 29 (0,0),pt Z<|.cells #[vi e.kind,vi e.cell,vi e.dim,vi e.new,vi e.other,.slice sp e.sides.length N,.slice O e.pairs.length P] 58 (0,0),pt Y<|.cells #[.slice p l.length c] 29 (0,0)] s bx q ms u _ bk (aa l) (aa B) D a1 a2 (hu.mono<|f.trans<|i.trans m) x X.1 L.1 1 2 rfl rfl) dC (.inr (by rintro _ g6 _ ⟨rfl,n,iv,rfl,C⟩;exact⟨by assumption,(by exact .cons_cons _<|List.nil_sublist _)⟩)) ?_;rintro _ g6 _ ⟨rfl,n,iv,rfl,C⟩;obtain ⟨p6,n6,c6,rfl⟩:=C.form;refine SP.on I (sK 4 ae I I I I I sB) (.inl dC) ?_;rintro _ _ _ ⟨rfl,rfl⟩;refine SP.on I (sK 3 bT I I I I I sB) (.inl dC) ?_;rintro _ _ _ ⟨rfl,rfl⟩;refine pU I (aS I)<|pN<|tN<|rE ?_;exact ST.retCCT 4 3 s (.inl I) results46 I I I an ae gt bT I I I I uR ⟨I,a.trans<|d.trans<|f.trans<|i.trans<|m.trans n,_,_,_,_,_,I,(M.mono<|jR<|a.trans<|d.trans<|f.trans i).mono<|im n,fun _=>⟨I,by rw[show (fun c:Cl=>(c.id,img c.id))=fun c:Cl=>(c.id,EF D c.id) from funext fun c=>by rw[K]];exact C⟩,fun h=>absurd I h⟩
 ·rw[zg2 j] at b;obtain ⟨h,rfl⟩:=b;have k:aW code B=(code,[]):=zg3 j;rw[k];refine SL.drop (List.sublist_append_right _ _) (aT I<|rZ<|bW (aL zl3) fun t=>?_);refine tZ<|sQ<|sW I<|yE I<|tZ<|iP I (fun h0=>?_) (fun h0=>?_)
  ·exact absurd h0 j
  ·refine kP<|tN<|sQ<|sW I<|lU (nQ I I)<|tZ<|iP I (fun y=>?_) (fun y=>?_)
   ·exact rZ<|lU (za3 I buildE29)<|lU (za3 I buildZ92)<|lM I<|oZ (sK 2 ae I I I I I sB)<|oZ (sK 1 bT I I I I I sB)<|aT I<|rE<|tR<|ST.retCCT 2 1 s (.inl I) results46 I I I an ae gt bT I I I I uR ⟨I,a.trans<|d.trans f,_,_,_,_,_,I,fQ.nil _,fun h=>absurd h j,fun _=>⟨I,Ims.nil _⟩⟩
   ·exact absurd j y
set_option maxHeartbeats 1000000
theorem Rt.findC {A:List Cl}(h:Rt A)(id:Int):findC A id=ag A id:=by
 unfold Go.Proofs.YtdepcjnaieflmaaGreatDoor.findC;rw[h.tab];rfl
theorem Rt.ids {A:List Cl}(h:Rt A):(A.map Cl.id).Nodup:=by
 rw[List.Nodup,zk6];exact h.asc.imp fun h=>by omega
theorem Rt.few64 {A:List Cl}(h:Rt A){c:Cl}(hc:c∈A):c.sides.length≤64:=(i9 (h.form c hc).ok).1
theorem Rt.signs {A:List Cl}(h:Rt A){c:Cl}(hc:c∈A):∀ x∈c.sides,x.sign=1∨x.sign = -1:=(h.form c hc).sg
theorem Rt.difS {A:List Cl}(h:Rt A){c:Cl}(hc:c∈A):(c.sides.map aj.cell).Nodup:=by
 rw[List.Nodup,zk6];exact (h.form c hc).asc.imp fun h=>by omega
theorem Rt.getD {A:List Cl}(_:Rt A)(id:Int):((ag A id).getD aA)=aA∨((ag A id).getD aA)∈A:=by
 cases h:ag A id with
 | none=>exact .inl rfl
 | some c=>exact .inr (aJ h).1
theorem Rt.fits {A:List Cl}(h:Rt A):aM A:=⟨by have:=h.few;omega,fun c hc=>by have:=h.few64 hc;omega⟩
theorem Rt.mem_above {A:List Cl}(h:Rt A){k id:Int}:id∈aC A k↔∃ c∈A,c.id=id∧nU c k=true:=by
 unfold aC;rw[h.tab,zf4];constructor
 ·rintro ⟨c,hc,rfl⟩;obtain ⟨a,b⟩:=zh6.1 hc;exact⟨c,a,I,b⟩
 ·rintro ⟨c,a,rfl,b⟩;exact⟨c,zh6.2 ⟨a,b⟩,I⟩
theorem Rt.not_self {A:List Cl}(h:Rt A)(k:Int):k ∉ aC A k:=fun e=>by
 obtain ⟨c,hc,rfl,b⟩:=h.mem_above.1 e;unfold nU at b;obtain ⟨x,f,g⟩:=zk1.1 b;obtain ⟨d,a,i⟩:=(h.form c hc).found x f;rw[zg5 g,h.find hc] at a;cases a;omega
theorem Rt.edge {A:List Cl}(h:Rt A){c:Cl}(hc:c∈A)(hd:c.dim=1):∃ z0 z1,c.sides=[z0,z1]∧((z0.sign=1∧z1.sign = -1)∨(z0.sign = -1∧z1.sign=1)):=by
 have a:=h.form c hc;have d:=a.cnt;have f:c.sides.length=2:=by
  unfold aO at d;simp[hd] at d;omega
 obtain ⟨z0,z1,b⟩:∃ z0 z1,c.sides=[z0,z1]:=by
  match g:c.sides,f with
  | [z0,z1],_=>exact⟨z0,z1,rfl⟩
 refine⟨z0,z1,b,?_⟩;have e:=a.one hd;have i:=a.sg z0 (by rw[b];simp);have j:=a.sg z1 (by rw[b];simp);rw[b] at e;simp[na] at e;omega
theorem rJ {A:List Cl}(h:Rt A)(e:Ed):cI A e=sd A e:=by
 unfold cI sd;rw[h.findC,h.findC,Bool.and_comm]
theorem xq {A:List Cl}(h:Rt A)(e:Ed):∀ x∈lC A e,x.sign=1∨x.sign = -1:=by
 unfold lC
 rcases h.getD e.other with a | a
 ·rw[a];intro x b;cases b
 ·exact h.signs a
theorem vJ {A:List Cl}(h:Rt A)(e:Ed):(lC A e).length≤64:=by
 unfold lC
 rcases h.getD e.other with a | a
 ·rw[a];decide
 ·exact h.few64 a
theorem oy {k m:Int}{a x:List Tm}(h:m=k):df k a (m,x)=(m,a):=zg3 h
theorem l6 {k m:Int}{a x:List Tm}(h:¬ m=k):df k a (m,x)=(m,x):=zg2 h
def AN (A:List Cl)(e:Ed)(k:Int):List Tm:=if k=e.cell then fF A e else if k=e.other then [] else [(k,1)]
theorem Ai {A:List Cl}(h:Rt A)(e:Ed)(f:aC A e.cell=[e.other]):(((am A).map gr).map<|df e.cell<|fF A e).map (df e.other [])=A.map fun c=>(c.id,AN A e c.id):=by
 have d:e.cell≠e.other:=fun g=>by
  have:=h.not_self e.cell;rw[f,g] at this;exact this dO
 rw[h.tab,zi7,zi7];refine zc9 fun c _=>?_;show df e.other [] (df e.cell (fF A e) (c.id,[(c.id,1)]))=_;unfold AN;by_cases a:c.id=e.cell
 ·rw[oy a,l6 (by rw[a];exact d),zg3 a]
 ·rw[l6 a,zg2 a];by_cases b:c.id=e.other
  ·rw[oy b,zg3 b]
  ·rw[l6 b,zg2 b]
theorem vv {A:List Cl}(h:Rt A)(e:Ed):br A e=eO A e:=by
 unfold br eO;rw[h.findC,h.findC,h.findC];have a:(e.new<1∨e.other<1∨e.new=e.other)↔(min e.new e.other<1∨e.new=e.other):=oM;simp only[a] <;> cases ag A e.cell <;> rfl
theorem uk {e:Ed}:∀ {S:List aj},(S.map aj.cell).Nodup→eJ e S=if S.any (fun x=>decide (x.cell=e.cell)) then [⟨e.other,FR S e.cell⟩] else []
 | [],_=>rfl
 | x::S,hn=>by
  rw[zg6,zk4] at hn;by_cases a:x.cell=e.cell
  ·have b:∀ y∈S,y.cell≠e.cell:=fun y c e'=>hn.1<|zf4.2 ⟨y,c,by rw[e',a]⟩;have d:S.filter (fun x=>decide (x.cell=e.cell))=[]:=List.filter_eq_nil_iff.2 fun y c=>by simp[b y c]
   unfold eJ FR;simp[a,d]
  ·have ih:=uk (e:=e) hn.2;unfold eJ FR at ih ⊢;simp[a] at ih ⊢;exact ih
theorem ya {c:Cl}:∀ {B:List Cl},(B.map Cl.id).Nodup→(∃ x∈B,x.id=c.id)→lL B c=B.map fun y=>if y.id=c.id then c else y
 | [],_,⟨x,d,_⟩=>by cases d
 | x::B,hn,d=>by
  rw[zg6,zk4] at hn;unfold lL;by_cases a:c.id=x.id
  ·rw[zg3 a,zg6,zg3 a.symm];congr 1;have:B.map (fun y=>if y.id=c.id then c else y)=B.map id:=zc9 fun y b=>by
    rw[zg2 fun e=>hn.1<|zf4.2 ⟨y,b,by rw[e,a]⟩];rfl
   rw[this,List.map_id]
  ·rw[zg2 a,zg6,zg2 fun e=>a e.symm];congr 1;refine ya hn.2 ?_;obtain ⟨y,b,f⟩:=d
   rcases zf3.1 b with rfl | b
   ·exact absurd f.symm a
   ·exact⟨y,b,f⟩
theorem yv {A:List Cl}{k:Int}(h:(ag A k).isSome=false):∀ x∈A,x.id≠k:=fun x b c=>by
 have a:(ag A k).isSome=true:=by
  unfold ag;rw[List.find?_isSome];exact⟨x,b,by simpa using c⟩
 rw[h] at a;cases a
theorem DV {S:List aj}{z0 z1:aj}(hl:S=[z0,z1])(h:(z0.sign=1∧z1.sign = -1)∨(z0.sign = -1∧z1.sign=1)):kJ S true=⟨(kJ S true).cell,1⟩∧kJ S false=⟨(kJ S false).cell,-1⟩:=by
 subst hl;obtain ⟨c,s0⟩:=z0;obtain ⟨c1,s1⟩:=z1
 rcases h with ⟨a,b⟩ | ⟨a,b⟩ <;> dsimp only at a b <;> subst a <;> subst b <;> exact⟨rfl,rfl⟩
theorem pd {A:List Cl}(h:Rt A)(e:Ed)(hc:eO A e=0):nE A e=A.map (bI e (kJ ((findC A e.cell).getD aA).sides false).cell)++[⟨e.new,0,[]⟩,⟨e.other,1,[⟨e.new,-1⟩,⟨(kJ ((findC A e.cell).getD aA).sides true).cell,1⟩]⟩]:=by
 rw[h.findC];unfold eO at hc;cases t:ag A e.cell with
 | none=>rw[t] at hc;cases hc
 | some c =>
 rw[t] at hc;dsimp only at hc;split at hc
 ·cases hc
 rename_i hd;split at hc
 ·cases hc
 rename_i q;split at hc
 ·cases hc
 rename_i o;rw[zj6,not_or,zj9,zj9] at o;have hd:c.dim=1:=Decidable.not_not.1 hd;obtain ⟨f,l⟩:=aJ t;obtain ⟨z0,z1,hz,u⟩:=h.edge f hd;obtain ⟨G,H⟩:=DV hz u;unfold nE;rw[t,Option.getD_some];generalize kJ c.sides true=zt at *;generalize kJ c.sides false=zf at *;have g:(fY A e<|aC A e.cell).map Cl.id=A.map Cl.id:=by
  unfold fY;rw[zi7];refine zc9 fun y _=>?_;show (if y.id∈aC A e.cell then wk e y else y).id=y.id;split <;> rfl
 have b:∀ k,(∃ x∈fY A e (aC A e.cell),x.id=k)→∃ x∈A,x.id=k:=fun k ⟨x,d,a⟩=>by
  have i:k∈(fY A e<|aC A e.cell).map Cl.id:=zf4.2 ⟨x,d,a⟩;rw[g] at i;obtain ⟨y,j,a⟩:=zf4.1 i;exact⟨y,j,a⟩
 have m:=yv o.1;have n:=yv o.2;have r:lL (fY A e<|aC A e.cell) ⟨e.new,0,[]⟩=fY A e (aC A e.cell)++[⟨e.new,0,[]⟩]:=nK fun x d a=>by
  obtain ⟨y,j,a⟩:=b e.new ⟨x,d,a⟩;exact m y j a
 have s:lL (fY A e (aC A e.cell)++[⟨e.new,0,[]⟩]) ⟨e.other,1,[⟨e.new,-1⟩,zt]⟩=(fY A e (aC A e.cell)++[⟨e.new,0,[]⟩])++[⟨e.other,1,[⟨e.new,-1⟩,zt]⟩]:=nK fun x d a=>by
  rcases zf5.1 d with d | d
  ·obtain ⟨y,j,a⟩:=b e.other ⟨x,d,a⟩;exact n y j a
  ·simp at d;subst d;exact q<|.inr a
 have v:e.cell≠e.new:=fun a=>m c f (by rw[l,a]);have w:e.cell≠e.other:=fun a=>n c f (by rw[l,a]);have B:(((fY A e (aC A e.cell)++[(⟨e.new,0,[]⟩:Cl)])++[(⟨e.other,1,[⟨e.new,-1⟩,zt]⟩:Cl)]).map Cl.id).Nodup:=by
  rw[← s,← r];exact kz<|kz (by rw[g];exact h.ids)
 rw[r,s,ya B]
 ·rw[zg7,zg7,zh1];congr 1
  ·unfold fY;rw[zi7];refine zc9 fun y j=>?_;show (if (if y.id∈aC A e.cell then wk e y else y).id=e.cell then _ else _)=_;have C:(if y.id∈aC A e.cell then wk e y else y).id=y.id:=by split <;> rfl
   rw[C];unfold bI;by_cases i:y.id=e.cell
   ·have D:y=c:=h.same j f (by rw[i,l]);subst D;rw[zg3 i,zg3 i,i,hd,H]
   ·rw[zg2 i,zg2 i,uk<|h.difS j];by_cases p:nU y e.cell=true
    ·have E:y.id∈aC A e.cell:=h.mem_above.2 ⟨y,j,rfl,p⟩;unfold nU at p;rw[zg3 E,zg3 p];rfl
    ·have E:y.id ∉ aC A e.cell:=fun J=>by
      obtain ⟨z,hz,a,F⟩:=h.mem_above.1 J;rw[h.same hz j a] at F;exact p F
     unfold nU at p;rw[zg2 E,zg2 p,zc7]
  ·simp only[zg6,List.map_nil,List.cons_append,List.nil_append];rw[zg2 (by exact fun a=>v a.symm),zg2 (by exact fun a=>w a.symm),G]
 ·have i:e.cell∈(fY A e<|aC A e.cell).map Cl.id:=by
   rw[g];exact zf4.2 ⟨c,f,l⟩
  obtain ⟨x,d,a⟩:=zf4.1 i;exact (by exact⟨x,List.mem_append_left _<|List.mem_append_left _ d,a⟩)
theorem ShC.refl (c:Cl):ShC c c:=⟨rfl,rfl,.refl _⟩
theorem De {A:List Cl}(h:Rt A)(e:Ed)(hc:eO A e=0):ShL (nE A e) (dP A e):=by
 refine⟨dP A e,?_,?_⟩
 ·rw[pd h e hc];exact List.perm_append_comm
 ·have:∀ l:List Cl,ax ShC l l:=fun l=>by
   induction l with
   | nil=>trivial
   | cons x l ih=>exact⟨ShC.refl x,ih⟩
  exact this _
def su (e:Ed)(k:Int):List Tm:=if k=e.cell then dv e else [(k,1)]
theorem vu {A:List Cl}(h:Rt A)(e:Ed):((am A).map gr).map (df e.cell<|dv e)=A.map fun c=>(c.id,su e c.id):=by
 rw[h.tab,zi7];refine zc9 fun c _=>?_;show df e.cell (dv e) (c.id,[(c.id,1)])=_;unfold su;by_cases a:c.id=e.cell
 ·rw[oy a,zg3 a]
 ·rw[l6 a,zg2 a]
theorem ns {A:List Cl}(h:Rt A)(e:Ed):dq A e=jG A e:=by
 have a:nb A=CV A:=funext fun id=>by unfold nb CV;rw[h.findC]
 have b:i6 A=wl A:=funext fun id=>by unfold i6 wl;rw[h.findC]
 have c:ir A e.pairs=AP A e.pairs:=funext fun p=>by unfold ir AP;rw[b]
 have d:(fun p:Pr=>(findC A p.1).isSome&&(findC A p.2).isSome)=fun p=>(ag A p.1).isSome&&(ag A p.2).isSome:=funext fun p=>by rw[h.findC,h.findC]
 unfold dq jG;rw[a,c,d]
theorem DL (A:List Cl)(e:Ed):ShL (jS A e) (ey A e):=by
 refine⟨jS A e,.refl _,?_⟩;unfold jS ey;have:cJ A (e.pairs.map Prod.snd)=th A (e.pairs.map Prod.snd):=rfl;rw[this];generalize th A (e.pairs.map Prod.snd)=l;induction l with
 | nil=>trivial
 | cons c l ih=>exact⟨⟨rfl,rfl,iL _⟩,ih⟩
theorem sF {k:Int}:∀ {ps:List Pr} (a:List Tm),(ps.map Prod.snd).Nodup→ps.foldl (fun p q=>df q.2 [(q.1,1)] p) (k,a)=(k,match byF ps k with | some t=>[(t,1)] | none=>a)
 | [],_,_=>rfl
 | q::ps,a,hn=>by
  rw[zg6,zk4] at hn;rw[zj1];by_cases b:k=q.2
  ·have c:df q.2 [(q.1,1)] (k,a)=(k,[(q.1,1)]):=zg3 b;have f:byF ps k=none:=by
    unfold byF;rw[Option.map_eq_none_iff,List.find?_eq_none];intro p hp g;exact hn.1<|zf4.2 ⟨p,hp,by rw[← b];simpa using g⟩
   have d:byF (q::ps) k=some q.1:=by unfold byF;rw[List.find?_cons_of_pos (by simpa using b.symm)];rfl
   rw[c,sF _ hn.2,f,d]
  ·have c:df q.2 [(q.1,1)] (k,a)=(k,a):=zg2 b;have d:byF (q::ps) k=byF ps k:=by unfold byF;rw[List.find?_cons_of_neg (by simpa using fun e=>b e.symm)]
   rw[c,sF _ hn.2,d]
theorem pj:∀ (ps:List Pr) (M:List (Int×List Tm)),ft ps M=M.map fun p=>ps.foldl (fun p q=>df q.2 [(q.1,1)] p) p
 | [],M=>by simp[ft]
 | q::ps,M=>by
  have a:ft (q::ps) M=ft ps (M.map<|df q.2 [(q.1,1)]):=rfl;rw[a,pj ps,zi7];rfl
theorem vF {A:List Cl}(h:Rt A)(e:Ed)(hd:zh e.pairs=false):ft e.pairs ((am A).map gr)=A.map fun c=>(c.id,sY e c.id):=by
 have hn:(e.pairs.map Prod.snd).Nodup:=tx (by
  unfold zh at hd;rw[decide_eq_false_iff_not,Decidable.not_not] at hd;exact hd)
 rw[h.tab,pj,zi7];refine zc9 fun c _=>?_;show e.pairs.foldl (fun p q=>df q.2 [(q.1,1)] p) (c.id,[(c.id,1)])=_;rw[sF _ hn];unfold sY;cases byF e.pairs c.id <;> rfl
theorem Cp {A:List Cl}{e:Ed}(h:jG A e=0):zh e.pairs=false:=by
 unfold jG at h;split at h
 ·split at h
  ·cases h
  ·rename_i a;simpa using a
 ·cases h
set_option maxHeartbeats 2000000
def bH (A:List Cl)(e:Ed):Int:=if e.kind=1 then gV A e else if e.kind=2 then ky A e else if e.kind=3 then eO A e else if e.kind=4 then jG A e else if e.kind=5 then sd A e else 1
def cz (A:List Cl)(e:Ed):List Cl:=if e.kind=1 then A++[⟨e.cell,e.dim,e.sides⟩] else if e.kind=2 then cJ A [e.cell] else if e.kind=3 then dP A e else if e.kind=4 then ey A e else cJ A [e.cell,e.other]
def zg (A:List Cl)(e:Ed)(k:Int):List Tm:=if e.kind=3 then su e k else if e.kind=4 then sY e k else if e.kind=5 then AN A e k else [(k,1)]
def bkK (e:Ed):Bool:=decide (e.kind=2)
def dS (l:List Cl)(e:Ed):Int×List Cl:=if (aq l).2=0 then aW (bH (aa l) e) (cz (aa l) e) else (1,[])
def AF (l:List Cl)(e:Ed):List (Int×List Tm):=(if bkK e then (dS l e).2 else aa l).map fun c=>(c.id,zg (aa l) e c.id)
theorem fu.congr {code:Int}{D:List Cl}{d a:List (Int×List Tm)}{bk e:Bool}{r:Value}{g:PH}(h:fu code D d bk r g)(j:code=0→d=a)(hb:code=0→bk=e):fu code D a e r g:=by
 obtain ⟨u,p,n,c,b,k,l,m,o⟩:=h;refine⟨u,p,n,c,b,k,l,fun f=>?_,o⟩;obtain ⟨q,i⟩:=m f;rw[j f] at i;exact⟨q.trans<|hb f,i⟩
theorem BQ {A:List Cl}(hn:(A.map Cl.id).Nodup)(a:Int):AG A a=cJ A [a]:=by
 have b:A=th A []:=(List.filter_eq_self.2 fun _ _=>by simp).symm;have:=BS hn [] a;rw[← b] at this;exact this
theorem BR {A:List Cl}(hn:(A.map Cl.id).Nodup)(a:List Int):((cJ A a).map Cl.id).Nodup:=(List.filter_sublist.map Cl.id).nodup hn
theorem uh {A:List Cl}(h:Rt A)(d:List Int):aa (cJ A d)=cJ A d∧am (cJ A d)=cJ A d:=by
 have f:(cJ A d).Pairwise fun a b=>a.id<b.id:=h.asc.sublist List.filter_sublist;have e:aa (cJ A d)=cJ A d:=by
  unfold aa;rw[(bJ (key:=Cl.id) (f.imp fun h=>by omega)<|aI.refl _).symm];have:∀ c∈cJ A d,cj c=c:=fun c hc=>by
   unfold cj;rw[(bJ (key:=aj.cell) ((h.form c (zh6.1 hc).1).asc.imp fun h=>by omega)<|aI.refl c.sides).symm]
  rw[zc9 this];simp
 exact⟨e,by rw[bQ (by rw[e];exact f),e]⟩
theorem zx {A:List Cl}(h:Rt A)(e:Ed)(hc:eO A e=0):aM (nE A e):=by
 rw[pd h e hc];have hl:=h.few;refine⟨by simp only[ze7,ze8,zf1,zc5];omega,fun c hc=>?_⟩
 rcases zf5.1 hc with hc | hc
 ·obtain ⟨y,a,rfl⟩:=zf4.1 hc;have b:=h.few64 a;have d:(eJ e y.sides).length≤y.sides.length:=by unfold eJ;rw[ze8];exact zc6 _ _
  unfold bI;split
  ·simp
  ·simp only[ze7];omega
 ·simp at hc
  rcases hc with rfl | rfl <;> simp
theorem z8 {A:List Cl}(a:aM A)(e:Ed):aM (jS A e):=by
 refine⟨?_,fun c hc=>?_⟩
 ·unfold jS;rw[ze8];exact Nat.lt_of_le_of_lt (zc6 _ _) a.1
 ·unfold jS at hc;obtain ⟨y,b,rfl⟩:=zf4.1 hc;have d:=a.2 y (zh6.1 b).1;show (lH<|y.sides.map<|kH<|byF e.pairs).length<_;rw[(iL _).length_eq,ze8];exact d
theorem An {A:List Cl}{e:Ed}(h:gV A e=0):lL A ⟨e.cell,e.dim,e.sides⟩=A++[⟨e.cell,e.dim,e.sides⟩]:=by
 refine nK fun x b a=>?_;unfold gV at h;have c:(ag A e.cell).isSome=true:=by
  unfold ag;rw[List.find?_isSome];exact⟨x,b,by simpa using a⟩
 rw[c] at h;cases h
def EO (A:List Cl)(e:Ed):Prop :=
  ∃ fv B,ep qw e.kind=some fv∧te fv e A (bH A e) B (zg A e) (bkK e)∧(bH A e=0→aM B∧(B.map Cl.id).Nodup∧aW 0 B=aW 0 (cz A e))
theorem Ch {A:List Cl}(hA:Rt A)(e:Ed)(a:e.sides.length<1099511627776)(b:e.kind=1∨e.kind=2):EO A e:=by
 unfold EO bH zg bkK cz;have f:(fun k:Int=>[(k,(1:Int))])=FF:=rfl
 rcases b with b | b <;> simp only[b] <;> simp only[Int.reduceEq,if_true,if_false,decide_true,decide_false]
 ·refine⟨_,lL A ⟨e.cell,e.dim,e.sides⟩,I,(Am A e a).gen,fun d=>?_⟩;have hB:=An d;refine⟨?_,kz hA.ids,by rw[hB]⟩;rw[hB];have hl:=hA.few;refine⟨by rw[ze7,ze9];omega,fun c hc=>?_⟩
  rcases zf5.1 hc with hc | hc
  ·exact hA.fits.2 c hc
  ·simp at hc;subst hc;exact a
 ·refine⟨_,AG A e.cell,I,(zH A hA.fits e).gen,fun d=>?_⟩;rw[BQ hA.ids];exact⟨gP hA.fits _,BR hA.ids _,I⟩
theorem Aj {A:List Cl}{e:Ed}(a:¬ (e.kind=1∨e.kind=2∨e.kind=3∨e.kind=4∨e.kind=5)):bH A e=1:=by
 unfold bH;rw[zg2 oM,zg2 oM,zg2 oM,zg2 oM,zg2 oM]
theorem jb.congr {g0:PH}{code:Int}{D:List Cl}{d a:List (Int×List Tm)}{bk e:Bool}{r:Value}{g:PH}(h:jb g0 code D d bk r g)(j:code=0→d=a)(hb:code=0→bk=e):jb g0 code D a e r g:=by
 obtain ⟨u,p,n,c,b,k,l,m,o⟩:=h;refine⟨u,p,n,c,b,k,l,fun f=>?_,o⟩;obtain ⟨q,i⟩:=m f;rw[j f] at i;exact⟨q.trans<|hb f,i⟩
theorem CI (E:World)(g:PH)(s:Own)(v ev:Value)(l:List Cl)(e:Ed)(k:ai g v l)(m:aM l)(n:EdR g ev e)(hr:(aq l).2=0)(o:EO (aa l) e) :
  Ctr Tryz.prog E 46 #[.agg #[v],ev] g s (fun r g' s'=>s=s'∧Le g g'∧jb g (dS l e).1 (dS l e).2 (AF l e) (bkK e) r g'):=by
 have hA:=iJ hr;have d:dS l e=aW (bH (aa l) e) (cz (aa l) e):=zg3 hr;obtain ⟨p,B,q,t,f⟩:=o;have b:aW (bH (aa l) e) B=dS l e:=by
  rw[d];by_cases a:bH (aa l) e=0
  ·rw[a];exact (f a).2.2
  ·unfold aW;rw[zg3 a,zg3 a]
 have u:=Ap E g s v ev l e k m n hr p (bH (aa l) e) B (bkK e) q (zg (aa l) e) t (fun a=>⟨(f a).1,(f a).2.1⟩);refine u.mono fun r g' s' ⟨w,x,j⟩=>⟨w,x,?_⟩;rw[b] at j;refine j.congr (fun a=>?_) fun _=>I;have y:aa B=(dS l e).2:=by
  rw[← b] at a ⊢;unfold aW at a ⊢;split at a
  ·rename_i i;exact absurd a i
  ·rename_i i;rw[zg2 i];split at a
   ·rename_i c;exact absurd a c
   ·rename_i c;rw[zg2 c]
 unfold AF;rw[y]
theorem CJ (E:World)(g:PH)(s:Own)(v ev:Value)(l:List Cl)(e:Ed)(c:ai g v l)(d:aM l)(f:EdR g ev e)(b:e.sides.length<1099511627776)(i:e.kind=1∨e.kind=2) :
  Ctr Tryz.prog E 46 #[.agg #[v],ev] g s (fun r g' s'=>s=s'∧Le g g'∧jb g (dS l e).1 (dS l e).2 (AF l e) (bkK e) r g'):=by
 by_cases hr:(aq l).2=0
 ·exact CI E g s v ev l e c d f hr<|Ch (iJ hr) e b i
 ·have a:dS l e=(1,[]):=zg2 hr;rw[a];exact Aq E g s v ev l e c d f _ _<|.inr hr
def FA (e:Ed):Prop:=∀ (E:World) (g:PH) (s:Own) (v ev:Value) (l:List Cl),ai g v l→aM l→EdR g ev e →
  Ctr Tryz.prog E 46 #[.agg #[v],ev] g s (fun r g' s'=>s=s'∧Le g g'∧fu (dS l e).1 (dS l e).2 (AF l e) (bkK e) r g')
theorem Ft {e:Ed}(a:e.sides.length<1099511627776)(b:e.kind=1∨e.kind=2):FA e:=fun E g s v ev l c d f =>
 (CJ E g s v ev l e c d f a b).mono fun _ _ _ ⟨i,j,k⟩=>⟨i,j,k.old⟩
theorem l7 (E:World)(g:PH)(s:Own)(v ev:Value)(l:List Cl)(e:Ed)(j:ai g v l)(w:aM l)(k:EdR g ev e)(B:e.sides.length<1099511627776)(J:e.pairs.length<100000000000) :
  Ctr Tryz.prog E 78 #[.agg #[v],ev] g s (fun r g' s'=>s=s'∧Le g g'∧fu (dS l e).1 (dS l e).2 (AF l e) (bkK e) r g'):=by
 by_cases hr:(aq l).2=0
 ·have hA:=iJ hr;have d:=hA.fits;have x:dS l e=aW (bH (aa l) e) (cz (aa l) e):=zg3 hr;by_cases a:e.kind=1∨e.kind=2∨e.kind=3∨e.kind=4∨e.kind=5
  ·have m:∀ (D:List Cl) (y:List (Int×List Tm)) (bk:Bool) (r:Value) (g':PH),D=(if bH (aa l) e=0 then cz (aa l) e else aa l)→(bH (aa l) e=0→y=(if bkK e then am (cz (aa l) e) else aa l).map fun c=>(c.id,zg (aa l) e c.id))→(bH (aa l) e=0→bk=bkK e)→(bkK e=true→bH (aa l) e=0→am (cz (aa l) e)=aa (cz (aa l) e)) →
     fu (aW (bH (aa l) e) D).1 (aW (bH (aa l) e) D).2 y bk r g'→fu (dS l e).1 (dS l e).2 (AF l e) (bkK e) r g':=fun D y bk r g' O P hb Q p=>by
    have n:aW (bH (aa l) e) D=dS l e:=by
     rw[x,O];by_cases b:bH (aa l) e=0
     ·rw[zg3 b]
     ·unfold aW;rw[zg3 b,zg3 b]
    rw[n] at p;have C:(dS l e).1=0→bH (aa l) e=0∧(dS l e).2=aa (cz (aa l) e):=fun b=>by
     rw[x] at b ⊢;unfold aW at b ⊢;split at b
     ·rename_i H;exact absurd b H
     ·rename_i H;rw[zg2 H];split at b
      ·rename_i z;exact absurd b z
      ·rename_i z;rw[zg2 z];exact⟨Decidable.not_not.1 H,I⟩
    refine p.congr (fun b=>?_) fun b=>hb (C b).1;obtain ⟨N,R⟩:=C b;rw[P N];unfold AF;rw[R];cases K:bkK e with
    | false=>rfl
    | true=>rw[zg3 rfl,zg3 rfl,Q K N]
   have q:aM (if bH (aa l) e=0 then cz (aa l) e else aa l):=by
    split
    ·rename_i b
     rcases a with a | a | a | a | a <;> unfold cz <;> simp only[a] <;> simp only[Int.reduceEq,if_true,if_false]
     ·have hl:=hA.few;refine⟨by rw[ze7,ze9];omega,fun c hc=>?_⟩
      rcases zf5.1 hc with hc | hc
      ·exact d.2 c hc
      ·simp at hc;subst hc;exact B
     ·exact gP d _
     ·have F:eO (aa l) e=0:=by unfold bH at b;simp only[a] at b;simpa using b
      exact (De hA e F).fits<|zx hA e F
     ·exact (DL _ e).fits<|z8 d e
     ·exact gP d _
    ·exact d
   rcases a with a | a | a | a | a
   ·have f:bH (aa l) e=gV (aa l) e:=by unfold bH;rw[zg3 a]
    have i:cz (aa l) e=aa l++[⟨e.cell,e.dim,e.sides⟩]:=by unfold cz;rw[zg3 a]
    have h:=gh E g s v ev l e (bH (aa l) e) (if bH (aa l) e=0 then cz (aa l) e else aa l) ((am<|aa l).map gr) false j w k hr q (.inl a)
     (fun _ E g s v ev j k=>by rw[i];exact qG E g s v ev (aa l) e j d k B (bH (aa l) e) (by rw[f,hA.findC];rfl))
     (fun h=>by omega) (fun h=>by omega) (fun h=>by omega) (fun h=>by omega)
    refine h.mono fun r g' s' ⟨t,u,p⟩=>⟨t,u,m _ _ _ _ _ I (fun _=>?_) (fun _=>?_) (fun hb=>?_) p⟩
    ·have hb:bkK e=false:=by unfold bkK;rw[a];rfl
     rw[hb,hA.tab];refine zc9 fun c _=>?_;unfold zg;rw[zg2 oM,zg2 oM,zg2 oM];rfl
    ·unfold bkK;rw[a];rfl
    ·unfold bkK at hb;rw[a] at hb;cases hb
   ·have f:bH (aa l) e=ky (aa l) e:=by unfold bH;rw[zg2 oM,zg3 a]
    have i:cz (aa l) e=cJ (aa l) [e.cell]:=by unfold cz;rw[zg2 oM,zg3 a]
    have h:=gh E g s v ev l e (bH (aa l) e) (if bH (aa l) e=0 then cz (aa l) e else aa l) ((am<|cJ (aa l) [e.cell]).map gr) (decide (bH (aa l) e=0)) j w k hr q (.inr<|.inl a)
     (fun h=>by omega)
     (fun _ E g s v ev j k=>by rw[i];exact qF E g s v ev (aa l) e j d k (bH (aa l) e) (by rw[f,hA.findC];rfl))
     (fun h=>by omega) (fun h=>by omega) (fun h=>by omega)
    have hb:bkK e=true:=by unfold bkK;rw[a];rfl
    refine h.mono fun r g' s' ⟨t,u,p⟩=>⟨t,u,m _ _ _ _ _ I (fun _=>?_) (fun b=>?_) (fun hb b=>?_) p⟩
    ·rw[hb,zg3 rfl,i];refine zc9 fun c _=>?_;unfold zg;rw[zg2 oM,zg2 oM,zg2 oM];rfl
    ·rw[hb];exact zg1 b
    ·rw[i,(uh hA _).1,(uh hA _).2]
   ·have f:bH (aa l) e=br (aa l) e:=by unfold bH;rw[zg2 oM,zg2 oM,zg3 a,vv hA]
    have i:cz (aa l) e=dP (aa l) e:=by unfold cz;rw[zg2 oM,zg2 oM,zg3 a]
    have h:=gh E g s v ev l e (bH (aa l) e) (if bH (aa l) e=0 then cz (aa l) e else aa l) (((am<|aa l).map gr).map<|df e.cell<|dv e) false j w k hr q (.inr<|.inr<|.inl a)
     (fun h=>by omega) (fun h=>by omega)
     (fun _ E g s v ev j k=>by
      rw[i,f];refine tD E g s v ev (aa l) e j d k (by have:=hA.few;omega) (fun c hc=>hA.few64 hc) ?_;intro c hc hd;rw[hA.findC] at hc;exact hA.edge (aJ hc).1 hd)
     (fun h=>by omega) (fun h=>by omega)
    have hb:bkK e=false:=by unfold bkK;rw[a];rfl
    refine h.mono fun r g' s' ⟨t,u,p⟩=>⟨t,u,m _ _ _ _ _ I (fun _=>?_) (fun _=>hb.symm) (fun o=>by rw[hb] at o;cases o) p⟩;rw[hb,vu hA];refine zc9 fun c _=>?_;unfold zg;rw[zg3 a]
   ·have f:bH (aa l) e=dq (aa l) e:=by unfold bH;rw[zg2 oM,zg2 oM,zg2 oM,zg3 a,ns hA]
    have i:cz (aa l) e=ey (aa l) e:=by unfold cz;rw[zg2 oM,zg2 oM,zg2 oM,zg3 a]
    have h:=gh E g s v ev l e (bH (aa l) e) (if bH (aa l) e=0 then cz (aa l) e else aa l) (ft e.pairs<|(am<|aa l).map gr) false j w k hr q (.inr<|.inr<|.inr<|.inl a)
     (fun h=>by omega) (fun h=>by omega) (fun h=>by omega)
     (fun _ E g s v ev j k=>by
      rw[i,f];refine nP E g s v ev (aa l) e j d k J ?_;intro id;unfold i6;rw[hA.findC]
      rcases hA.getD id with L | L
      ·rw[L];decide
      ·exact d.2 _ L)
     (fun h=>by omega)
    have hb:bkK e=false:=by unfold bkK;rw[a];rfl
    refine h.mono fun r g' s' ⟨t,u,p⟩=>⟨t,u,m _ _ _ _ _ I (fun b=>?_) (fun _=>hb.symm) (fun o=>by rw[hb] at o;cases o) p⟩;rw[f,ns hA] at b;rw[hb,vF hA e<|Cp b];refine zc9 fun c _=>?_;unfold zg;rw[zg2 oM,zg3 a]
   ·have f:bH (aa l) e=cI (aa l) e:=by unfold bH;rw[zg2 oM,zg2 oM,zg2 oM,zg2 oM,zg3 a,rJ hA]
    have i:cz (aa l) e=cJ (aa l) [e.cell,e.other]:=by unfold cz;rw[zg2 oM,zg2 oM,zg2 oM,zg2 oM]
    have G:((findC (aa l) e.other).getD aA).sides=lC (aa l) e:=by rw[hA.findC];rfl
    have h:=gh E g s v ev l e (bH (aa l) e) (if bH (aa l) e=0 then cz (aa l) e else aa l) ((((am<|aa l).map gr).map<|df e.cell<|fF (aa l) e).map<|df e.other []) false j w k hr q (.inr<|.inr<|.inr<|.inr a)
     (fun h=>by omega) (fun h=>by omega) (fun h=>by omega) (fun h=>by omega)
     (fun _ E g s v ev j k=>by
      rw[i,f];refine nS E g s v ev (aa l) e j d k ?_ ?_
      ·rw[G];exact xq hA e
      ·rw[G];exact vJ hA e)
    have hb:bkK e=false:=by unfold bkK;rw[a];rfl
    refine h.mono fun r g' s' ⟨t,u,p⟩=>⟨t,u,m _ _ _ _ _ I (fun b=>?_) (fun _=>hb.symm) (fun o=>by rw[hb] at o;cases o) p⟩;rw[f,rJ hA] at b;have S:aC (aa l) e.cell=[e.other]:=by
     unfold sd at b;split at b
     ·split at b
      ·rename_i h;exact h.1
      ·cases b
     ·cases b
    rw[hb,Ai hA e S];refine zc9 fun c _=>?_;unfold zg;rw[zg2 oM,zg2 oM,zg3 a]
  ·have M:=Aj (A:=aa l) a;have n:dS l e=(1,[]):=by rw[x,M];rfl
   rw[n];exact tF E g s v ev l e _ _ j w k hr oM oM oM oM oM
 ·have n:dS l e=(1,[]):=zg2 hr;rw[n];exact vC E g s v ev l e _ _ j w k hr
theorem xz {code:Int}{B:List Cl}(h:(aW code B).1=0):Rt (aW code B).2∧code=0∧(aW code B).2=aa B:=by
 unfold aW at h ⊢;split at h
 ·rename_i a;exact absurd h a
 ·rename_i a;rw[zg2 a];split at h
  ·rename_i b;exact absurd h b
  ·rename_i b;rw[zg2 b];have c:=iJ<|Decidable.not_not.1 b;rw[fI] at c;exact⟨c,Decidable.not_not.1 a,I⟩
theorem sf {l:List Cl}{e:Ed}(h:(dS l e).1=0):Rt (dS l e).2∧(aq l).2=0∧bH (aa l) e=0∧(dS l e).2=aa (cz (aa l) e):=by
 unfold dS at h ⊢;split at h
 ·rename_i a;rw[zg3 a];obtain ⟨b,c,d⟩:=xz h;exact⟨b,a,c,d⟩
 ·cases h
theorem D7 {l:List Cl}{e:Ed}(h:(dS l e).1≠0):(dS l e).2=[]:=by
 unfold dS at h ⊢;split at h
 ·rename_i a;rw[zg3 a];unfold aW at h ⊢;split at h
  ·rename_i b;rw[zg3 b]
  ·rename_i b;rw[zg2 b];split at h
   ·rename_i c;rw[zg3 c]
   ·exact absurd I h
 ·rename_i a;rw[zg2 a]
theorem oV (l:List Cl)(e:Ed):aM (dS l e).2:=by
 by_cases h:(dS l e).1=0
 ·exact (sf h).1.fits
 ·rw[D7 h];exact⟨by simp,by simp⟩
theorem Tryz.sty44:STy Tryz.prog 44 92 2 32 (.agg #[.slice none 0 0,vb false]):=⟨underlying44,⟨t92,by kernel_rfl,by kernel_rfl,by kernel_rfl,by kernel_rfl⟩,rfl,by decide⟩
theorem Tryz.sty42:STy Tryz.prog 42 58 7 88 (.agg #[vi 0,vi 0,vi 0,vi 0,vi 0,.slice none 0 0,.slice none 0 0]):=⟨underlying42,⟨t58,by kernel_rfl,by kernel_rfl,by kernel_rfl,by kernel_rfl⟩,rfl,by decide⟩
structure Er where
 kind:Int
 cell:Int
 dim:Int
 new:Int
 other:Int
 sv:Sv
 pv:Sv
def ie:Enc Er 7:=⟨fun r=>[vi r.kind,vi r.cell,vi r.dim,vi r.new,vi r.other,.slice r.sv.p r.sv.n r.sv.c,.slice r.pv.p r.pv.n r.pv.c],fun _=>rfl,fun _ u hu=>by simp at hu;rcases hu with rfl | rfl | rfl | rfl | rfl | rfl | rfl <;> rfl,by decide⟩
def erv (r:Er):Value:=.agg (ie.enc r).toArray
def EdK (g:PH)(e:Ed)(r:Er):Prop:=EdR g (erv r) e
theorem EdK.mono {g g':PH}(hl:Le g g'){e:Ed}{r:Er}(h:EdK g e r):EdK g' e r:=EdR.mono h hl
theorem EdR.rc {g:PH}{v:Value}{e:Ed}(h:EdR g v e):∃ r:Er,v=erv r∧EdK g e r:=by
 obtain ⟨sv,pv,rfl,a,b⟩:=h;obtain ⟨p,c,rfl⟩:=za4 a;obtain ⟨q,d,rfl⟩:=za4 b;exact⟨⟨e.kind,e.cell,e.dim,e.new,e.other,⟨p,e.sides.length,c⟩,⟨q,e.pairs.length,d⟩⟩,I,_,_,I,a,b⟩
def EdS (e:Ed):Prop:=e.sides.length<1099511627776∧e.pairs.length≤3
def Eds (g:PH)(v:Value)(l:List Ed):Prop:=∃ rs,SlA ie g v rs∧ax (EdK g) l rs
theorem Eds.form {g:PH}{v:Value}{l:List Ed}(h:Eds g v l):∃ p c,v = .slice p l.length c:=by
 obtain ⟨rs,a,b⟩:=h;rw[b.length];exact za4 a
structure Sr where
 sv:Sv
 bk:Bool
abbrev Stp:=List (Int×List Tm)×Bool
def ol:Enc Sr 2:=⟨fun r=>[.slice r.sv.p r.sv.n r.sv.c,vb r.bk],fun _=>rfl,fun _ u hu=>by simp at hu;rcases hu with rfl | rfl <;> rfl,by decide⟩
def srv (r:Sr):Value:=.agg (ol.enc r).toArray
def StK (g:PH)(x:Stp)(r:Sr):Prop:=r.bk=x.2∧Ims g (.slice r.sv.p r.sv.n r.sv.c) x.1
theorem StK.mono {g g':PH}(hl:Le g g'){x:Stp}{r:Sr}(h:StK g x r):StK g' x r:=⟨h.1,h.2.mono hl⟩
def Sts (g:PH)(v:Value)(l:List Stp):Prop:=∃ rs,SlA ol g v rs∧ax (StK g) l rs
theorem Sts.nil (g:PH):Sts g (.slice none 0 0) []:=⟨[],zc1 g _,trivial⟩
def imO (l:List Cl)(e:Ed):Stp:=if (dS l e).1=0 then (AF l e,bkK e) else ([],false)
theorem fu.one {l:List Cl}{e:Ed}{r:Value}{g:PH}(h:fu (dS l e).1 (dS l e).2 (AF l e) (bkK e) r g) :
  ∃ u:Sv,∃ x:Sr,r = .tuple #[.agg #[.slice u.p u.n u.c],srv x,vi (dS l e).1]∧ai g (.slice u.p u.n u.c) (dS l e).2∧StK g (imO l e) x:=by
 obtain ⟨u,p,n,c,b,i,f,j,k⟩:=h;obtain ⟨q,d,rfl⟩:=f.form;refine⟨⟨q,_,d⟩,⟨⟨p,n,c⟩,b⟩,i,f,?_⟩;unfold imO;by_cases a:(dS l e).1=0
 ·rw[zg3 a];exact j a
 ·rw[zg2 a];exact k a
def nY:List Cl→List Stp→Nat→List Ed→(Int×Int)×List Cl×List Stp
 | A,ss,_,[]=>((0,0),A,ss)
 | A,ss,i,e::es=>if (dS A e).1=0 then nY (dS A e).2 (ss++[imO A e]) (i+1) es else (((dS A e).1,(i:Int)),[],[])
def ik (l:List Cl)(es:List Ed):(Int×Int)×List Cl×List Stp:=if 1000<es.length then ((2,0),[],[]) else if (aq l).2≠0 then ((1,0),[],[]) else nY (aa l) [] 0 es
def zk (R:(Int×Int)×List Cl×List Stp)(r:Value)(g:PH):Prop:=∃ u p n c,r = .tuple #[.agg #[u],.slice p n c,vi R.1.2,vi R.1.1]∧ai g u R.2.1∧Sts g (.slice p n c) R.2.2
theorem Tryz.xA58 (a b d:Int)(q:Option Addr)(c e:Nat)(w:World):(Instr.build 58 #[(0,vi a),(1,vi b),(2,vi d),(5,.slice q c e)]).run Tryz.prog w = .ok (.agg #[vi a,vi b,vi d,vi 0,vi 0,.slice q c e,.slice none 0 0]) w:=by
 have f:∀ a:Int,(vi a).cells = #[vi a]:=fun _=>rfl;have g:(Value.slice q c e).cells = #[.slice q c e]:=rfl;simp[Instr.build,Instr.fill,f,g];rfl
theorem Tryz.xB58 (a b:Int)(w:World):(Instr.build 58 #[(0,vi a),(1,vi b)]).run Tryz.prog w = .ok (.agg #[vi a,vi b,vi 0,vi 0,vi 0,.slice none 0 0,.slice none 0 0]) w:=by
 have c:∀ a:Int,(vi a).cells = #[vi a]:=fun _=>rfl;simp[Instr.build,Instr.fill,c];rfl
theorem je (n:Int):a8 (IntKind.i64.wrap n):=by
 have h:IntKind.i64.wrap n=if (decide (n % 18446744073709551616≥9223372036854775808))=true then n % 18446744073709551616 - 18446744073709551616 else n % 18446744073709551616:=by
  simp[IntKind.wrap,IntKind.bits,IntKind.signed]
 rw[h];unfold a8;by_cases a:n % 18446744073709551616≥9223372036854775808
 ·rw[zg3<|zg1 a];omega
 ·rw[zg2 (by simpa using a)];omega
theorem vG (E:World)(g:PH)(s:Own)(v:Value)(l:List Cl)(t:ai g v l)(w:aM l) :
  Ctr Tryz.prog E 126 #[.agg #[v]] g s (fun r g' s'=>s=s'∧g=g'∧∃ n:Int,r=vi n∧a8 n):=by
 obtain ⟨rs,a,b⟩:=t;have y:=w.1;have m:=b.length;obtain ⟨p,c,rfl⟩:=za4 a;refine zb2 (args:=[.agg #[.slice p rs.length c]]) func126 I ntmps126 (bE I)<|rZ (bW (bO I) fun q=>?_);refine aT I<|rZ<|aT I<|sQ<|rZ<|aT I<|bK<|oP (ι:=Nat×Int) (fun k=>[(1,pp q 0),(3,vi k.2),(4,vi k.1)]) (fun _=>g) (fun _=>pt q (bY #[.slice p rs.length c] 29)::s)
  (fun k=>k.1≤rs.length∧a8 k.2) (fun k=>rs.length - k.1) (0,1) sB rfl rfl ⟨zf8 _,by unfold a8;dsimp only;omega⟩ ?_
 rintro ⟨k,n⟩ ⟨z,hn⟩;dsimp only at z hn ⊢;refine sQ<|sW I<|lU (fA dA I cq I)<|lK (qL (v:=.slice p rs.length c) eG I<|cO 0 I I)<|lU (eN aF I)<|yL I<|tZ<|iP I (fun f=>?_) (fun f=>?_)
 ·have i:k<rs.length:=oM;have d:=za6 a oM;have j:rs[((k:Nat):Int).toNat]?=some rs[k]:=List.getElem?_eq_getElem i;generalize rs[k]=x at *;refine kP (tN (sQ (bK (rG (lM I (lU (fA dA I cq I) (lK (qL (v:=.slice p rs.length c) eG I (cO 0 I I)) (lM I (lU (iA aF ar I I d oM sL) (lU (fC ao I zT3 I d) (lK (aZ (e:=encCell) (o:=0) (u:=vi x.id) iT3 I (za7 a) j I) (lU (ze2 I I) (lU (SU.maxI I I) (lA I (SL.nil (bN (tN (rG (lM I (yD I (lA I (SL.nil ?_))))))))))))))))))))));exact ST.again (k+1,_) sB I I ⟨by dsimp only;omega,by
   have A:=je (x.id+1);dsimp only;unfold a8 at A hn ⊢;omega⟩ (by dsimp only;omega)
 ·exact xI<|tX<|tX<|bX<|tN<|sW I<|aT I<|rE<|dR (s':=s) uR<|za8 (.inl I) results126 I ⟨I,I,_,I,hn⟩
theorem py (E:World)(g:PH)(s:Own)(v:Value)(l:List Int)(n:Int)(b:dp g v l)(hl:l.length<1099511627776) :
  Ctr Tryz.prog E 127 #[v,vi n] g s (fun r g' s'=>s=s'∧g=g'∧∃ y:Int,r=vi y∧(y=0∨y∈l)):=by
 obtain ⟨p,c,rfl⟩:=za4 b;refine zb2 (args:=[.slice p l.length c,vi n]) func127 I ntmps127 (bE I)<|rZ<|aT I<|sQ<|sW I<|lU (eN az I)<|yE I<|tZ<|iP I (fun i=>?_) (fun i=>?_)
 ·exact rZ<|aT I<|rE<|tR<|za8 (.inl I) results127 I ⟨I,I,_,I,.inl I⟩
 ·obtain ⟨d,a⟩:=sO n l.length oM oM;have hb:=za6 b oM;have e:l[(bV n l.length).toNat]?=some l[(bV n l.length).toNat]:=List.getElem?_eq_getElem a;have f:l[(bV n l.length).toNat]∈l:=gM a;generalize l[(bV n l.length).toNat]=y at *;refine kP<|tN<|sW I<|lM I<|lM I<|lU (eN az I)<|lW (SO.call lP I<|bB E g _ n l.length oM) ?_;rintro _ _ _ ⟨rfl,rfl,rfl⟩;rw[d];exact lU (iA az zT3 I I hb oM sL)<|lK (eB (u:=vi y) iT3 I (za7 b) e I)<|aT I<|rE<|za8 (.inl I) results127 I ⟨I,I,_,I,.inr f⟩
theorem dX (E:World)(g:PH)(s:Own)(v:Value)(l:List Int)(n:Int)(a:dp g v l)(hl:l.length<1099511627776) :
  Ctr Tryz.prog E 127 #[v,vi n] g s (fun r g' s'=>s=s'∧g=g'∧∃ n:Int,r=vi n) :=
 (py E g s v l n a hl).mono fun _ _ _ ⟨b,c,y,d,_⟩=>⟨b,c,y,d⟩
theorem Cf (l:List Int):decide ((l.length:Int)=0)=decide (l=[]):=by
 rw[Bool.eq_iff_iff,zj8,zj8];exact⟨fun h=>zf6 oM,fun h=>by rw[h];rfl⟩
def mC (l:List Cl)(id:Int):Bool:=match aC l id with
 | [m]=>decide (aC l m=[])
 | _=>false
theorem xg (E:World)(g:PH)(s:Own)(v:Value)(l:List Cl)(R:ai g v l)(G:aM l) :
  Ctr Tryz.prog E 130 #[.agg #[v]] g s (fun r g' s'=>s=s'∧Le g g'∧∃ ps:List Pr,SlA ei g' r ps∧ps.length<1099511627776):=by
 have J:=R;obtain ⟨rs,t,A⟩:=R;have U:=G.1;have S:=A.length;obtain ⟨p,c,rfl⟩:=za4 t;refine zb2 (args:=[.agg #[.slice p rs.length c]]) func130 I ntmps130 (bE I)<|rZ (bW (bO I) fun H=>?_);refine aT I<|rZ<|aT I<|sQ<|rZ<|aT I<|bK<|zb6 99 2<|oP (ι:=Nat×PH×Value×List Pr) (fun i=>[(1,pp H 0),(3,i.2.2.1),(4,vi i.1)]) (fun i=>i.2.1) (fun i=>rowA ei 99 i.2.2.1 i.2.2.2::pt H (bY #[.slice p rs.length c] 29)::s)
  (fun i=>i.1≤rs.length∧Le g i.2.1∧i.2.2.2.length≤i.1) (fun i=>rs.length - i.1) (0,g,.slice none 0 0,[]) sB rfl rfl ⟨zf8 _,zb9 _,zf8 _⟩ ?_
 rintro ⟨k,g1,K,acc⟩ ⟨V,b,L⟩;dsimp only at V b L ⊢;refine sQ<|sW I<|lU (fA dA I cq I)<|lK (qL (v:=.slice p rs.length c) eG I<|cO 1 I I)<|lU (eN aF I)<|yL I<|tZ<|iP I (fun M=>?_) (fun M=>?_)
 ·have N:k<rs.length:=oM;have n:=za6 t oM;have q:=za5 t b;have B:=J.mono b;have C:rs[((k:Nat):Int).toNat]?=some rs[k]:=List.getElem?_eq_getElem N;generalize rs[k]=x at *;have T:(aC l x.id).length<1099511627776:=Nat.lt_of_le_of_lt (by unfold aC;rw[ze8];exact zc6 _ _) (bU G).1;refine kP<|tN<|sQ<|bK<|sQ<|dW [] [(0,1),(1,2),(2,1),(3,2),(4,2),(5,2),(6,1),(7,0),(8,2)] ze5 kR<|pK I (qV 1 an ae I I I)<|pU I (fA dA I cq I)<|pK I (qL (v:=.slice p rs.length c) eG I<|cO 1 I I)<|yM I<|pU I (iA aF ar I I n oM sL)<|pU I (fC ao I zT3 I n)<|pK I (aZ (e:=encCell) (o:=0) (u:=vi x.id) iT3 I (za7 q) C I)<|SP.o I (SO.call call183 I<|dx E g1 _ _ l x.id B G) dC (.inr iR) ?_;rintro _ g2 _ ⟨rfl,d,f⟩;obtain ⟨W,d2,rfl⟩:=za4 f;have O:=B.mono d;have D:=za5 q d;refine pU I (aS I)<|pN<|tN<|SC.cut (ι:=PH) (fun _=>[(1,pp H 0),(3,K),(4,vi k),(5,.slice W (aC l x.id).length d2),(32,vb<|mC l x.id)]) (fun g'=>g') (fun _=>rowA ei 99 K acc::pt H (bY #[.slice p rs.length c] 29)::s) (fun g'=>Le g2 g') ?_ ?_
  ·by_cases P:(aC l x.id).length=1
   ·obtain ⟨m,hm⟩:∃ m,aC l x.id=[m]:=by
     match hq:aC l x.id,P with
     | [m],_=>exact⟨m,rfl⟩
    have w:mC l x.id=decide (aC l m=[]):=by unfold mC;rw[hm]
    have y:=za6 f oM;have z:(aC l x.id)[((0:Nat):Int).toNat]?=some m:=by rw[hm];rfl
    refine SC.drawX [] ze5 kR ?_;refine SX.u (i:=0) I kR (mV I) dC<|SX.u (i:=1) I kR (eN az I) dC<|SX.u (i:=2) I kR (SU.eq (v':=vb true) (eQ I I)<|ze4 vb<|zg1 oM) dC<|SX.u (i:=3) I kR (mV I) dC<|SX.gq (i:=4) I kR (gT I I I dC) (qV 1 an ae I I I) dC<|SX.gu (i:=5) I kR (gT I I I dC) (mV I) dC<|SX.gu (i:=6) I kR (gT I I I dC) (iA (i:=0) az zT3 I I y dC (show (0:Int)<(((aC l x.id).length:Nat):Int) by omega)) dC ?_;refine SX.gq (i:=7) I kR (gT I I I dC) (eB iT3 I (za7 f) z I) dC ?_;refine zd7 8 kR ?_
    ·refine SB.go (i:=8) I (gT I I I dC) (SO.call call183 I<|dx E g2 _ _ l m O G) dC (.inr iR) ?_;rintro _ g3 _ ⟨rfl,a,Q⟩;obtain ⟨q3,d3,rfl⟩:=za4 Q;refine SX.gu (i:=9) I kR (gT I I I dC) (eN az I) dC<|SX.gu (i:=10) I kR (gT I I I dC) (SU.eq (v':=vb<|decide (aC l m=[])) (eQ I I)<|ze4 vb<|Cf _) dC<|SX.u (i:=11) I kR (wT I I) dC<|SX.nil kR ?_;exact za9 g3 ⟨I,I,I,I,(by rw[w];rfl),trivial⟩ rfl rfl a
   ·have w:mC l x.id=false:=by
     unfold mC;split
     ·rename_i m hm;rw[hm] at P;exact absurd I P
     ·rfl
    refine SC.drawX [] ze5 kR ?_;refine SX.u (i:=0) I kR (mV I) dC<|SX.u (i:=1) I kR (eN az I) dC<|SX.u (i:=2) I kR (SU.eq (v':=vb false) (eQ I I)<|ze4 vb<|zf9 oM) dC<|SX.u (i:=3) I kR (mV I) dC<|SX.off (i:=4) I kR (gZ I I I dC) dC<|SX.off (i:=5) I kR (gZ I I I dC) dC<|SX.off (i:=6) I kR (gZ I I I dC) dC<|SX.off (i:=7) I kR (gZ I I I dC) dC ?_;refine zd7 8 kR ?_
    ·refine SB.offo (i:=8) I (gZ I I I dC) dC ⟨by exact zb9 _,(by exact .refl _)⟩ ?_;refine SX.off (i:=9) I kR (gZ I I I dC) dC<|SX.off (i:=10) I kR (gZ I I I dC) dC<|SX.u (i:=11) I kR (wF I I) dC<|SX.nil kR ?_;exact za9 g2 ⟨I,I,I,I,(by rw[w];rfl),trivial⟩ rfl rfl<|zb9 _
  rintro g3 a;try dsimp only at a ⊢
  have j:=b.trans<|d.trans a;refine iQ I (fun hb=>?_) (fun hb=>?_)
  ·obtain ⟨m,hm,X⟩:∃ m,aC l x.id=[m]∧aC l m=[]:=by
    unfold mC at hb;split at hb
    ·rename_i m hm;exact⟨m,hm,zg5 hb⟩
    ·cases hb
   have y:=za6 f (by rw[hm];simp);have z:(aC l x.id)[((0:Nat):Int).toNat]?=some m:=by rw[hm];rfl
   have Y:(aC l x.id).length=1:=by rw[hm];rfl
   refine dW [12] [(0,2),(1,2),(2,1),(3,2),(4,2),(5,2),(6,1),(7,2),(8,2),(9,1),(10,2),(11,0),(12,0),(13,2)] ze5 kR<|yM I<|pU I (fA dA I cq I)<|pK I (qL (v:=.slice p rs.length c) eG I<|cO 1 I I)<|yM I<|pU I (iA aF ar I I n oM sL)<|pU I (fC ao I zT3 I n)<|pK I (aZ (e:=encCell) (o:=0) (u:=vi x.id) iT3 I (za7<|za5 D a) C I)<|yM I<|pU I (iA (i:=0) az zT3 I I y dC (show (0:Int)<(((aC l x.id).length:Nat):Int) by omega)) ?_;refine pK I (eB iT3 I (za7<|za5 f a) z I)<|pU I (za3 I<|build99 _ _)<|SP.o I (bS sty56 I I I (ab ⟨I,trivial⟩) dC) dC (.inr iR) ?_;rintro _ _ _ ⟨Z,rfl,rfl,rfl⟩;refine SP.o I (aP (e:=ei) (l:=acc) 0 (x.id,m) sty56 I I I I I oM oM) dC (.inl dC) ?_;rintro ov' _ _ ⟨rfl,rfl⟩;refine pU I (aS I)<|pN<|bN<|tN<|rG<|lM I<|yD I<|lA I<|SL.nil ?_;exact ST.again (k+1,g3,ov',acc++[(x.id,m)]) sB I I ⟨by dsimp only;omega,j,by dsimp only;rw[ze7,ze9];omega⟩ (by dsimp only;omega)
  ·exact kP<|bN<|tN<|rG<|lM I<|yD I<|lA I<|SL.nil<|ST.again (k+1,g3,K,acc) sB I I ⟨by dsimp only;omega,j,by dsimp only;omega⟩ (by dsimp only;omega)
 ·refine xI (tX<|tX<|bX<|tN<|sQ<|fS fun g2 d F=>?_);obtain ⟨q0,d0,rfl⟩:=zc3 F;exact rG<|lM I<|aT I<|rE<|dR (s':=s) uR<|za8 (.inl I) results130 I ⟨I,b.trans d,acc,F,oM⟩
theorem Av (E:World)(g:PH)(s:Own)(v:Value)(l:List Cl)(n:Int)(X:ai g v l)(J:aM l) :
  Ctr Tryz.prog E 129 #[.agg #[v],vi n] g s (fun r g' s'=>∃ ps:List Pr,s'=rowA ei 99 r ps::s∧Le g g'∧ps.length≤1):=by
 obtain ⟨rs,a,d⟩:=X;have Y:=J.1;have W:=d.length;obtain ⟨p,c,rfl⟩:=za4 a;refine zb2 (args:=[.agg #[.slice p rs.length c],vi n]) func129 I ntmps129 (bE I)<|rZ (bW (bO I) fun z=>?_);refine aT I<|rZ<|lU (fA dA I cq I)<|lK (qL (v:=.slice p rs.length c) eG I<|cO 0 I I)<|lU (eN aF I)<|aT I<|sQ<|rZ<|aT I<|bK<|oP (ι:=Nat) (fun k=>[(1,vi n),(2,pp z 0),(5,vi rs.length),(6,vi k)]) (fun _=>g) (fun _=>pt z (bY #[.slice p rs.length c] 29)::s)
  (fun k=>k≤rs.length) (fun k=>rs.length - k) 0 sB rfl rfl (zf8 _) ?_
 rintro k Z;try dsimp only at Z ⊢
 refine sQ<|sW I<|lM I<|yL I<|tZ<|iP I (fun K=>?_) (fun K=>?_)
 ·have f:=za6 a oM;obtain ⟨m,A⟩:=sO (IntKind.i64.wrap<|k+n) rs.length oM oM;have t:rs[(bV (IntKind.i64.wrap<|k+n) rs.length).toNat]?=some rs[(bV (IntKind.i64.wrap<|k+n) rs.length).toNat]:=List.getElem?_eq_getElem A;have L:=d.get (List.getElem?_eq_getElem (show (bV (IntKind.i64.wrap<|k+n) rs.length).toNat<l.length by omega)) t;have M:=J.2 _<|gM (show (bV (IntKind.i64.wrap<|k+n) rs.length).toNat<l.length by omega);generalize l[(bV (IntKind.i64.wrap<|k+n) rs.length).toNat]'oM=cx at *;generalize rs[(bV (IntKind.i64.wrap<|k+n) rs.length).toNat]=x at *;obtain ⟨xi,xd,N,O,P⟩:=x;obtain ⟨f1,f2,B⟩:=L;dsimp only at f1 f2 B;subst f1 f2;refine kP<|tN<|sQ<|bK ?_;refine SC.cut (ι:=Nat) (fun b=>[(1,vi n),(2,pp z 0),(5,vi rs.length),(6,vi k),(7,pp b 0)]) (fun _=>g) (fun b=>pt b (bY #[vi cx.id,vi cx.dim,.slice N O P] 37)::pt z (bY #[.slice p rs.length c] 29)::s) (fun _=>True) ?_ ?_
  ·refine SC.drawX [10] ze5 kR ?_;refine SX.u (i:=0) I kR (fA dA I cq I) dC<|SX.q (i:=1) I kR (qL (v:=.slice p rs.length c) eG I<|cO (by exact 0) I I) dC ?_;refine SX.u (i:=2) I kR (mV I) dC<|SX.u (i:=3) I kR (mV I) dC<|SX.u (i:=4) I kR (ze2 I I) dC<|SX.u (i:=5) I kR (mV I) dC ?_
   repeat' (first
    | (refine SB.o (i:=6) rfl (SO.call lP rfl<|bB E g _ _ rs.length oM) dC (.inr (by rintro _ _ _ ⟨rfl,rfl,rfl⟩;exact⟨by exact zb9 _,(by exact .cons _<|.refl _)⟩)) ?_;rintro _ _ _ ⟨rfl,rfl,rfl⟩;rw[m];refine SX.u (i:=7) I kD (iA aF ar I I f oM sL) dC ?_;refine SX.q (i:=8) I kD (SQ.elemA dH ar I (za7 a) t) dC ?_)
    | (refine SB.o (i:=6) rfl (SO.call lP rfl<|bB E g _ _ rs.length oM) dC (.inr (by rintro _ _ _ ⟨rfl,rfl,rfl⟩;exact⟨by exact zb9 _,(by exact .refl _)⟩)) ?_;rintro _ _ _ ⟨rfl,rfl,rfl⟩;rw[m];refine SX.u (i:=7) I kD (iA aF ar I I f oM sL) dC ?_;refine SX.q (i:=8) I kD (SQ.elemA dH ar I (za7 a) t) dC ?_)
    | (refine SB.o (i:=9) rfl (aL zm2) dC (.inr (by rintro _ _ _ ⟨C,rfl,rfl,rfl⟩;exact⟨by exact zb9 _,(by exact .cons _<|.refl _)⟩)) ?_;rintro _ _ _ ⟨C,rfl,rfl,rfl⟩)
    | (refine SB.on (i:=10) I (sK 0 ar I I I I I sB) (.inl dC) ?_;rintro _ _ _ ⟨rfl,rfl⟩)
    | refine zd8 6 9 kD ?_ ?_
    | refine zd7 9 kD ?_
    | refine zd7 10 kD ?_
    | refine zd7 6 kD ?_
    | (refine SX.nil kD ?_;exact za9 C sB I I trivial))
  rintro C -;try dsimp only
  clear m A;refine rZ<|aT I<|bK<|oP (ι:=Nat) (fun j=>[(1,vi n),(2,pp z 0),(5,vi rs.length),(6,vi k),(7,pp C 0),(8,vi j)]) (fun _=>g) (fun _=>pt C (bY #[vi cx.id,vi cx.dim,.slice N O P] 37)::pt z (bY #[.slice p rs.length c] 29)::s)
   (fun j=>j≤rs.length) (fun j=>rs.length - j) 0 sB rfl rfl (zf8 _) ?_
  rintro j hj;try dsimp only at hj ⊢
  refine sQ<|sW I<|lM I<|yL I<|tZ<|iP I (fun D=>?_) (fun D=>?_)
  ·have F:j<rs.length:=oM;have G:j<l.length:=oM;have Q:rs[((j:Nat):Int).toNat]?=some rs[j]:=List.getElem?_eq_getElem F;have R:=d.get (List.getElem?_eq_getElem G)<|List.getElem?_eq_getElem F;have S:=J.2 _<|gM G;generalize l[j]=cy at *;generalize rs[j]=y at *;obtain ⟨yi,yd,yp,yn,yc⟩:=y;obtain ⟨f1,f2,H⟩:=R;dsimp only at f1 f2 H;subst f1 f2;refine kP (tN<|sQ<|bK<|rZ<|lU (fA dA I cq I)<|lK (qL (v:=.slice p rs.length c) eG I<|cO 1 I I)<|lM I<|lU (iA aF ar I I f oM sL)<|lK (SQ.elemA dH ar I (za7 a) Q)<|bW (aL zm2) fun b9=>?_);refine oZ (sK 0 ar I I I I I sB)<|tZ<|SC.cutB 60 (decide (cx.id≠cy.id)&&decide (cx.dim=cy.dim)&&decide (cx.dim>0)&&decide (lH cx.sides=lH cy.sides)) ?_ ?_
   ·refine rG<|lU (fA ao I zT3 I)<|lK (qL (v:=vi cx.id) iT3 I<|cO 1 I I)<|lU (fA ao I zT3 I)<|lK (qL (v:=vi cy.id) iT3 I<|cO 0 I I)<|lU (nQ I I)<|lM I<|sP ?_ ?_
    ·intro T;refine lY I I I (fA ao I zT3 I)<|SL.gq (gT I I I dC) (qL (v:=vi cx.dim) iT3 I<|cO 1 I I) dC<|lY I I I (fA ao I zT3 I)<|SL.gq (gT I I I dC) (qL (v:=vi cy.dim) iT3 I<|cO 0 I I) dC<|lY I I I (eQ I I)<|yP I<|lM I<|sP ?_ ?_
     ·intro U;refine lY I I I (fA ao I zT3 I)<|SL.gq (gT I I I dC) (qL (v:=vi cx.dim) iT3 I<|cO 1 I I) dC<|lY I I I (gR I I)<|yP I<|lM I<|sP ?_ ?_
      ·intro V;refine lY I I I (fA ao I aH I)<|SL.gq (gT I I I dC) (qL (v:=.slice N O P) bi I<|cO 1 I I) dC<|lY I I I (fA ao I aH I)<|SL.gq (gT I I I dC) (qL (v:=.slice yp yn yc) bi I<|cO 0 I I) dC<|ze3 (gT I I I dC) (SO.call call187 I<|kL E g _ _ _ _ _ B H M S) dC ?_;rintro _ _ _ ⟨rfl,rfl,rfl⟩;exact yP I<|SL.nil<|zb1 (by (simp_all[aN];done)) mI
      ·intro V;exact yA I<|yA I<|yA I<|yA I<|yA I<|yF I<|SL.nil<|zb1 (by (simp_all[aN];omega)) mI
     ·intro U;exact yA I<|yA I<|yA I<|yF I<|lM I<|yA I<|yA I<|yA I<|yA I<|yA I<|yF I<|SL.nil<|zb1 (by (simp_all[aN];done)) mI
    ·intro T;exact yA I<|yA I<|yA I<|yA I<|yA I<|yF I<|lM I<|yA I<|yA I<|yA I<|yF I<|lM I<|yA I<|yA I<|yA I<|yA I<|yA I<|yF I<|SL.nil<|zb1 (by (simp_all[aN];done)) mI
   refine iQ I (fun hq=>?_) (fun hq=>?_)
   ·refine rZ<|lU (fA ao I zT3 I)<|lK (qL (v:=vi cx.id) iT3 I<|cO 1 I I)<|lU (fA ao I zT3 I)<|lK (qL (v:=vi cy.id) iT3 I<|cO 0 I I)<|lU (za3 I<|build99 _ _)<|lW (bS sty56 I I I (ab ⟨I,trivial⟩) dC) ?_;rintro _ _ _ ⟨a0,rfl,rfl,rfl⟩;refine SL.to (fun w hw=>At.litRow (e:=ei) (l:=[(cx.id,cy.id)]) (n:=0) hw I I dC) ?_;exact aT I<|rE<|bR<|tR<|tR<|bR<|bR<|tR<|tR<|bR<|tR<|dR (.cons_cons _<|.cons _<|.cons _<|.cons _<|.refl s)<|za8 (.inl I) results129 I ⟨_,I,zb9 _,by simp⟩
   ·exact kP<|bN<|tN<|rG<|lM I<|yD I<|lA I<|SL.nil<|dR (.cons _<|.refl _)<|ST.again (j+1) sB I I oM oM
  ·exact xI<|tX<|tX<|bX<|bN<|tN<|rG<|lM I<|yD I<|lA I<|SL.nil<|dR (.cons _<|.refl _)<|ST.again (k+1) sB I I oM oM
 ·exact xI<|tX<|tX<|bX<|tN<|rZ<|aT I<|rE<|dR (s':=s) (.cons _<|.refl _)<|ST.nilRow 99 2<|za8 (.inl I) results129 I ⟨[],I,zb9 _,by simp⟩
end Go.Proofs.YtdepcjnaieflmaaGreatDoor
