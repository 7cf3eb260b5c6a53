/- 13 -/
import Derived.Test.YtdepcjnaieflmaaGreatDoorMs12
set_option linter.unusedSimpArgs false
set_option linter.unusedVariables false
namespace Go.Proofs.YtdepcjnaieflmaaGreatDoor
open _root_.Go.Proofs.Tryz _root_.Go.Proofs.YtdepcjnaieflmaaGreatDoor.Tryz
open Go Go.Sy Go.Pl Go.Proofs
set_option maxRecDepth 100000
set_option maxHeartbeats 8000000
theorem zr (ps:List Pr):(qv ps).length=2 * ps.length:=by
 induction ps with
 | nil=>rfl
 | cons p ps ih =>
  have hc:qv (p::ps)=p.1::p.2::qv ps:=rfl;rw[hc,zf2,zf2,zf2,ih];omega
def nf (l:List Cl)(id:Int):Int:=((findC l id).getD aA).dim
def ja (l:List Cl)(id:Int):List am:=((findC l id).getD aA).sides
def iz (l:List Cl)(ps:List Pr)(p:Pr):Bool:=decide (lQ ((ja l p.1).map<|kL<|byF ps)=lQ ((ja l p.2).map<|kL<|byF ps))
def dx (l:List Cl)(e:Ed):Int :=
 if e.pairs.all (fun p=>(findC l p.1).isSome&&(findC l p.2).isSome) then
  if zG e.pairs then 54 else if e.pairs.any (fun p=>decide (nf l p.1≠nf l p.2)) then 21 else if e.pairs.all (iz l e.pairs) then 0 else 33
 else 30
def Di (f:Int→Option Int)(c:Cl):Cl:=⟨c.id,c.dim,c.sides.map<|kL f⟩
def eE (l:List Cl)(e:Ed):List Cl:=(cN l<|e.pairs.map Prod.snd).map (Di<|byF e.pairs)
def fz (ps:List Pr)(M:List (Int×List Tm)):List (Int×List Tm):=ps.foldl (fun M p=>M.map<|dh p.2 [(p.1,1)]) M
theorem vJ {ps:List Pr}{k:Nat}(a:k<ps.length)(M:List (Int×List Tm)):fz (ps.take<|k+1) M=(fz (ps.take k) M).map (dh ps[k].2 [(ps[k].1,1)]):=by
 unfold fz;rw[tS a,zj3];rfl
theorem wW (ps:List Pr):∀ M,(fz ps M).length=M.length:=by
 unfold fz;induction ps with
 | nil=>intro M;rfl
 | cons p ps ih=>intro M;rw[zj2,ih,ze9]
theorem D1 {α:Type}(f:α→α){l:List α}{k:Nat}(a:k<l.length):(l.take<|k+1).map f++l.drop (k+1)=((l.take k).map f++l.drop k).set k (f l[k]):=by
 rw[tS a,zg8,zh2,List.set_append_right _ _ (by rw[ze9,ze7];omega),ze9,ze7,show k - min k l.length=0 by omega];congr 1;rw[zg9 a];rfl
theorem FH {α:Type}(f:α→α){l:List α}{k:Nat}(a:k<l.length):((l.take k).map f++l.drop k)[k]?=some l[k]:=by
 rw[zh6 (by rw[ze9,ze7];omega),ze9,ze7,show k - min k l.length=0 by omega,zg9 a];rfl
theorem DV {L:List Int}(h:∀ a (f:a<L.length) b (hb:b<a),L[a]≠L[b]'oM):L.Nodup:=by
 rw[List.nodup_iff_pairwise_ne,zd1];intro i j g d c e;exact h j d i c e.symm
theorem nY (E:World)(g:PH)(s:Own)(v ev:Value)(l:List Cl)(e:Ed)(hv:ai g v l)(hf:aK l)(he:EdR g ev e)(y1:e.pairs.length<100000000000)(n2:∀ id,(ja l id).length<1099511627776) :
  Ctr Tryz.prog E 123 #[.agg #[v],ev] g s (fun r g' s'=>s=s'∧Le g g'∧E4 (dx l e) (if dx l e=0 then eE l e else l) (fz e.pairs<|(an l).map gJ) false r g'):=by
 obtain ⟨sv,pv,rfl,t4,b9⟩:=he;obtain ⟨sp,sc,rfl⟩:=za4 t4;obtain ⟨C,D,rfl⟩:=za4 b9;obtain ⟨p,c,rfl⟩:=hv.form;refine zb2 (args:=[.agg #[.slice p l.length c],.agg #[vi e.kind,vi e.cell,vi e.dim,vi e.new,vi e.other,.slice sp e.sides.length sc,.slice C e.pairs.length D]]) func123 I ntmps123 (bE I)<|rZ (bW (bO I) fun Y=>?_);refine bW (bO I) fun Z=>bW (aL zm2) fun b4=>bW (aL zl7) fun b5=>aT I<|rZ<|aT I<|rZ<|aT I<|sQ<|rZ<|aT I<|bK<|zb6 3 1<|zb6 3 1<|oP (ι:=Nat×PH×Value×Value) (fun i=>[(2,pp Y 0),(3,pp Z 0),(4,pp b4 0),(5,pp b5 0),(7,i.2.2.1),(8,i.2.2.2),(9,vi i.1)]) (fun i=>i.2.1)
  (fun i=>rowA encInt 3 i.2.2.1 (qv<|e.pairs.take i.1)::rowA encInt 3 i.2.2.2 ((e.pairs.take i.1).map Prod.snd)::pt b5 (bY #[.slice none 0 0,vb false] 92)::pt b4 (bY #[.slice none 0 0] 29)::pt Z (.cells (edV e (.slice sp e.sides.length sc)<|.slice C e.pairs.length D) 58 (0,0))::pt Y (bY #[.slice p l.length c] 29)::s)
  (fun i=>i.1≤e.pairs.length∧Le g i.2.1∧(∀ q∈e.pairs.take i.1,(findC l q.1).isSome=true∧(findC l q.2).isSome=true)) (fun i=>e.pairs.length - i.1) (0,g,.slice none 0 0,.slice none 0 0)
  sB rfl rfl ⟨zf9 _,zb9 _,fun q hq=>by simp at hq⟩ ?_
 rintro ⟨k,g1,wa,wg⟩ ⟨hk,K,d4⟩;dsimp only at hk K d4 ⊢;refine sQ<|sW I<|lU (fA a6 I kJ I)<|lK (qL (v:=.slice C e.pairs.length D) nB I<|cO 4 I I)<|lU (eN mM I)<|yL I<|tZ<|iP I (fun t5=>?_) (fun t5=>?_)
 ·have O:k<e.pairs.length:=oM;have d:=za6 b9 oM;have P:=za5 b9 K;have a0:=hv.mono K;have A:e.pairs[((k:Nat):Int).toNat]?=some e.pairs[k]:=List.getElem?_eq_getElem O;have c1:e.pairs.take (k+1)=e.pairs.take k++[e.pairs[k]]:=tS O;have n3:=zr<|e.pairs.take k;rw[ze7] at n3;have y2:((e.pairs.take k).map Prod.snd).length≤k:=by rw[ze9,ze7];omega
  have a1:¬ ((findC l e.pairs[k].1).isSome=true∧(findC l e.pairs[k].2).isSome=true)→dx l e=30:=fun h=>by
   unfold dx;rw[zg3];intro h2;have h3:=zk3.1 h2 _<|gM O;rw[zj6] at h3;exact h h3
  have f8:qv (e.pairs.take<|k+1)=qv (e.pairs.take k)++[e.pairs[k].1,e.pairs[k].2]:=by rw[c1,C5]
  have h0:(e.pairs.take<|k+1).map Prod.snd=(e.pairs.take k).map Prod.snd++[e.pairs[k].2]:=by rw[c1,zg8];rfl
  generalize e.pairs[k]=x at *;obtain ⟨H,J⟩:=x;dsimp only at a1 f8 h0;cases c3:(findC l H).isSome with
  | false =>
   rw[a1 (by rw[c3];rintro ⟨h,_⟩;cases h)];refine kP<|tN<|sQ<|bK<|sQ<|sQ<|dW [] [(0,1),(1,2),(2,1),(3,2),(4,2),(5,2),(6,1),(7,0),(8,2),(9,2),(10,1),(11,2),(12,1),(13,2),(14,2),(15,2),(16,1),(17,0),(18,2),(19,2)] ze6 kR<|pK I (qV 5 aj ag I I I)<|pU I (fA a6 I kJ I)<|pK I (qL (v:=.slice C e.pairs.length D) nB I<|cO 4 I I)<|yM I<|pU I (iA mM qk I I d oM sL)<|pU I (SU.indexAddrC qG zT3 I d I dC dC)<|pK I (aZ (e:=em) (o:=0) (u:=vi H) iT3 I (za7 P) A I)<|SP.o I (SO.call call181 I<|dp E g1 _ _ l H a0 hf) dC (.inr iR) ?_;rintro _ g2 _ ⟨rfl,rfl,F⟩;rw[c3];refine pU I (SU.not I)<|yM I<|yI I<|yG I<|yI I<|yG I<|yG I<|yG I<|yI I<|fO I (gZ I I I dC) dC ⟨by assumption,(by exact .refl _)⟩ ?_;refine yG I<|pU I (wT I I)<|pN<|tN<|za2 I<|rZ<|lK (qV 5 aj ag I I I)<|lU (za3 I buildZ92)<|oZ (sK 3 ag I I I I I sB) ?_;refine oZ (sK 2 bT I I I I I sB) ?_;refine aT I<|rE<|tR<|bR<|tR<|tR<|bR<|tR ?_;exact ST.retCCT 3 2 s (.inl I) results123 I I I aj ag gK bT I I I I uR ⟨I,K.trans F,_,_,_,_,I,a0.mono F,fun h=>by cases h⟩
  | true =>
  cases d9:(findC l J).isSome with
  | false =>
   rw[a1 (by rw[d9];rintro ⟨_,h⟩;cases h)];refine kP<|tN<|sQ<|bK<|sQ<|sQ<|dW [] [(0,1),(1,2),(2,1),(3,2),(4,2),(5,2),(6,1),(7,0),(8,2),(9,2),(10,1),(11,2),(12,1),(13,2),(14,2),(15,2),(16,1),(17,0),(18,2),(19,2)] ze6 kR<|pK I (qV 5 aj ag I I I)<|pU I (fA a6 I kJ I)<|pK I (qL (v:=.slice C e.pairs.length D) nB I<|cO 4 I I)<|yM I<|pU I (iA mM qk I I d oM sL)<|pU I (SU.indexAddrC qG zT3 I d I dC dC)<|pK I (aZ (e:=em) (o:=0) (u:=vi H) iT3 I (za7 P) A I)<|SP.o I (SO.call call181 I<|dp E g1 _ _ l H a0 hf) dC (.inr iR) ?_;rintro _ g2 _ ⟨rfl,rfl,F⟩;rw[c3];refine pU rfl (SU.not rfl)<|yM rfl<|SP.gq rfl (gT rfl rfl rfl dC) (qV 5 aj ag rfl rfl rfl) dC<|zb3 rfl (gT rfl rfl rfl dC) (fA a6 rfl kJ rfl) dC<|SP.gq rfl (gT rfl rfl rfl dC) (qL (v:=.slice C e.pairs.length D) nB rfl<|cO 4 rfl rfl) dC<|yJ rfl<|zb3 rfl (gT rfl rfl rfl dC) (iA mM qk rfl rfl d oM sL) dC<|zb3 rfl (gT rfl rfl rfl dC) (SU.indexAddrC qG zT3 rfl d rfl dC dC) dC<|SP.gq rfl (gT rfl rfl rfl dC) (aZ (e:=em) (o:=1) (u:=vi J) iT3 rfl (za7 P) A rfl) dC<|SP.go rfl (gT rfl rfl rfl dC) (SO.call call181 rfl<|dp E _ _ _ l J (a0.mono<|by assumption) hf) dC (.inr (by rintro _ g3 _ ⟨rfl,rfl,G⟩;exact⟨by exact Le.trans io io,(by exact .refl _)⟩)) ?_;rintro _ g3 _ ⟨rfl,rfl,G⟩;rw[d9];have z:=F.trans G;refine zb3 I (gT I I I dC) (SU.not I) dC<|pU I (wF I I)<|pN<|tN<|za2 I<|rZ<|lK (qV 5 aj ag I I I)<|lU (za3 I buildZ92)<|oZ (sK 3 ag I I I I I sB) ?_;refine oZ (sK 2 bT I I I I I sB) ?_;refine aT I<|rE<|tR<|bR<|tR<|tR<|bR<|tR ?_;exact ST.retCCT 3 2 s (.inl I) results123 I I I aj ag gK bT I I I I uR ⟨I,K.trans z,_,_,_,_,I,a0.mono z,fun h=>by cases h⟩
  | true =>
  refine kP (tN (sQ (bK (sQ (sQ ?_)))));refine dW [] [(0,1),(1,2),(2,1),(3,2),(4,2),(5,2),(6,1),(7,0),(8,2),(9,2),(10,1),(11,2),(12,1),(13,2),(14,2),(15,2),(16,1),(17,0),(18,2),(19,2)] ze6 kR<|pK I (qV 5 aj ag I I I) (pU I (fA a6 I kJ I) (pK I (qL (v:=.slice C e.pairs.length D) nB I (cO 4 I I)) (yM I (pU I (iA mM qk I I d oM sL) (pU I (SU.indexAddrC qG zT3 I d I dC dC) (pK I (aZ (e:=em) (o:=0) (u:=vi H) iT3 I (za7 P) A I) (SP.o I (SO.call call181 I (dp E g1 _ _ l H a0 hf)) dC (.inr iR) ?_)))))));rintro _ g2 _ ⟨rfl,rfl,F⟩;rw[c3];refine pU rfl (SU.not rfl) (yM rfl (SP.gq rfl (gT rfl rfl rfl dC) (qV 5 aj ag rfl rfl rfl) dC (zb3 rfl (gT rfl rfl rfl dC) (fA a6 rfl kJ rfl) dC (SP.gq rfl (gT rfl rfl rfl dC) (qL (v:=.slice C e.pairs.length D) nB rfl (cO 4 rfl rfl)) dC (yJ rfl (zb3 rfl (gT rfl rfl rfl dC) (iA mM qk rfl rfl d oM sL) dC (zb3 rfl (gT rfl rfl rfl dC) (SU.indexAddrC qG zT3 rfl d rfl dC dC) dC (SP.gq rfl (gT rfl rfl rfl dC) (aZ (e:=em) (o:=1) (u:=vi J) iT3 rfl (za7 P) A rfl) dC (SP.go rfl (gT rfl rfl rfl dC) (SO.call call181 rfl (dp E _ _ _ l J (a0.mono io) hf)) dC (.inr (by rintro _ g3 _ ⟨rfl,rfl,G⟩;exact⟨by exact Le.trans io io,(by exact .refl _)⟩)) ?_)))))))));rintro _ g3 _ ⟨rfl,rfl,G⟩;rw[d9];have z:=F.trans G;have Q:=za5 P z;refine zb3 I (gT I I I dC) (SU.not I) dC (pU I (wF I I) (pN (tN (za1 I (kP (tN (sQ ?_)))))));refine dW [14] [(0,2),(1,2),(2,1),(3,2),(4,2),(5,2),(6,1),(7,2),(8,1),(9,2),(10,2),(11,2),(12,1),(13,0),(14,0),(15,2)] ze6 kR ?_;refine yM I (pU I (fA a6 I kJ I) (pK I (qL (v:=.slice C e.pairs.length D) nB I (cO 4 I I)) (yM I (pU I (iA mM qk I I d oM sL) (pU I (SU.indexAddrC qG zT3 I d I dC dC) (pK I (aZ (e:=em) (o:=0) (u:=vi H) iT3 I (za7 Q) A I) (pU I (fA a6 I kJ I) (pK I (qL (v:=.slice C e.pairs.length D) nB I (cO 4 I I)) (yM I (pU I (iA mM qk I I d oM sL) (pU I (SU.indexAddrC qG zT3 I d I dC dC) (pK I (aZ (e:=em) (o:=1) (u:=vi J) iT3 I (za7 Q) A I) (SP.o I (bS sty32 I I I (ae sB) dC) dC (.inr iR) ?_)))))))))))));rintro _ _ _ ⟨y3,rfl,rfl,rfl⟩;refine SP.to (fun w hw=>At.litRow (e:=encInt) (l:=[H,J]) (n:=1) hw I I dC) ?_;refine SP.freezeRow fun g4 y t9=>?_;refine SP.o I (aQ (e:=encInt) (l:=qv (e.pairs.take k)) (m:=[H,J]) 0 sty32 I I I t9 (by simp;omega) (by simp;omega)) dC (.inl dC) ?_;rintro wa' _ _ ⟨rfl,rfl⟩;refine pU I (aS I) (pN (tN ?_));have M:=za5 Q y;refine rG (lM I (lU (fA a6 I kJ I) (lK (qL (v:=.slice C e.pairs.length D) nB I (cO 4 I I)) (lM I (lU (iA mM qk I I d oM sL) (lU (SU.indexAddrC qG zT3 I d I dC dC) (lK (aZ (e:=em) (o:=1) (u:=vi J) iT3 I (za7 M) A I) (lW (bS sty32 I I I (ae ⟨I,trivial⟩) dC) ?_))))))));rintro _ _ _ ⟨y4,rfl,rfl,rfl⟩;refine lW (aP (e:=encInt) 1 J sty32 I I I I I oM oM) ?_;rintro wg' _ _ ⟨rfl,rfl⟩;refine lA I (SL.nil (bN (tN (rG (lM I (yD I (lA I (SL.nil ?_))))))));exact ST.again (k+1,g4,wa',wg') sB I (by dsimp only;rw[f8,h0];rfl) ⟨by dsimp only;omega,K.trans (z.trans y),fun q hq=>by
   dsimp only at hq;rw[c1] at hq
   rcases zf6.1 hq with hq | hq
   ·exact d4 q hq
   ·simp at hq;subst hq;exact⟨c3,d9⟩⟩ (by dsimp only;omega)
 ·have u0:e.pairs.take k=e.pairs:=tL oM;rw[u0] at d4 ⊢;have u1:e.pairs.all (fun p=>(findC l p.1).isSome&&(findC l p.2).isSome)=true:=zk3.2 fun p hp=>by
   obtain ⟨h1,h2⟩:=d4 p hp;rw[h1,h2];rfl
  have i1:dx l e=if zG e.pairs then 54 else if e.pairs.any (fun p=>decide (nf l p.1≠nf l p.2)) then 21 else if e.pairs.all (iz l e.pairs) then 0 else 33:=by unfold dx;rw[zg4 u1]
  rw[i1];have n3:=zr e.pairs;refine xI (tX<|tX<|bX<|tN<|sQ<|sQ<|zd6 fun g2 F u2=>?_);refine zd6 fun g3 G u3=>?_;have z:=F.trans G;have a5:dw g3 wa (qv e.pairs):=Sl.mono u2 G;obtain ⟨qa,da,rfl⟩:=za4 a5;have h4:dw g3 wg (e.pairs.map Prod.snd):=u3;obtain ⟨qg,dg,rfl⟩:=za4 h4;refine rG<|aT I<|bK ?_;have N:=K.trans z;have i2:=hv.mono N;have Q:=za5 b9 N;generalize hL:qv e.pairs=L at *;refine oP (ι:=Nat) (fun i=>[(2,pp Y 0),(3,pp Z 0),(4,pp b4 0),(5,pp b5 0),(7,.slice qa L.length da),(8,.slice qg (e.pairs.map Prod.snd).length dg),(10,vi i)]) (fun _=>g3)
   (fun _=>pt b5 (bY #[.slice none 0 0,vb false] 92)::pt b4 (bY #[.slice none 0 0] 29)::pt Z (.cells (edV e (.slice sp e.sides.length sc)<|.slice C e.pairs.length D) 58 (0,0))::pt Y (bY #[.slice p l.length c] 29)::s)
   (fun i=>i≤L.length∧∀ a (ha:a<i) (hl:a<L.length) b (hb:b<a),L[a]≠L[b]'oM) (fun i=>L.length - i) 0 sB rfl rfl ⟨zf9 _,fun a ha=>absurd ha oM⟩ ?_
  rintro i ⟨hi,i3⟩;try dsimp only at hi i3 ⊢
  refine sQ<|sW I<|lM I<|lU (eN az I)<|yL I<|tZ<|iP I (fun n4=>?_) (fun n4=>?_)
  ·have u4:i<L.length:=oM;have n5:=za6 a5 oM;have u6:L[((i:Nat):Int).toNat]?=some L[i]:=List.getElem?_eq_getElem u4;refine kP<|tN<|sQ<|bK<|rZ<|aT I<|bK<|oP (ι:=Nat) (fun j=>[(2,pp Y 0),(3,pp Z 0),(4,pp b4 0),(5,pp b5 0),(7,.slice qa L.length da),(8,.slice qg (e.pairs.map Prod.snd).length dg),(10,vi i),(11,vi j)]) (fun _=>g3)
    (fun _=>pt b5 (bY #[.slice none 0 0,vb false] 92)::pt b4 (bY #[.slice none 0 0] 29)::pt Z (.cells (edV e (.slice sp e.sides.length sc)<|.slice C e.pairs.length D) 58 (0,0))::pt Y (bY #[.slice p l.length c] 29)::s)
    (fun j=>j≤i∧∀ b (hb:b<j) (hl:b<L.length),L[i]≠L[b]) (fun j=>i - j) 0 sB rfl rfl ⟨zf9 _,fun b hb=>absurd hb oM⟩ ?_
   rintro j ⟨hj,j0⟩;try dsimp only at hj j0 ⊢
   refine sQ<|sW I<|lM I<|yL I<|tZ<|iP I (fun n6=>?_) (fun n6=>?_)
   ·have u7:j<L.length:=oM;have u8:L[((j:Nat):Int).toNat]?=some L[j]:=List.getElem?_eq_getElem u7;refine kP<|tN<|sQ<|bK<|sQ<|dW [] [(0,2),(1,2),(2,2),(3,1),(4,2),(5,2),(6,2),(7,1),(8,2)] ze6 kR<|yM I<|yM I<|pU I (iA az zT3 I I n5 oM sL)<|pK I (eB iT3 I (za7 a5) u6 I)<|yM I<|yM I<|pU I (iA az zT3 I I n5 oM sL)<|pK I (eB iT3 I (za7 a5) u8 I)<|pU I (eQ I I)<|pN<|tN<|iP I (fun j1=>?_) (fun j1=>?_)
    ·have c4:zG e.pairs=true:=by
      unfold zG;rw[hL];refine zg2 fun hn=>?_;have h5:=(List.getElem_inj hn).1 j1;omega
     rw[zg4 c4];exact rZ<|lK (qV 3 aj ag I I I)<|lU (za3 I buildZ92)<|oZ (sK 1 ag I I I I I sB)<|oZ (sK 0 bT I I I I I sB)<|aT I<|rE<|bR<|tR<|tR<|bR<|bR<|tR<|tR<|bR<|tR<|ST.retCCT 1 0 s (.inl I) results123 I I I aj ag gK bT I I I I uR ⟨I,N,_,_,_,_,I,i2,fun h=>by cases h⟩
    ·refine kP (bN (tN (rG (lM I (yD I (lA I (SL.nil ?_)))))));exact ST.again (j+1) sB I I ⟨oM,fun b hb hl=>by
      by_cases e9:b=j
      ·subst e9;exact j1
      ·exact j0 b oM hl⟩ oM
   ·refine xI (tX (tX (bX (bN (tN (rG (lM I (yD I (lA I (SL.nil ?_))))))))));exact ST.again (i+1) sB I I ⟨oM,fun a ha hl b hb=>by
     by_cases e9:a=i
     ·subst e9;exact j0 b oM oM
     ·exact i3 a oM hl b hb⟩ oM
  ·have u9:L.Nodup:=DV fun a ha b hb=>i3 a oM ha b hb;have c4:zG e.pairs=false:=by
    unfold zG;rw[hL];exact zg1 fun h=>h u9
   rw[c4,zg3 Bool.false_ne_true];refine xI<|tX<|tX<|bX<|tN<|rZ<|aT I<|sQ<|rZ<|aT I<|bK<|oP (ι:=Nat×PH) (fun i=>[(2,pp Y 0),(3,pp Z 0),(4,pp b4 0),(5,pp b5 0),(8,.slice qg (e.pairs.map Prod.snd).length dg),(12,vi (if (e.pairs.take i.1).all (iz l e.pairs) then 0 else 33)),(13,vi i.1)]) (fun i=>i.2)
    (fun _=>pt b5 (bY #[.slice none 0 0,vb false] 92)::pt b4 (bY #[.slice none 0 0] 29)::pt Z (.cells (edV e (.slice sp e.sides.length sc)<|.slice C e.pairs.length D) 58 (0,0))::pt Y (bY #[.slice p l.length c] 29)::s)
    (fun i=>i.1≤e.pairs.length∧Le g3 i.2∧(e.pairs.take i.1).any (fun p=>decide (nf l p.1≠nf l p.2))=false) (fun i=>e.pairs.length - i.1) (0,g3) sB rfl rfl ⟨zf9 _,zb9 _,rfl⟩ ?_
   rintro ⟨k3,g4⟩ ⟨v0,y,e0⟩;dsimp only at v0 y e0 ⊢;refine sQ<|sW I<|lU (fA a6 I kJ I)<|lK (qL (v:=.slice C e.pairs.length D) nB I<|cO 2 I I)<|lU (eN mM I)<|yL I<|tZ<|iP I (fun o1=>?_) (fun o1=>?_)
   ·have O:k3<e.pairs.length:=oM;have d:=za6 b9 oM;have M:=za5 Q y;have X:=i2.mono y;have A:e.pairs[((k3:Nat):Int).toNat]?=some e.pairs[k3]:=List.getElem?_eq_getElem O;have c1:e.pairs.take (k3+1)=e.pairs.take k3++[e.pairs[k3]]:=tS O;have c5:nf l e.pairs[k3].1≠nf l e.pairs[k3].2→e.pairs.any (fun p=>decide (nf l p.1≠nf l p.2))=true:=fun h=>zk2.2 ⟨_,gM O,zg2 h⟩;have c6:nf l e.pairs[k3].1=nf l e.pairs[k3].2→(e.pairs.take<|k3+1).any (fun p=>decide (nf l p.1≠nf l p.2))=false:=fun h=>by
     rw[c1,List.any_append,e0,Bool.false_or];simp[h]
    have a9:(e.pairs.take<|k3+1).all (iz l e.pairs)=((e.pairs.take k3).all (iz l e.pairs)&&iz l e.pairs e.pairs[k3]):=by
     rw[c1,List.all_append];simp
    have j2:=n2 e.pairs[k3].1;have l0:=n2 e.pairs[k3].2;generalize e.pairs[k3]=x at *;obtain ⟨H,J⟩:=x;dsimp only at c5 c6 j2 l0;have l1:iz l e.pairs (H,J)=decide (lQ ((ja l H).map<|kL<|byF e.pairs)=lQ ((ja l J).map<|kL<|byF e.pairs)):=rfl;generalize iz l e.pairs (H,J)=al at *;refine kP<|tN<|sQ<|bK<|SC.cut (ι:=Nat×PH×Rc) (fun i=>[(2,pp Y 0),(3,pp Z 0),(4,pp b4 0),(5,pp b5 0),(8,.slice qg (e.pairs.map Prod.snd).length dg),(12,vi (if (e.pairs.take k3).all (iz l e.pairs) then 0 else 33)),(13,vi k3),(14,pp i.1 0)]) (fun i=>i.2.1)
     (fun i=>pt i.1 (bY #[vi i.2.2.id,vi i.2.2.dim,.slice i.2.2.sv.p i.2.2.sv.n i.2.2.sv.c] 37)::pt b5 (bY #[.slice none 0 0,vb false] 92)::pt b4 (bY #[.slice none 0 0] 29)::pt Z (.cells (edV e (.slice sp e.sides.length sc)<|.slice C e.pairs.length D) 58 (0,0))::pt Y (bY #[.slice p l.length c] 29)::s)
     (fun i=>Le g4 i.2.1∧ak i.2.1 ((findC l H).getD aA) i.2.2) ?_ ?_
    ·refine SC.drawX [12] ze6 kR ?_;refine SX.q (i:=0) I kR (qV 3 aj ag I I I) dC<|SX.u (i:=1) I kR (fA a6 I kJ I) dC<|SX.q (i:=2) I kR (qL (v:=.slice C e.pairs.length D) nB I<|cO 2 I I) dC<|SX.u (i:=3) I kR (mV I) dC<|SX.u (i:=4) I kR (iA mM qk I I d oM sL) dC<|SX.u (i:=5) I kR (SU.indexAddrC qG zT3 I d I dC dC) dC<|SX.q (i:=6) I kR (aZ (e:=em) (o:=0) (u:=vi H) iT3 I (za7 M) A I) dC ?_
     repeat' (first
      | (refine SB.o (i:=7) rfl (SO.call call55 rfl<|bc E g4 _ _ l H X hf) dC (.inr (by rintro _ g5 _ ⟨rfl,t,r5,rfl,S⟩;exact⟨by assumption,(by exact .cons _<|.refl _)⟩)) ?_;rintro _ g5 _ ⟨rfl,t,r5,rfl,S⟩;refine SX.u (i:=8) I kD (mV I) dC ?_;refine SX.u (i:=9) I kD (xT I I) dC ?_;refine SX.u (i:=10) I kD (xT I I) dC ?_)
      | (refine SB.o (i:=7) rfl (SO.call call55 rfl<|bc E g4 _ _ l H X hf) dC (.inr (by rintro _ g5 _ ⟨rfl,t,r5,rfl,S⟩;exact⟨by assumption,(by exact .refl _)⟩)) ?_;rintro _ g5 _ ⟨rfl,t,r5,rfl,S⟩;refine SX.u (i:=8) I kD (mV I) dC ?_;refine SX.u (i:=9) I kD (xT I I) dC ?_;refine SX.u (i:=10) I kD (xT I I) dC ?_)
      | (refine SB.o (i:=11) rfl (aL zl8) dC (.inr (by rintro _ _ _ ⟨a2,rfl,rfl,rfl⟩;exact⟨by exact zb9 _,(by exact .cons _<|.refl _)⟩)) ?_;rintro _ _ _ ⟨a2,rfl,rfl,rfl⟩)
      | (refine SB.o (i:=11) rfl (aL zl8) dC (.inr (by rintro _ _ _ ⟨a2,rfl,rfl,rfl⟩;exact⟨by assumption,(by exact .cons _<|.refl _)⟩)) ?_;rintro _ _ _ ⟨a2,rfl,rfl,rfl⟩)
      | (refine SB.on (i:=12) I (sK 0 ar I I I I I sB) (.inl dC) ?_;rintro _ _ _ ⟨rfl,rfl⟩;refine SX.u (i:=13) I kD (aS I) dC ?_)
      | refine zd9 7 11 kD ?_ ?_
      | refine zd8 11 kD ?_
      | refine zd8 12 kD ?_
      | refine zd8 7 kD ?_
      | (refine SX.nil kD ?_;exact za9 (a2,g5,r5) sB I I ⟨t,S⟩))
    rintro ⟨a2,g5,r5⟩ ⟨t,S⟩;obtain ⟨v1,l2,l3,l4,m1⟩:=r5;obtain ⟨f1,f2,o2⟩:=S;dsimp only at t f1 f2 o2 ⊢;have p0:=X.mono t;have b1:=za5 M t;refine SC.cut (ι:=Nat×PH×Rc) (fun i=>[(2,pp Y 0),(3,pp Z 0),(4,pp b4 0),(5,pp b5 0),(8,.slice qg (e.pairs.map Prod.snd).length dg),(12,vi (if (e.pairs.take k3).all (iz l e.pairs) then 0 else 33)),(13,vi k3),(14,pp a2 0),(16,pp i.1 0)]) (fun i=>i.2.1)
     (fun i=>pt i.1 (bY #[vi i.2.2.id,vi i.2.2.dim,.slice i.2.2.sv.p i.2.2.sv.n i.2.2.sv.c] 37)::pt a2 (bY #[vi v1,vi l2,.slice l3 l4 m1] 37)::pt b5 (bY #[.slice none 0 0,vb false] 92)::pt b4 (bY #[.slice none 0 0] 29)::pt Z (.cells (edV e (.slice sp e.sides.length sc)<|.slice C e.pairs.length D) 58 (0,0))::pt Y (bY #[.slice p l.length c] 29)::s)
     (fun i=>Le g5 i.2.1∧ak i.2.1 ((findC l J).getD aA) i.2.2) ?_ ?_
    ·refine SC.drawX [12] ze6 kR ?_;refine SX.q (i:=0) I kR (qV 4 aj ag I I I) dC<|SX.u (i:=1) I kR (fA a6 I kJ I) dC<|SX.q (i:=2) I kR (qL (v:=.slice C e.pairs.length D) nB I<|cO 3 I I) dC<|SX.u (i:=3) I kR (mV I) dC<|SX.u (i:=4) I kR (iA mM qk I I d oM sL) dC<|SX.u (i:=5) I kR (SU.indexAddrC qG zT3 I d I dC dC) dC<|SX.q (i:=6) I kR (aZ (e:=em) (o:=1) (u:=vi J) iT3 I (za7 b1) A I) dC ?_
     repeat' (first
      | (refine SB.o (i:=7) rfl (SO.call call55 rfl<|bc E g5 _ _ l J p0 hf) dC (.inr (by rintro _ g6 _ ⟨rfl,f,r6,rfl,T⟩;exact⟨by assumption,(by exact .cons _<|.refl _)⟩)) ?_;rintro _ g6 _ ⟨rfl,f,r6,rfl,T⟩;refine SX.u (i:=8) I kD (mV I) dC ?_;refine SX.u (i:=9) I kD (xT I I) dC ?_;refine SX.u (i:=10) I kD (xT I I) dC ?_)
      | (refine SB.o (i:=7) rfl (SO.call call55 rfl<|bc E g5 _ _ l J p0 hf) dC (.inr (by rintro _ g6 _ ⟨rfl,f,r6,rfl,T⟩;exact⟨by assumption,(by exact .refl _)⟩)) ?_;rintro _ g6 _ ⟨rfl,f,r6,rfl,T⟩;refine SX.u (i:=8) I kD (mV I) dC ?_;refine SX.u (i:=9) I kD (xT I I) dC ?_;refine SX.u (i:=10) I kD (xT I I) dC ?_)
      | (refine SB.o (i:=11) rfl (aL zl8) dC (.inr (by rintro _ _ _ ⟨c7,rfl,rfl,rfl⟩;exact⟨by exact zb9 _,(by exact .cons _<|.refl _)⟩)) ?_;rintro _ _ _ ⟨c7,rfl,rfl,rfl⟩)
      | (refine SB.o (i:=11) rfl (aL zl8) dC (.inr (by rintro _ _ _ ⟨c7,rfl,rfl,rfl⟩;exact⟨by assumption,(by exact .cons _<|.refl _)⟩)) ?_;rintro _ _ _ ⟨c7,rfl,rfl,rfl⟩)
      | (refine SB.on (i:=12) I (sK 0 ar I I I I I sB) (.inl dC) ?_;rintro _ _ _ ⟨rfl,rfl⟩;refine SX.u (i:=13) I kD (aS I) dC ?_)
      | refine zd9 7 11 kD ?_ ?_
      | refine zd8 11 kD ?_
      | refine zd8 12 kD ?_
      | refine zd8 7 kD ?_
      | (refine SX.nil kD ?_;exact za9 (c7,g6,r6) sB I I ⟨f,T⟩))
    rintro ⟨c7,g6,r6⟩ ⟨f,T⟩;obtain ⟨y5,p1,p2,p3,p4⟩:=r6;obtain ⟨f3,f4,p5⟩:=T;dsimp only at f f3 f4 p5 ⊢;have v2:nf l H=l2:=by unfold nf;rw[f2]
    have v3:nf l J=p1:=by unfold nf;rw[f4]
    rw[v2,v3] at c5 c6;have p6:SlA encSide g6 (.slice l3 l4 m1) (ja l H):=za5 o2 f;have p7:SlA encSide g6 (.slice p2 p3 p4) (ja l J):=p5;have h6:=za5 b1 f;have V:=t.trans f;refine sQ<|rZ<|lU (fA ao I zT3 I)<|lK (qL (v:=vi l2) iT3 I<|cO 1 I I)<|lU (fA ao I zT3 I)<|lK (qL (v:=vi p1) iT3 I<|cO 0 I I)<|lU (nQ I I)<|tZ<|iP I (fun m2=>?_) (fun m2=>?_)
    ·rw[zg4<|c5 m2];exact rZ<|lK (qV 5 aj ag I I I)<|lU (za3 I buildZ92)<|oZ (sK 3 ag I I I I I sB)<|oZ (sK 2 bT I I I I I sB)<|aT I<|rE<|tR<|bR<|tR<|tR<|bR<|tR<|ST.retCCT 3 2 s (.inl I) results123 I I I aj ag gK bT I I I I uR ⟨I,N.trans<|y.trans V,_,_,_,_,I,X.mono V,fun h=>by cases h⟩
    ·have h7:=c6<|Decidable.not_not.1 m2;have b6:e.pairs.length<1099511627776:=oM;refine kP<|tN<|sQ<|dW [] [(0,2),(1,1),(2,2),(3,1),(5,2),(6,1),(7,2),(8,1),(4,0),(9,0),(10,0),(11,2)] ze6 kR<|pU I (fA ao I aI I)<|pK I (qL (v:=.slice l3 l4 m1) bi I<|cO 1 I I)<|pU I (fA a6 I kJ I)<|pK I (qL (v:=.slice C e.pairs.length D) nB I<|cO 4 I I)<|pU I (fA ao I aI I)<|pK I (qL (v:=.slice p2 p3 p4) bi I<|cO 0 I I)<|pU I (fA a6 I kJ I)<|pK I (qL (v:=.slice C e.pairs.length D) nB I<|cO 4 I I)<|SP.o I (SO.call call188 I<|gL E g6 _ _ _ (ja l H) e.pairs p6 j2 h6 b6) dC (.inr iR) ?_;rintro v137 g7 _ ⟨rfl,U,v4⟩;refine SP.o rfl (SO.call call188 rfl<|gL E g7 _ _ _ (ja l J) e.pairs (za5 p7 U) l0 (za5 h6 U) b6) dC (.inr (by rintro v142 g8 _ ⟨rfl,B,p9⟩;exact⟨by exact Le.trans io io,(by exact .refl _)⟩)) ?_;rintro v142 g8 _ ⟨rfl,B,p9⟩;have c9:=U.trans B;refine SP.o I (SO.call call187 I<|kQ E g8 _ _ _ _ _ (za5 v4 B) p9 (by rw[ze9];exact j2) (by rw[ze9];exact l0)) dC (.inr iR) ?_;rintro _ _ _ ⟨rfl,rfl,rfl⟩;rw[← l1];refine pU I (SU.not I)<|pN<|tN ?_;refine iQ I (fun hq=>?_) (fun hq=>?_)
     ·have m3:al=false:=by simpa using hq
      rw[m3,Bool.and_false] at a9;exact rG<|lA I<|SL.nil<|bN<|tN<|rG<|lM I<|yD I<|lA I<|SL.nil<|dR (.cons _<|.cons _<|.refl _)<|ST.again (k3+1,g8) ⟨I,I,I,I,I,(by rw[a9];rfl),rfl,trivial⟩ rfl rfl ⟨by dsimp only;omega,y.trans<|V.trans c9,h7⟩ (by dsimp only;omega)
     ·have m3:al=true:=by simpa using hq
      rw[m3,Bool.and_true] at a9;exact kP<|bN<|tN<|rG<|lM I<|yD I<|lA I<|SL.nil<|dR (.cons _<|.cons _<|.refl _)<|ST.again (k3+1,g8) ⟨I,I,I,I,I,(by rw[a9];rfl),rfl,trivial⟩ rfl rfl ⟨by dsimp only;omega,y.trans<|V.trans c9,h7⟩ (by dsimp only;omega)
   ·have q0:e.pairs.take k3=e.pairs:=tL oM;rw[q0] at e0 ⊢;rw[e0,zg3 Bool.false_ne_true];have X:=i2.mono y;have d0:=N.trans y;cases x9:e.pairs.all (iz l e.pairs) with
    | false =>
     have e33:(if false=true then (0:Int) else 33)=33:=rfl;rw[e33];exact xI<|tX<|tX<|bX<|tN<|sQ<|sW I<|lU (nQ I I)<|tZ<|za2 I<|rZ<|lK (qV 3 aj ag I I I)<|lU (za3 I buildZ92)<|lM I<|oZ (sK 1 ag I I I I I sB)<|oZ (sK 0 bT I I I I I sB)<|aT I<|rE<|tR<|ST.retCCT 1 0 s (.inl I) results123 I I I aj ag gK bT I I I I uR ⟨I,d0,_,_,_,_,I,X,fun h=>by cases h⟩
    | true =>
    have e00:(if true=true then (0:Int) else 33)=0:=rfl;rw[e00,zg4 rfl];have q1:(e.pairs.map Prod.snd).length<1099511627776:=by rw[ze9];omega
    have b6:e.pairs.length<1099511627776:=oM;have M:=za5 Q y;have q2:dw g4 (.slice qg (e.pairs.map Prod.snd).length dg) (e.pairs.map Prod.snd):=za5 h4 y;have q3:=gY hf<|e.pairs.map Prod.snd;have v5:∀ x∈cN l (e.pairs.map Prod.snd),x.sides.length<1099511627776:=fun x hx=>q3.2 x hx;have v6:((an l).map gJ).length<1099511627776:=by rw[ze9];exact (bU hf).1
    have v7:eE l e=(cN l<|e.pairs.map Prod.snd).map (Di<|byF e.pairs):=rfl;rw[v7];generalize v8:cN l (e.pairs.map Prod.snd)=R at *;refine xI<|tX<|tX<|bX<|tN<|sQ<|sW I<|lU (nQ I I)<|tZ<|za1 I<|kP<|tN<|rZ<|lK (qV 3 aj ag I I I)<|lM I<|lW (SO.call call184 I<|kY E g4 _ _ _ l (e.pairs.map Prod.snd) X hf q2 q1) ?_;rintro _ _ _ ⟨rfl,u5,W,rfl,a3,rfl⟩;rw[v8] at a3;refine zd4 fun ⟨w0,m4⟩=>?_;obtain ⟨q5,d5,rfl⟩:=ah (i:=0) m4 rfl;have v9:0<W.length→based (.slice q5 W.length d5)=true:=fun h=>(by obtain ⟨b0,c0,he⟩:=bw (i:=0) m4 rfl h;rw[he];rfl);clear m4 w0;refine bW (aL zm2) fun e4=>?_;refine oZ (sK 0 ag I I I I I sB) ?_;refine tZ<|sQ<|rZ<|aT I<|bK ?_;have y0:=a3.length;have y6:=q3.1;refine oP (ι:=Nat×PH×List Rc) (fun i=>[(2,pp Y 0),(3,pp Z 0),(4,pp b4 0),(5,pp b5 0),(18,pp e4 0),(19,vi i.1)]) (fun i=>i.2.1)
     (fun i=>pt e4 (bY #[.slice q5 W.length d5] 29)::rowA encCell 37 (.slice q5 W.length d5) i.2.2::pt b5 (bY #[.slice none 0 0,vb false] 92)::pt b4 (bY #[.slice none 0 0] 29)::pt Z (.cells (edV e (.slice sp e.sides.length sc)<|.slice C e.pairs.length D) 58 (0,0))::pt Y (bY #[.slice p l.length c] 29)::s)
     (fun i=>i.1≤R.length∧Le g4 i.2.1∧ax (ak i.2.1) ((R.take i.1).map (Di<|byF e.pairs)++R.drop i.1) i.2.2) (fun i=>R.length - i.1) (0,g4,W) sB rfl rfl ⟨zf9 _,zb9 _,a3⟩ ?_
    rintro ⟨k5,g5,ds⟩ ⟨w1,t,c2⟩;dsimp only at w1 t c2 ⊢;have w2:=c2.length;rw[ze8,ze9,ze7,zf3] at w2;refine sQ<|sW I<|lU (fA dj I cj I)<|lK (qL (v:=.slice q5 W.length d5) ef I<|cO 0 I I)<|lU (eN aC I)<|yL I<|tZ<|iP I (fun q4=>?_) (fun q4=>?_)
    ·have n0:k5<R.length:=oM;have q9:k5<ds.length:=oM;have f7:=v9 oM;have r0:ds[((k5:Nat):Int).toNat]?=some ds[k5]:=List.getElem?_eq_getElem q9;have w3:=c2.get (FH (Di (byF e.pairs)) n0) (List.getElem?_eq_getElem q9);have w5:=D1 (Di (byF e.pairs)) n0;have w6:=v5 _ (gM n0);have b1:=za5 M t;generalize ds[k5]=x at *;generalize R[k5]=cx at *;obtain ⟨xi,xd,xp,xn,xc⟩:=x;obtain ⟨e1,e2,h8⟩:=w3;dsimp only at e1 e2 h8;subst e1 e2;refine kP (tN (sQ (bK ?_)));refine dW [14] [(0,2),(1,1),(2,2),(3,2),(4,1),(5,2),(6,2),(7,2),(8,1),(9,2),(10,1),(11,0),(12,2),(13,2),(14,0)] ze6 kR<|pU I (fA dj I cj I) (pK I (qL (v:=.slice q5 W.length d5) ef I (cO 0 I I)) (yM I (pU I (fA dj I cj I) (pK I (qL (v:=.slice q5 W.length d5) ef I (cO 0 I I)) (yM I (pU I (iA aC ar I I f7 oM sL) (pU I (fC ao I aI I f7) (pK I (aZ (e:=encCell) (o:=2) bi I (zb7 1 I) r0 I) (pU I (fA a6 I kJ I) (pK I (qL (v:=.slice C e.pairs.length D) nB I (cO 4 I I)) (SP.o I (SO.call call188 I (gL E g5 _ _ _ cx.sides e.pairs h8 w6 b1 b6)) dC (.inr iR) ?_)))))))))));rintro v171 g6 _ ⟨rfl,f,r1⟩;obtain ⟨q6,d6,rfl⟩:=za4 r1;refine pU I (iA aC ar I I f7 oM sL) (pU I (fC ao I aI I f7) (SP.on I (SO.partA (e:=encCell) (a:=(⟨cx.id,cx.dim,⟨xp,xn,xc⟩⟩:Rc)) (j:=((k5:Nat):Int).toNat) (o:=2) 1 ⟨cx.id,cx.dim,⟨q6,(cx.sides.map (kL (byF e.pairs))).length,d6⟩⟩ aI I I I r0 I I dC I) (.inl dC) ?_));rintro _ _ _ ⟨rfl,rfl⟩;refine pN (bN (tN (rG (lM I (yD I (lA I (SL.nil ?_)))))));exact ST.again (k5+1,g6,ds.set k5 ⟨cx.id,cx.dim,⟨q6,(cx.sides.map (kL (byF e.pairs))).length,d6⟩⟩) sB I I ⟨by dsimp only;omega,t.trans f,by
      dsimp only;rw[w5];exact ax.set (R:=ak g6) (a:=Di (byF e.pairs) cx) ⟨I,I,r1⟩ k5 (c2.mono fun _ _=>ak.mono f)⟩ (by dsimp only;omega)
    ·have r2:R.take k5=R:=tL oM;have r3:R.drop k5=[]:=List.drop_eq_nil_of_le oM;rw[r2,r3,zc7] at c2;have r4:ds.length=W.length:=oM;rw[← r4];refine xI (tX<|tX<|bX<|tN<|sQ<|cP (zk4 _ _ _)<|zd6 fun g6 f w7=>?_);have w9:ai g6 (.slice q5 ds.length d5) (R.map<|Di<|byF e.pairs):=⟨ds,w7,c2.mono fun _ _=>ak.mono f⟩;have d1:=t.trans f;have x0:=X.mono d1;refine rG<|lK (qV 4 aj ag I I I)<|lW (SO.call call182 I<|fN E g6 _ _ l x0 hf) ?_;rintro _ g7 _ ⟨rfl,U,iv,rfl,h9⟩;obtain ⟨q7,n7,d7,rfl⟩:=h9.form;refine bW (aL zm5) fun r7=>oZ (sK 0 qm I I I I I sB)<|tZ<|sQ<|rZ<|aT I<|bK ?_;have d2:=d1.trans U;have r8:=za5 M d2;have x3:=w9.mono U;refine oP (ι:=Nat×PH×Option Addr×Nat×Nat) (fun i=>[(2,pp Y 0),(3,pp Z 0),(4,pp b4 0),(5,pp b5 0),(18,pp e4 0),(20,pp r7 0),(21,vi i.1)]) (fun i=>i.2.1)
      (fun i=>pt r7 (bY #[.slice i.2.2.1 i.2.2.2.1 i.2.2.2.2] 90)::pt e4 (bY #[.slice q5 ds.length d5] 29)::pt b5 (bY #[.slice none 0 0,vb false] 92)::pt b4 (bY #[.slice none 0 0] 29)::pt Z (.cells (edV e (.slice sp e.sides.length sc)<|.slice C e.pairs.length D) 58 (0,0))::pt Y (bY #[.slice p l.length c] 29)::s)
      (fun i=>i.1≤e.pairs.length∧Le g7 i.2.1∧Ims i.2.1 (.slice i.2.2.1 i.2.2.2.1 i.2.2.2.2) (fz (e.pairs.take i.1)<|(an l).map gJ)) (fun i=>e.pairs.length - i.1) (0,g7,q7,n7,d7) sB rfl rfl ⟨zf9 _,zb9 _,h9⟩ ?_
     rintro ⟨k8,g8,q8,n8,d8⟩ ⟨x4,B,b7⟩;dsimp only at x4 B b7 ⊢;refine sQ<|sW I<|lU (fA a6 I kJ I)<|lK (qL (v:=.slice C e.pairs.length D) nB I<|cO 4 I I)<|lU (eN mM I)<|yL I<|tZ<|iP I (fun r9=>?_) (fun r9=>?_)
     ·have O:k8<e.pairs.length:=oM;have d:=za6 b9 oM;have i0:=za5 r8 B;have A:e.pairs[((k8:Nat):Int).toNat]?=some e.pairs[k8]:=List.getElem?_eq_getElem O;have s2:=vJ O<|(an l).map gJ;generalize e.pairs[k8]=x at *;obtain ⟨H,J⟩:=x;dsimp only at s2;refine kP<|tN<|sQ<|bK<|dW [16] [(0,1),(1,2),(2,1),(3,2),(4,2),(5,2),(6,1),(7,2),(8,1),(9,2),(10,2),(11,2),(12,1),(13,0),(14,0),(15,0),(16,0)] ze6 kR<|pK I (qV 0 isAgg90 qm I I I)<|pU I (fA a6 I kJ I)<|pK I (qL (v:=.slice C e.pairs.length D) nB I<|cO 4 I I)<|yM I<|pU I (iA mM qk I I d oM sL)<|pU I (SU.indexAddrC qG zT3 I d I dC dC)<|pK I (aZ (e:=em) (o:=1) (u:=vi J) iT3 I (za7 i0) A I)<|pU I (fA a6 I kJ I)<|pK I (qL (v:=.slice C e.pairs.length D) nB I<|cO 4 I I)<|yM I<|pU I (iA mM qk I I d oM sL)<|pU I (SU.indexAddrC qG zT3 I d I dC dC)<|pK I (aZ (e:=em) (o:=0) (u:=vi H) iT3 I (za7 i0) A I)<|SP.o I (SO.call call185 I<|eH E g8 _ H 1<|.inr<|.inl I) dC (.inr iR) ?_;rintro _ g9 _ ⟨rfl,rfl,t0⟩;refine SP.o I (bS sty188 I I I (ae ⟨I,trivial⟩) dC) dC (.inr iR) ?_;rintro _ _ _ ⟨t1,rfl,rfl,rfl⟩;refine SP.freeze fun g10 n1 t2=>?_;have x5:SlA fu g10 (.slice (some ⟨t1,0,none⟩) 1 1) [(H,1)]:=SlA.lit t2 rfl rfl;have b8:=t0.trans n1;refine SP.o I (SO.call call186 I<|iV E g10 _ _ _ _ J _ (b7.mono b8) (by rw[wW];exact v6) x5) dC (.inr (by rintro _ g11 _ ⟨rfl,d3,x6,rfl,a4⟩;exact⟨by exact Le.trans io io,(by exact .refl _)⟩)) ?_;rintro _ g11 _ ⟨rfl,d3,x6,rfl,a4⟩;obtain ⟨x7,n11,d11,rfl⟩:=a4.form;refine SP.on I (sK 0 qm I I I I I sB) (.inl dC) ?_;rintro _ _ _ ⟨rfl,rfl⟩;refine pN<|bN<|tN<|rG<|lM I<|yD I<|lA I<|SL.nil ?_;exact ST.again (k8+1,g11,x7,n11,d11) sB I I ⟨by dsimp only;omega,B.trans<|b8.trans d3,by dsimp only;rw[s2];exact a4⟩ (by dsimp only;omega)
     ·have t3:e.pairs.take k8=e.pairs:=tL oM;rw[t3] at b7;have x8:=x3.mono B;refine xI<|tX<|tX<|bX<|tN<|sQ ?_;refine SC.drawX [3,4] ze6 kR ?_;refine SX.q (i:=0) I kR (qV 1 aj ag I I I) dC ?_
      repeat' (first
       | (refine SB.o (i:=1) rfl (SQ.sof<|qV 0 isAgg90 qm rfl rfl rfl) dC (.inr (by rintro _ _ _ ⟨rfl,rfl,rfl⟩;exact⟨by exact zb9 _,(by exact .refl _)⟩)) ?_;rintro _ _ _ ⟨rfl,rfl,rfl⟩;refine SX.u (i:=2) I kD (za3 I<|buildS92 _ _ _) dC ?_)
       | (refine SB.ob (i:=1) I (SQ.sof<|qV 0 isAgg90 qm I I I) dC kD ?_;rintro _ _ _ ⟨rfl,rfl,rfl⟩;refine SX.u (i:=2) I kD (za3 I<|buildS92 _ _ _) dC ?_)
       | (refine SB.on (i:=3) I (sK 3 ag I I I I I sB) (.inl dC) ?_;rintro _ _ _ ⟨rfl,rfl⟩)
       | (refine SB.on (i:=4) I (sK 2 bT I I I I I sB) (.inl dC) ?_;rintro _ _ _ ⟨rfl,rfl⟩;refine SX.u (i:=5) I kD (aS I) dC ?_)
       | refine zd9 1 3 kD ?_ ?_
       | refine zd8 3 kD ?_
       | refine zd8 4 kD ?_
       | refine zd8 1 kD ?_
       | (refine SX.nil kD ?_;refine tN ?_;refine rE ?_;exact ST.retCCT 3 2 s (.inl I) results123 I I I aj ag gK bT I I I I uR ⟨I,d0.trans (d2.trans B),_,_,_,_,I,x8,fun _=>b7⟩))
set_option maxHeartbeats 4000000
def tw (fv:Value)(e:Ed)(A:List Cl)(code:Int)(B:List Cl)(img:Int→List Tm)(bk:Bool):Prop :=
 ∀ (E:World) (g:PH) (s:Own) (bx mb ms:Nat) (u v:Value) (rs:List Rc),ai g u A→ax xS A rs→EdR g v e →
  cz Tryz.prog E fv [pp bx 0,v] g (edP bx u mb ms false::mp mb (rs.map ap)::mp ms []::(qq A rs++s)) (fun r g' s'=>Le g g'∧r=vi code∧(if code=0 then ∃ rs' ts,ax (ak g') B rs'∧E3 ts∧(ts.map Prod.fst).Nodup∧(∀ k,E1 ts k=img k)∧s'=edP bx u mb ms bk::mp mb (rs'.map ap)::mp ms (wi ts)::(f9 ts++s) else ∃ h,s'=h++s))
def F3 (k:Int):List Tm:=[(k,1)]
theorem sI.gen {c:Value}{e:Ed}{A:List Cl}{code:Int}{B:List Cl}{bk:Bool}(h:sI c e A code B bk):tw c e A code B F3 bk:=fun E g s bx f ms u v rs i j l=>by
 obtain ⟨n,cap,m,o,p⟩:=h E g s bx f ms u v rs i j l;refine⟨n,cap,m,o,p.mono ?_⟩;rintro r g' s' ⟨q,w,a⟩;refine⟨q,w,?_⟩;by_cases d:code=0
 ·rw[zg4 d] at a ⊢;obtain ⟨b,x,rfl⟩:=a;exact⟨b,[],x,fun t y=>by simp at y,List.nodup_nil,fun k=>I,I⟩
 ·rw[zg3 d] at a ⊢;exact a
def jg (g:PH)(code:Int)(D:List Cl)(ims:List (Int×List Tm))(bk:Bool)(r:Value)(g':PH):Prop:=∃ u p n c b,r = .tuple #[.agg #[u],.agg #[.slice p n c,vb b],vi code]∧fZ (mns g' g) u D∧(code=0→b=bk∧Ims g' (.slice p n c) ims)∧(code≠0→b=false∧Ims g' (.slice p n c) [])
theorem jg.old {g:PH}{code:Int}{D:List Cl}{a:List (Int×List Tm)}{bk:Bool}{r:Value}{g':PH}(h:jg g code D a bk r g'):fD code D a bk r g':=by
 obtain ⟨u,p,n,c,b,d,e,f⟩:=h;exact⟨u,p,n,c,b,d,e.cells<|fo _ _,f⟩
theorem fZ.nil (g:PH):fZ g (.slice none 0 0) []:=⟨[],RK.nil _ _ g,trivial⟩
theorem AJ (E:World)(g:PH)(s:Own)(v ev:Value)(l:List Cl)(e:Ed)(k:ai g v l)(m:aK l)(n:EdR g ev e)(d:List (Int×List Tm))(bk:Bool)(b:eu qF e.kind=none∨(aq l).2≠0) :
  Ctr Tryz.prog E 46 #[.agg #[v],ev] g s (fun r g' s'=>s=s'∧Le g g'∧jg g 1 [] d bk r g'):=by
 obtain ⟨z,hz⟩:=Tryz.mtyKinds;obtain ⟨sv,pv,rfl,f,i⟩:=n;obtain ⟨sp,q,rfl⟩:=za4 f;obtain ⟨t,u,rfl⟩:=za4 i;obtain ⟨p,c,rfl⟩:=k.form;refine zb2 (args:=[.agg #[.slice p l.length c],.agg #[vi e.kind,vi e.cell,vi e.dim,vi e.new,vi e.other,.slice sp e.sides.length q,.slice t e.pairs.length u]]) func46 I ntmps46 (bE I) ?_;cases hg:eu qF e.kind with
 | none =>
  refine rZ (bW (bO I) fun w=>?_);refine bW (bO I) fun x=>bW (aL zm2) fun y=>bW (aL zl7) fun A=>aT I<|sQ<|dW [] [(1,2),(2,1),(0,0),(3,0),(4,2),(5,2),(6,2),(7,2),(8,2)] ze6 kR<|pU I (fA a6 I zT3 I)<|pK I (qL iT3 I<|cO 2 I I)<|SP.o I (SO.call call101 I<|m0 E g _) dC (.inr iR) ?_;rintro _ g1 _ ⟨rfl,a,B,rfl,j⟩;refine oQ I (SQ.eq (v':=.tuple #[z,vb false]) (SQ.lookupOk hz I I<|bh.known j) (by rw[hg];rfl)) dC (.inr ⟨by assumption,(by exact .refl _)⟩) ?_;refine yM I<|pU I (xT I I)<|pU I (xT I I)<|pU I (aS I)<|pU I (aS I)<|pN<|tN<|sQ<|sW I<|lU (SU.not I)<|lM I<|yA I<|yA I<|yA I<|yP I<|tZ<|za2 I<|rZ<|lU (za3 I buildE29)<|lU (za3 I buildZ92)<|oZ (sK 1 ag I I I I I sB) ?_;refine oZ (sK 0 bT I I I I I sB) ?_;refine aT I<|rE<|tR ?_;exact ST.retCCT 1 0 s (.inl I) results46 I I I aj ag gK bT I I I I uR ⟨I,a,_,_,_,_,_,I,fZ.nil _,(fun h=>by cases h),fun _=>⟨I,Ims.nil _⟩⟩
 | some fv =>
  have hc:decide ((aq l).2=0)=false:=zg1 (by
   rcases b with h | h
   ·rw[hg] at h;cases h
   ·exact h)
  refine rZ (bW (bO I) fun w=>?_);refine bW (bO I) fun x=>bW (aL zm2) fun y=>bW (aL zl7) fun A=>aT I<|sQ<|dW [] [(1,2),(2,1),(0,0),(3,0),(4,2),(5,2),(6,2),(7,2),(8,2)] ze6 kR<|pU I (fA a6 I zT3 I)<|pK I (qL iT3 I<|cO 2 I I)<|SP.o I (SO.call call101 I<|m0 E g _) dC (.inr iR) ?_;rintro _ g1 _ ⟨rfl,a,B,rfl,j⟩;refine oQ I (SQ.eq (v':=.tuple #[fv,vb true]) (SQ.lookupOk hz I I<|bh.known j) (by rw[hg];rfl)) dC (.inr ⟨by assumption,(by exact .refl _)⟩) ?_;refine yM I<|pU I (xT I I)<|pU I (xT I I)<|pU I (aS I)<|pU I (aS I)<|pN<|tN<|sQ<|sW I<|lU (SU.not I)<|lM I<|SL.gq (gT I I I dC) (qV 3 aj ag I I I) dC<|ze4 (gT I I I dC) (SO.call call45 I<|mn E g1 _ _ l (k.mono a) m false hc) dC ?_;rintro _ _ _ ⟨rfl,rfl,rfl⟩;refine lY I I I (SU.not I)<|yF I<|tZ<|za2 I<|rZ<|lU (za3 I buildE29)<|lU (za3 I buildZ92)<|oZ (sK 1 ag I I I I I sB) ?_;refine oZ (sK 0 bT I I I I I sB) ?_;refine aT I<|rE<|tR ?_;exact ST.retCCT 1 0 s (.inl I) results46 I I I aj ag gK bT I I I I uR ⟨I,a,_,_,_,_,_,I,fZ.nil _,(fun h=>by cases h),fun _=>⟨I,Ims.nil _⟩⟩
theorem AI (E:World)(g:PH)(s:Own)(v ev:Value)(l:List Cl)(e:Ed)(Q:ai g v l)(R:aK l)(he:EdR g ev e)(hr:(aq l).2=0)(S:Value)(code:Int)(B:List Cl)(bk:Bool)(hg:eu qF e.kind=some S)(img:Int→List Tm)(F:tw S e (aa l) code B img bk)(hB:code=0→aK B∧(B.map Cl.id).Nodup) :
  Ctr Tryz.prog E 46 #[.agg #[v],ev] g s (fun r g' s'=>s=s'∧Le g g'∧jg g (aW code B).1 (aW code B).2 ((if bk then aa B else aa l).map fun c=>(c.id,img c.id)) bk r g'):=by
 obtain ⟨z,hz⟩:=Tryz.mtyKinds;have T:=he;obtain ⟨sv,pv,rfl,U,V⟩:=he;obtain ⟨sp,N,rfl⟩:=za4 U;obtain ⟨O,P,rfl⟩:=za4 V;obtain ⟨p,c,rfl⟩:=Q.form;have hc:decide ((aq l).2=0)=true:=zg2 hr;have W:((aa l).map Cl.id).Nodup:=by
  rw[List.Nodup,zk7];exact (iS hr).asc.imp fun h=>by omega
 have X:=aB R;refine zb2 (args:=[.agg #[.slice p l.length c],.agg #[vi e.kind,vi e.cell,vi e.dim,vi e.new,vi e.other,.slice sp e.sides.length N,.slice O e.pairs.length P]]) func46 I ntmps46 (bE I)<|rZ (bW (bO I) fun Y=>?_);refine bW (bO I) fun Z=>bW (aL zm2) fun b4=>bW (aL zl7) fun b5=>aT I<|sQ<|dW [] [(1,2),(2,1),(0,0),(3,0),(4,2),(5,2),(6,2),(7,2),(8,2)] ze6 kR<|pU I (fA a6 I zT3 I)<|pK I (qL iT3 I<|cO 2 I I)<|SP.o I (SO.call call101 I<|m0 E g _) dC (.inr iR) ?_;rintro _ g1 _ ⟨rfl,a,bq,rfl,hk⟩;refine oQ I (SQ.eq (v':=.tuple #[S,vb true]) (SQ.lookupOk hz I I<|bh.known hk) (by rw[hg];rfl)) dC (.inr ⟨by assumption,(by exact .refl _)⟩) ?_;refine yM I<|pU I (xT I I)<|pU I (xT I I)<|pU I (aS I)<|pU I (aS I)<|pN<|tN<|sQ<|sW I<|lU (SU.not I)<|lM I<|SL.gq (gT I I I dC) (qV 3 aj ag I I I) dC<|ze4 (gT I I I dC) (SO.call call45 I<|mn E g1 _ _ l (Q.mono a) R true hc) dC ?_;rintro _ _ _ ⟨rfl,rfl,rfl⟩;refine lY I I I (SU.not I)<|yF I<|tZ<|za1 I<|kP<|tN<|rZ<|lK (qV 3 aj ag I I I)<|lW (SO.call call102 I<|DR E g1 _ _ l (Q.mono a) R W) ?_;rintro _ g2 _ ⟨d,bx,u,q,ms,rs,rfl,hu,hO,rfl⟩;refine aT I<|sW I<|lM I<|lK (qV ((qq (aa l) rs).length+2+3) j4 eG I (by exact (uL (qq (aa l) rs) _ 2).trans I) I) ?_;refine lW (SO.callV I I<|F E g2 _ bx q ms u _ rs hu hO<|T.mono<|a.trans d) ?_;rintro _ g3 _ ⟨f,rfl,b⟩;by_cases j:code=0
 ·obtain ⟨G,a0⟩:=hB j;subst j;rw[zg4 rfl] at b;obtain ⟨H,D,J,a1,a2,K,rfl⟩:=b;refine SL.to (g':=g3) (s':=edP bx u q ms bk::mp q (H.map ap)::mp ms (wi D)::pt b5 (bY #[.slice none 0 0,vb false] 92)::pt b4 (bY #[.slice none 0 0] 29)::pt Z (bY #[vi e.kind,vi e.cell,vi e.dim,vi e.new,vi e.other,.slice sp e.sides.length N,.slice O e.pairs.length P] 58)::pt Y (bY #[.slice p l.length c] 29)::(f9 D++s)) (fun w hw=>hw.perm (((List.perm_append_comm_assoc (f9 D) [pt b5<|.cells #[.slice none 0 0,vb false] 92 (0,0),pt b4<|.cells #[.slice none 0 0] 29 (0,0),pt Z<|.cells #[vi e.kind,vi e.cell,vi e.dim,vi e.new,vi e.other,.slice sp e.sides.length N,.slice O e.pairs.length P] 58 (0,0),pt Y<|.cells #[.slice p l.length c] 29 (0,0)] s).cons _).cons _ |>.cons _)) ?_;have L:=aB G;have k:aW 0 B=if (aq<|aa B).2≠0 then ((aq<|aa B).2,[]) else (0,aa B):=rfl
  rw[k];refine aT I (rZ<|bW (aL zm2) fun t=>?_);refine tZ (sQ<|sW I<|yE I<|tZ<|za2 I<|sQ<|cP (List.perm_middle (l₁:=[pt t<|.cells #[.slice none 0 0] 29 (0,0),edP bx u q ms bk]))<|SC.freezeMap fun g4 i a3=>?_);refine rG<|lM I<|lW (SO.call call103 I<|zV E g4 _ bx q ms u bk B H (J.mono fun _ _=>ak.mono i) a0 G a3 1 I) ?_;rintro _ g5 _ ⟨rfl,m,u5,rfl,M⟩;have x:=M.cells<|fo _ _;obtain ⟨p5,c5,rfl⟩:=x.form;refine oZ (sK 0 ag I I I I I sB)<|tZ<|rG<|lK (qV 0 aj ag I I I)<|lW (SO.call call17 I<|kH E g5 _ _ (aa B) x L) ?_;rintro _ _ _ ⟨rfl,rfl,rfl⟩;refine lM I<|yX I<|yX I<|aT I<|sQ<|sW I<|lU (nQ I I)<|tZ<|iP I (fun y=>?_) (fun y=>?_)
  ·have A:(if (aq<|aa B).2≠0 then ((aq<|aa B).2,[]) else ((0:Int),aa B))=((aq<|aa B).2,[]):=zg4 y;rw[A];exact rZ<|lU (za3 I buildE29)<|lU (za3 I buildZ92)<|lM I<|oZ (sK 4 ag I I I I I sB)<|oZ (sK 3 bT I I I I I sB)<|aT I<|rE<|tR<|ST.retCCT 4 3 s (.inl I) results46 I I I aj ag gK bT I I I I (.cons _<|.cons _<|.cons _<|.cons _<|.cons _<|.cons _<|.cons _<|List.sublist_append_right _ _) ⟨I,a.trans<|d.trans<|f.trans<|i.trans m,_,_,_,_,_,I,fZ.nil _,fun h=>absurd h y,fun _=>⟨I,Ims.nil _⟩⟩
  ·have A:(if (aq<|aa B).2≠0 then ((aq<|aa B).2,[]) else ((0:Int),aa B))=(0,aa B):=zg3 y;rw[A];refine kP<|tN<|sQ<|SC.drawT 1 [4,5] [(0,1),(1,2),(2,1),(3,0),(4,0),(5,0),(6,2)] ze6 kR<|pK rfl (qV 0 aj ag rfl rfl rfl)<|yM rfl<|pK rfl (qV 0 aj ag rfl rfl rfl)<|SP.o rfl (SO.call call104 rfl<|B7 E g5 [pt t<|.cells #[.slice p5 (aa B).length c5] 29 (0,0),edP bx u q ms bk,mp ms<|wi D,pt b5<|.cells #[.slice none 0 0,vb false] 92 (0,0),pt b4<|.cells #[.slice none 0 0] 29 (0,0),pt Z<|.cells #[vi e.kind,vi e.cell,vi e.dim,vi e.new,vi e.other,.slice sp e.sides.length N,.slice O e.pairs.length P] 58 (0,0),pt Y<|.cells #[.slice p l.length c] 29 (0,0)] s bx q ms u _ bk (aa l) (aa B) D a1 a2 (hu.mono<|f.trans<|i.trans m) x X.1 L.1 1 2 rfl rfl) dC (.inr (by rintro _ g6 _ ⟨rfl,n,iv,rfl,C⟩;exact⟨by assumption,(by exact .cons_cons _<|List.nil_sublist _)⟩)) ?_;rintro _ g6 _ ⟨rfl,n,iv,rfl,C⟩;obtain ⟨p6,n6,c6,rfl⟩:=C.form;refine SP.on I (sK 4 ag I I I I I sB) (.inl dC) ?_;rintro _ _ _ ⟨rfl,rfl⟩;refine SP.on I (sK 3 bT I I I I I sB) (.inl dC) ?_;rintro _ _ _ ⟨rfl,rfl⟩;refine pU I (aS I)<|pN<|tN<|rE ?_;exact ST.retCCT 4 3 s (.inl I) results46 I I I aj ag gK bT I I I I uR ⟨I,a.trans<|d.trans<|f.trans<|i.trans<|m.trans n,_,_,_,_,_,I,(M.mono<|jV<|a.trans<|d.trans<|f.trans i).mono<|iw n,fun _=>⟨I,by rw[show (fun c:Cl=>(c.id,img c.id))=fun c:Cl=>(c.id,E1 D c.id) from funext fun c=>by rw[K]];exact C⟩,fun h=>absurd I h⟩
 ·rw[zg3 j] at b;obtain ⟨h,rfl⟩:=b;have k:aW code B=(code,[]):=zg4 j;rw[k];refine SL.drop (List.sublist_append_right _ _) (aT I<|rZ<|bW (aL zm2) fun t=>?_);refine tZ<|sQ<|sW I<|yE I<|tZ<|iP I (fun h0=>?_) (fun h0=>?_)
  ·exact absurd h0 j
  ·refine kP<|tN<|sQ<|sW I<|lU (nQ I I)<|tZ<|iP I (fun y=>?_) (fun y=>?_)
   ·exact rZ<|lU (za3 I buildE29)<|lU (za3 I buildZ92)<|lM I<|oZ (sK 2 ag I I I I I sB)<|oZ (sK 1 bT I I I I I sB)<|aT I<|rE<|tR<|ST.retCCT 2 1 s (.inl I) results46 I I I aj ag gK bT I I I I uR ⟨I,a.trans<|d.trans f,_,_,_,_,_,I,fZ.nil _,fun h=>absurd h j,fun _=>⟨I,Ims.nil _⟩⟩
   ·exact absurd j y
set_option maxHeartbeats 1000000
theorem Rt.findC {A:List Cl}(h:Rt A)(id:Int):findC A id=ab A id:=by
 unfold Go.Proofs.YtdepcjnaieflmaaGreatDoor.findC;rw[h.tab];rfl
theorem Rt.ids {A:List Cl}(h:Rt A):(A.map Cl.id).Nodup:=by
 rw[List.Nodup,zk7];exact h.asc.imp fun h=>by omega
theorem Rt.few64 {A:List Cl}(h:Rt A){c:Cl}(hc:c∈A):c.sides.length≤64:=(je (h.form c hc).ok).1
theorem Rt.signs {A:List Cl}(h:Rt A){c:Cl}(hc:c∈A):∀ x∈c.sides,x.sign=1∨x.sign = -1:=(h.form c hc).sg
theorem Rt.difS {A:List Cl}(h:Rt A){c:Cl}(hc:c∈A):(c.sides.map am.cell).Nodup:=by
 rw[List.Nodup,zk7];exact (h.form c hc).asc.imp fun h=>by omega
theorem Rt.getD {A:List Cl}(_:Rt A)(id:Int):((ab A id).getD aA)=aA∨((ab A id).getD aA)∈A:=by
 cases h:ab A id with
 | none=>exact .inl rfl
 | some c=>exact .inr (aH h).1
theorem Rt.fits {A:List Cl}(h:Rt A):aK A:=⟨by have:=h.few;omega,fun c hc=>by have:=h.few64 hc;omega⟩
theorem Rt.mem_above {A:List Cl}(h:Rt A){k id:Int}:id∈aF A k↔∃ c∈A,c.id=id∧n9 c k=true:=by
 unfold aF;rw[h.tab,zf5];constructor
 ·rintro ⟨c,hc,rfl⟩;obtain ⟨a,b⟩:=zh7.1 hc;exact⟨c,a,I,b⟩
 ·rintro ⟨c,a,rfl,b⟩;exact⟨c,zh7.2 ⟨a,b⟩,I⟩
theorem Rt.not_self {A:List Cl}(h:Rt A)(k:Int):k ∉ aF A k:=fun e=>by
 obtain ⟨c,hc,rfl,b⟩:=h.mem_above.1 e;unfold n9 at b;obtain ⟨x,f,g⟩:=zk2.1 b;obtain ⟨d,a,i⟩:=(h.form c hc).found x f;rw[zg6 g,h.find hc] at a;cases a;omega
theorem Rt.edge {A:List Cl}(h:Rt A){c:Cl}(hc:c∈A)(hd:c.dim=1):∃ z0 z1,c.sides=[z0,z1]∧((z0.sign=1∧z1.sign = -1)∨(z0.sign = -1∧z1.sign=1)):=by
 have a:=h.form c hc;have d:=a.cnt;have f:c.sides.length=2:=by
  unfold aO at d;simp[hd] at d;omega
 obtain ⟨z0,z1,b⟩:∃ z0 z1,c.sides=[z0,z1]:=by
  match g:c.sides,f with
  | [z0,z1],_=>exact⟨z0,z1,rfl⟩
 refine⟨z0,z1,b,?_⟩;have e:=a.one hd;have i:=a.sg z0 (by rw[b];simp);have j:=a.sg z1 (by rw[b];simp);rw[b] at e;simp[ne] at e;omega
theorem rY {A:List Cl}(h:Rt A)(e:Ed):cJ A e=sF A e:=by
 unfold cJ sF;rw[h.findC,h.findC,Bool.and_comm]
theorem xG {A:List Cl}(h:Rt A)(e:Ed):∀ x∈lG A e,x.sign=1∨x.sign = -1:=by
 unfold lG
 rcases h.getD e.other with a | a
 ·rw[a];intro x b;cases b
 ·exact h.signs a
theorem vU {A:List Cl}(h:Rt A)(e:Ed):(lG A e).length≤64:=by
 unfold lG
 rcases h.getD e.other with a | a
 ·rw[a];decide
 ·exact h.few64 a
theorem oH {k m:Int}{a x:List Tm}(h:m=k):dh k a (m,x)=(m,a):=zg4 h
theorem mc {k m:Int}{a x:List Tm}(h:¬ m=k):dh k a (m,x)=(m,x):=zg3 h
def Ba (A:List Cl)(e:Ed)(k:Int):List Tm:=if k=e.cell then fM A e else if k=e.other then [] else [(k,1)]
theorem AB {A:List Cl}(h:Rt A)(e:Ed)(f:aF A e.cell=[e.other]):(((an A).map gJ).map<|dh e.cell<|fM A e).map (dh e.other [])=A.map fun c=>(c.id,Ba A e c.id):=by
 have d:e.cell≠e.other:=fun g=>by
  have:=h.not_self e.cell;rw[f,g] at this;exact this dO
 rw[h.tab,zi8,zi8];refine zc9 fun c _=>?_;show dh e.other [] (dh e.cell (fM A e) (c.id,[(c.id,1)]))=_;unfold Ba;by_cases a:c.id=e.cell
 ·rw[oH a,mc (by rw[a];exact d),zg4 a]
 ·rw[mc a,zg3 a];by_cases b:c.id=e.other
  ·rw[oH b,zg4 b]
  ·rw[mc b,zg3 b]
theorem vG {A:List Cl}(h:Rt A)(e:Ed):bo A e=eR A e:=by
 unfold bo eR;rw[h.findC,h.findC,h.findC];have a:(e.new<1∨e.other<1∨e.new=e.other)↔(min e.new e.other<1∨e.new=e.other):=oM;simp only[a] <;> cases ab A e.cell <;> rfl
theorem uA {e:Ed}:∀ {S:List am},(S.map am.cell).Nodup→eL e S=if S.any (fun x=>decide (x.cell=e.cell)) then [⟨e.other,Gh S e.cell⟩] else []
 | [],_=>rfl
 | x::S,hn=>by
  rw[zg7,zk5] at hn;by_cases a:x.cell=e.cell
  ·have b:∀ y∈S,y.cell≠e.cell:=fun y c e'=>hn.1<|zf5.2 ⟨y,c,by rw[e',a]⟩;have d:S.filter (fun x=>decide (x.cell=e.cell))=[]:=List.filter_eq_nil_iff.2 fun y c=>by simp[b y c]
   unfold eL Gh;simp[a,d]
  ·have ih:=uA (e:=e) hn.2;unfold eL Gh at ih ⊢;simp[a] at ih ⊢;exact ih
theorem yv {c:Cl}:∀ {B:List Cl},(B.map Cl.id).Nodup→(∃ x∈B,x.id=c.id)→lV B c=B.map fun y=>if y.id=c.id then c else y
 | [],_,⟨x,d,_⟩=>by cases d
 | x::B,hn,d=>by
  rw[zg7,zk5] at hn;unfold lV;by_cases a:c.id=x.id
  ·rw[zg4 a,zg7,zg4 a.symm];congr 1;have:B.map (fun y=>if y.id=c.id then c else y)=B.map id:=zc9 fun y b=>by
    rw[zg3 fun e=>hn.1<|zf5.2 ⟨y,b,by rw[e,a]⟩];rfl
   rw[this,List.map_id]
  ·rw[zg3 a,zg7,zg3 fun e=>a e.symm];congr 1;refine yv hn.2 ?_;obtain ⟨y,b,f⟩:=d
   rcases zf4.1 b with rfl | b
   ·exact absurd f.symm a
   ·exact⟨y,b,f⟩
theorem yZ {A:List Cl}{k:Int}(h:(ab A k).isSome=false):∀ x∈A,x.id≠k:=fun x b c=>by
 have a:(ab A k).isSome=true:=by
  unfold ab;rw[List.find?_isSome];exact⟨x,b,by simpa using c⟩
 rw[h] at a;cases a
theorem Ei {S:List am}{z0 z1:am}(hl:S=[z0,z1])(h:(z0.sign=1∧z1.sign = -1)∨(z0.sign = -1∧z1.sign=1)):kN S true=⟨(kN S true).cell,1⟩∧kN S false=⟨(kN S false).cell,-1⟩:=by
 subst hl;obtain ⟨c,s0⟩:=z0;obtain ⟨c1,s1⟩:=z1
 rcases h with ⟨a,b⟩ | ⟨a,b⟩ <;> dsimp only at a b <;> subst a <;> subst b <;> exact⟨rfl,rfl⟩
theorem pw {A:List Cl}(h:Rt A)(e:Ed)(hc:eR A e=0):nG A e=A.map (bH e (kN ((findC A e.cell).getD aA).sides false).cell)++[⟨e.new,0,[]⟩,⟨e.other,1,[⟨e.new,-1⟩,⟨(kN ((findC A e.cell).getD aA).sides true).cell,1⟩]⟩]:=by
 rw[h.findC];unfold eR at hc;cases t:ab A e.cell with
 | none=>rw[t] at hc;cases hc
 | some c =>
 rw[t] at hc;dsimp only at hc;split at hc
 ·cases hc
 rename_i hd;split at hc
 ·cases hc
 rename_i q;split at hc
 ·cases hc
 rename_i o;rw[zj7,not_or,zk1,zk1] at o;have hd:c.dim=1:=Decidable.not_not.1 hd;obtain ⟨f,l⟩:=aH t;obtain ⟨z0,z1,hz,u⟩:=h.edge f hd;obtain ⟨G,H⟩:=Ei hz u;unfold nG;rw[t,Option.getD_some];generalize kN c.sides true=zt at *;generalize kN c.sides false=zf at *;have g:(gj A e<|aF A e.cell).map Cl.id=A.map Cl.id:=by
  unfold gj;rw[zi8];refine zc9 fun y _=>?_;show (if y.id∈aF A e.cell then wz e y else y).id=y.id;split <;> rfl
 have b:∀ k,(∃ x∈gj A e (aF A e.cell),x.id=k)→∃ x∈A,x.id=k:=fun k ⟨x,d,a⟩=>by
  have i:k∈(gj A e<|aF A e.cell).map Cl.id:=zf5.2 ⟨x,d,a⟩;rw[g] at i;obtain ⟨y,j,a⟩:=zf5.1 i;exact⟨y,j,a⟩
 have m:=yZ o.1;have n:=yZ o.2;have r:lV (gj A e<|aF A e.cell) ⟨e.new,0,[]⟩=gj A e (aF A e.cell)++[⟨e.new,0,[]⟩]:=nN fun x d a=>by
  obtain ⟨y,j,a⟩:=b e.new ⟨x,d,a⟩;exact m y j a
 have s:lV (gj A e (aF A e.cell)++[⟨e.new,0,[]⟩]) ⟨e.other,1,[⟨e.new,-1⟩,zt]⟩=(gj A e (aF A e.cell)++[⟨e.new,0,[]⟩])++[⟨e.other,1,[⟨e.new,-1⟩,zt]⟩]:=nN fun x d a=>by
  rcases zf6.1 d with d | d
  ·obtain ⟨y,j,a⟩:=b e.other ⟨x,d,a⟩;exact n y j a
  ·simp at d;subst d;exact q<|.inr a
 have v:e.cell≠e.new:=fun a=>m c f (by rw[l,a]);have w:e.cell≠e.other:=fun a=>n c f (by rw[l,a]);have B:(((gj A e (aF A e.cell)++[(⟨e.new,0,[]⟩:Cl)])++[(⟨e.other,1,[⟨e.new,-1⟩,zt]⟩:Cl)]).map Cl.id).Nodup:=by
  rw[← s,← r];exact kC<|kC (by rw[g];exact h.ids)
 rw[r,s,yv B]
 ·rw[zg8,zg8,zh2];congr 1
  ·unfold gj;rw[zi8];refine zc9 fun y j=>?_;show (if (if y.id∈aF A e.cell then wz e y else y).id=e.cell then _ else _)=_;have C:(if y.id∈aF A e.cell then wz e y else y).id=y.id:=by split <;> rfl
   rw[C];unfold bH;by_cases i:y.id=e.cell
   ·have D:y=c:=h.same j f (by rw[i,l]);subst D;rw[zg4 i,zg4 i,i,hd,H]
   ·rw[zg3 i,zg3 i,uA<|h.difS j];by_cases p:n9 y e.cell=true
    ·have E:y.id∈aF A e.cell:=h.mem_above.2 ⟨y,j,rfl,p⟩;unfold n9 at p;rw[zg4 E,zg4 p];rfl
    ·have E:y.id ∉ aF A e.cell:=fun J=>by
      obtain ⟨z,hz,a,F⟩:=h.mem_above.1 J;rw[h.same hz j a] at F;exact p F
     unfold n9 at p;rw[zg3 E,zg3 p,zc7]
  ·simp only[zg7,List.map_nil,List.cons_append,List.nil_append];rw[zg3 (by exact fun a=>v a.symm),zg3 (by exact fun a=>w a.symm),G]
 ·have i:e.cell∈(gj A e<|aF A e.cell).map Cl.id:=by
   rw[g];exact zf5.2 ⟨c,f,l⟩
  obtain ⟨x,d,a⟩:=zf5.1 i;exact (by exact⟨x,List.mem_append_left _<|List.mem_append_left _ d,a⟩)
theorem ShC.refl (c:Cl):ShC c c:=⟨rfl,rfl,.refl _⟩
theorem DB {A:List Cl}(h:Rt A)(e:Ed)(hc:eR A e=0):ShL (nG A e) (dQ A e):=by
 refine⟨dQ A e,?_,?_⟩
 ·rw[pw h e hc];exact List.perm_append_comm
 ·have:∀ l:List Cl,ax ShC l l:=fun l=>by
   induction l with
   | nil=>trivial
   | cons x l ih=>exact⟨ShC.refl x,ih⟩
  exact this _
def sV (e:Ed)(k:Int):List Tm:=if k=e.cell then dy e else [(k,1)]
theorem vF {A:List Cl}(h:Rt A)(e:Ed):((an A).map gJ).map (dh e.cell<|dy e)=A.map fun c=>(c.id,sV e c.id):=by
 rw[h.tab,zi8];refine zc9 fun c _=>?_;show dh e.cell (dy e) (c.id,[(c.id,1)])=_;unfold sV;by_cases a:c.id=e.cell
 ·rw[oH a,zg4 a]
 ·rw[mc a,zg3 a]
theorem ny {A:List Cl}(h:Rt A)(e:Ed):dx A e=jK A e:=by
 have a:nf A=Dg A:=funext fun id=>by unfold nf Dg;rw[h.findC]
 have b:ja A=wA A:=funext fun id=>by unfold ja wA;rw[h.findC]
 have c:iz A e.pairs=Bc A e.pairs:=funext fun p=>by unfold iz Bc;rw[b]
 have d:(fun p:Pr=>(findC A p.1).isSome&&(findC A p.2).isSome)=fun p=>(ab A p.1).isSome&&(ab A p.2).isSome:=funext fun p=>by rw[h.findC,h.findC]
 unfold dx jK;rw[a,c,d]
theorem D8 (A:List Cl)(e:Ed):ShL (jW A e) (eE A e):=by
 refine⟨jW A e,.refl _,?_⟩;unfold jW eE;have:cN A (e.pairs.map Prod.snd)=tC A (e.pairs.map Prod.snd):=rfl;rw[this];generalize tC A (e.pairs.map Prod.snd)=l;induction l with
 | nil=>trivial
 | cons c l ih=>exact⟨⟨rfl,rfl,iU _⟩,ih⟩
theorem sZ {k:Int}:∀ {ps:List Pr} (a:List Tm),(ps.map Prod.snd).Nodup→ps.foldl (fun p q=>dh q.2 [(q.1,1)] p) (k,a)=(k,match byF ps k with | some t=>[(t,1)] | none=>a)
 | [],_,_=>rfl
 | q::ps,a,hn=>by
  rw[zg7,zk5] at hn;rw[zj2];by_cases b:k=q.2
  ·have c:dh q.2 [(q.1,1)] (k,a)=(k,[(q.1,1)]):=zg4 b;have f:byF ps k=none:=by
    unfold byF;rw[Option.map_eq_none_iff,List.find?_eq_none];intro p hp g;exact hn.1<|zf5.2 ⟨p,hp,by rw[← b];simpa using g⟩
   have d:byF (q::ps) k=some q.1:=by unfold byF;rw[List.find?_cons_of_pos (by simpa using b.symm)];rfl
   rw[c,sZ _ hn.2,f,d]
  ·have c:dh q.2 [(q.1,1)] (k,a)=(k,a):=zg3 b;have d:byF (q::ps) k=byF ps k:=by unfold byF;rw[List.find?_cons_of_neg (by simpa using fun e=>b e.symm)]
   rw[c,sZ _ hn.2,d]
theorem pz:∀ (ps:List Pr) (M:List (Int×List Tm)),fz ps M=M.map fun p=>ps.foldl (fun p q=>dh q.2 [(q.1,1)] p) p
 | [],M=>by simp[fz]
 | q::ps,M=>by
  have a:fz (q::ps) M=fz ps (M.map<|dh q.2 [(q.1,1)]):=rfl;rw[a,pz ps,zi8];rfl
theorem vQ {A:List Cl}(h:Rt A)(e:Ed)(hd:zG e.pairs=false):fz e.pairs ((an A).map gJ)=A.map fun c=>(c.id,tg e c.id):=by
 have hn:(e.pairs.map Prod.snd).Nodup:=tK (by
  unfold zG at hd;rw[decide_eq_false_iff_not,Decidable.not_not] at hd;exact hd)
 rw[h.tab,pz,zi8];refine zc9 fun c _=>?_;show e.pairs.foldl (fun p q=>dh q.2 [(q.1,1)] p) (c.id,[(c.id,1)])=_;rw[sZ _ hn];unfold tg;cases byF e.pairs c.id <;> rfl
theorem CJ {A:List Cl}{e:Ed}(h:jK A e=0):zG e.pairs=false:=by
 unfold jK at h;split at h
 ·split at h
  ·cases h
  ·rename_i a;simpa using a
 ·cases h
set_option maxHeartbeats 2000000
def bG (A:List Cl)(e:Ed):Int:=if e.kind=1 then ia A e else if e.kind=2 then kB A e else if e.kind=3 then eR A e else if e.kind=4 then jK A e else if e.kind=5 then sF A e else 1
def cG (A:List Cl)(e:Ed):List Cl:=if e.kind=1 then A++[⟨e.cell,e.dim,e.sides⟩] else if e.kind=2 then cN A [e.cell] else if e.kind=3 then dQ A e else if e.kind=4 then eE A e else cN A [e.cell,e.other]
def zF (A:List Cl)(e:Ed)(k:Int):List Tm:=if e.kind=3 then sV e k else if e.kind=4 then tg e k else if e.kind=5 then Ba A e k else [(k,1)]
def bkK (e:Ed):Bool:=decide (e.kind=2)
def dT (l:List Cl)(e:Ed):Int×List Cl:=if (aq l).2=0 then aW (bG (aa l) e) (cG (aa l) e) else (1,[])
def AY (l:List Cl)(e:Ed):List (Int×List Tm):=(if bkK e then (dT l e).2 else aa l).map fun c=>(c.id,zF (aa l) e c.id)
theorem fD.congr {code:Int}{D:List Cl}{d a:List (Int×List Tm)}{bk e:Bool}{r:Value}{g:PH}(h:fD code D d bk r g)(j:code=0→d=a)(hb:code=0→bk=e):fD code D a e r g:=by
 obtain ⟨u,p,n,c,b,k,l,m,o⟩:=h;refine⟨u,p,n,c,b,k,l,fun f=>?_,o⟩;obtain ⟨q,i⟩:=m f;rw[j f] at i;exact⟨q.trans<|hb f,i⟩
theorem Cf {A:List Cl}(hn:(A.map Cl.id).Nodup)(a:Int):AZ A a=cN A [a]:=by
 have b:A=tC A []:=(List.filter_eq_self.2 fun _ _=>by simp).symm;have:=Ch hn [] a;rw[← b] at this;exact this
theorem Cg {A:List Cl}(hn:(A.map Cl.id).Nodup)(a:List Int):((cN A a).map Cl.id).Nodup:=(List.filter_sublist.map Cl.id).nodup hn
theorem ux {A:List Cl}(h:Rt A)(d:List Int):aa (cN A d)=cN A d∧an (cN A d)=cN A d:=by
 have f:(cN A d).Pairwise fun a b=>a.id<b.id:=h.asc.sublist List.filter_sublist;have e:aa (cN A d)=cN A d:=by
  unfold aa;rw[(bI (key:=Cl.id) (f.imp fun h=>by omega)<|aJ.refl _).symm];have:∀ c∈cN A d,co c=c:=fun c hc=>by
   unfold co;rw[(bI (key:=am.cell) ((h.form c (zh7.1 hc).1).asc.imp fun h=>by omega)<|aJ.refl c.sides).symm]
  rw[zc9 this];simp
 exact⟨e,by rw[bQ (by rw[e];exact f),e]⟩
theorem zP {A:List Cl}(h:Rt A)(e:Ed)(hc:eR A e=0):aK (nG A e):=by
 rw[pw h e hc];have hl:=h.few;refine⟨by simp only[ze8,ze9,zf2,zc5];omega,fun c hc=>?_⟩
 rcases zf6.1 hc with hc | hc
 ·obtain ⟨y,a,rfl⟩:=zf5.1 hc;have b:=h.few64 a;have d:(eL e y.sides).length≤y.sides.length:=by unfold eL;rw[ze9];exact zc6 _ _
  unfold bH;split
  ·simp
  ·simp only[ze8];omega
 ·simp at hc
  rcases hc with rfl | rfl <;> simp
theorem Au {A:List Cl}(a:aK A)(e:Ed):aK (jW A e):=by
 refine⟨?_,fun c hc=>?_⟩
 ·unfold jW;rw[ze9];exact Nat.lt_of_le_of_lt (zc6 _ _) a.1
 ·unfold jW at hc;obtain ⟨y,b,rfl⟩:=zf5.1 hc;have d:=a.2 y (zh7.1 b).1;show (lQ<|y.sides.map<|kL<|byF e.pairs).length<_;rw[(iU _).length_eq,ze9];exact d
theorem AG {A:List Cl}{e:Ed}(h:ia A e=0):lV A ⟨e.cell,e.dim,e.sides⟩=A++[⟨e.cell,e.dim,e.sides⟩]:=by
 refine nN fun x b a=>?_;unfold ia at h;have c:(ab A e.cell).isSome=true:=by
  unfold ab;rw[List.find?_isSome];exact⟨x,b,by simpa using a⟩
 rw[c] at h;cases h
def Fa (A:List Cl)(e:Ed):Prop :=
  ∃ fv B,eu qF e.kind=some fv∧tw fv e A (bG A e) B (zF A e) (bkK e)∧(bG A e=0→aK B∧(B.map Cl.id).Nodup∧aW 0 B=aW 0 (cG A e))
theorem CD {A:List Cl}(hA:Rt A)(e:Ed)(a:e.sides.length<1099511627776)(b:e.kind=1∨e.kind=2):Fa A e:=by
 unfold Fa bG zF bkK cG;have f:(fun k:Int=>[(k,(1:Int))])=F3:=rfl
 rcases b with b | b <;> simp only[b] <;> simp only[Int.reduceEq,if_true,if_false,decide_true,decide_false]
 ·refine⟨_,lV A ⟨e.cell,e.dim,e.sides⟩,I,(AF A e a).gen,fun d=>?_⟩;have hB:=AG d;refine⟨?_,kC hA.ids,by rw[hB]⟩;rw[hB];have hl:=hA.few;refine⟨by rw[ze8,zf1];omega,fun c hc=>?_⟩
  rcases zf6.1 hc with hc | hc
  ·exact hA.fits.2 c hc
  ·simp at hc;subst hc;exact a
 ·refine⟨_,AZ A e.cell,I,(zY A hA.fits e).gen,fun d=>?_⟩;rw[Cf hA.ids];exact⟨gY hA.fits _,Cg hA.ids _,I⟩
theorem AC {A:List Cl}{e:Ed}(a:¬ (e.kind=1∨e.kind=2∨e.kind=3∨e.kind=4∨e.kind=5)):bG A e=1:=by
 unfold bG;rw[zg3 oM,zg3 oM,zg3 oM,zg3 oM,zg3 oM]
theorem jg.congr {g0:PH}{code:Int}{D:List Cl}{d a:List (Int×List Tm)}{bk e:Bool}{r:Value}{g:PH}(h:jg g0 code D d bk r g)(j:code=0→d=a)(hb:code=0→bk=e):jg g0 code D a e r g:=by
 obtain ⟨u,p,n,c,b,k,l,m,o⟩:=h;refine⟨u,p,n,c,b,k,l,fun f=>?_,o⟩;obtain ⟨q,i⟩:=m f;rw[j f] at i;exact⟨q.trans<|hb f,i⟩
theorem C3 (E:World)(g:PH)(s:Own)(v ev:Value)(l:List Cl)(e:Ed)(k:ai g v l)(m:aK l)(n:EdR g ev e)(hr:(aq l).2=0)(o:Fa (aa l) e) :
  Ctr Tryz.prog E 46 #[.agg #[v],ev] g s (fun r g' s'=>s=s'∧Le g g'∧jg g (dT l e).1 (dT l e).2 (AY l e) (bkK e) r g'):=by
 have hA:=iS hr;have d:dT l e=aW (bG (aa l) e) (cG (aa l) e):=zg4 hr;obtain ⟨p,B,q,t,f⟩:=o;have b:aW (bG (aa l) e) B=dT l e:=by
  rw[d];by_cases a:bG (aa l) e=0
  ·rw[a];exact (f a).2.2
  ·unfold aW;rw[zg4 a,zg4 a]
 have u:=AI E g s v ev l e k m n hr p (bG (aa l) e) B (bkK e) q (zF (aa l) e) t (fun a=>⟨(f a).1,(f a).2.1⟩);refine u.mono fun r g' s' ⟨w,x,j⟩=>⟨w,x,?_⟩;rw[b] at j;refine j.congr (fun a=>?_) fun _=>I;have y:aa B=(dT l e).2:=by
  rw[← b] at a ⊢;unfold aW at a ⊢;split at a
  ·rename_i i;exact absurd a i
  ·rename_i i;rw[zg3 i];split at a
   ·rename_i c;exact absurd a c
   ·rename_i c;rw[zg3 c]
 unfold AY;rw[y]
theorem C4 (E:World)(g:PH)(s:Own)(v ev:Value)(l:List Cl)(e:Ed)(c:ai g v l)(d:aK l)(f:EdR g ev e)(b:e.sides.length<1099511627776)(i:e.kind=1∨e.kind=2) :
  Ctr Tryz.prog E 46 #[.agg #[v],ev] g s (fun r g' s'=>s=s'∧Le g g'∧jg g (dT l e).1 (dT l e).2 (AY l e) (bkK e) r g'):=by
 by_cases hr:(aq l).2=0
 ·exact C3 E g s v ev l e c d f hr<|CD (iS hr) e b i
 ·have a:dT l e=(1,[]):=zg3 hr;rw[a];exact AJ E g s v ev l e c d f _ _<|.inr hr
def FX (e:Ed):Prop:=∀ (E:World) (g:PH) (s:Own) (v ev:Value) (l:List Cl),ai g v l→aK l→EdR g ev e →
  Ctr Tryz.prog E 46 #[.agg #[v],ev] g s (fun r g' s'=>s=s'∧Le g g'∧fD (dT l e).1 (dT l e).2 (AY l e) (bkK e) r g')
theorem FQ {e:Ed}(a:e.sides.length<1099511627776)(b:e.kind=1∨e.kind=2):FX e:=fun E g s v ev l c d f =>
 (C4 E g s v ev l e c d f a b).mono fun _ _ _ ⟨i,j,k⟩=>⟨i,j,k.old⟩
theorem md (E:World)(g:PH)(s:Own)(v ev:Value)(l:List Cl)(e:Ed)(j:ai g v l)(w:aK l)(k:EdR g ev e)(B:e.sides.length<1099511627776)(J:e.pairs.length<100000000000) :
  Ctr Tryz.prog E 78 #[.agg #[v],ev] g s (fun r g' s'=>s=s'∧Le g g'∧fD (dT l e).1 (dT l e).2 (AY l e) (bkK e) r g'):=by
 by_cases hr:(aq l).2=0
 ·have hA:=iS hr;have d:=hA.fits;have x:dT l e=aW (bG (aa l) e) (cG (aa l) e):=zg4 hr;by_cases a:e.kind=1∨e.kind=2∨e.kind=3∨e.kind=4∨e.kind=5
  ·have m:∀ (D:List Cl) (y:List (Int×List Tm)) (bk:Bool) (r:Value) (g':PH),D=(if bG (aa l) e=0 then cG (aa l) e else aa l)→(bG (aa l) e=0→y=(if bkK e then an (cG (aa l) e) else aa l).map fun c=>(c.id,zF (aa l) e c.id))→(bG (aa l) e=0→bk=bkK e)→(bkK e=true→bG (aa l) e=0→an (cG (aa l) e)=aa (cG (aa l) e)) →
     fD (aW (bG (aa l) e) D).1 (aW (bG (aa l) e) D).2 y bk r g'→fD (dT l e).1 (dT l e).2 (AY l e) (bkK e) r g':=fun D y bk r g' O P hb Q p=>by
    have n:aW (bG (aa l) e) D=dT l e:=by
     rw[x,O];by_cases b:bG (aa l) e=0
     ·rw[zg4 b]
     ·unfold aW;rw[zg4 b,zg4 b]
    rw[n] at p;have C:(dT l e).1=0→bG (aa l) e=0∧(dT l e).2=aa (cG (aa l) e):=fun b=>by
     rw[x] at b ⊢;unfold aW at b ⊢;split at b
     ·rename_i H;exact absurd b H
     ·rename_i H;rw[zg3 H];split at b
      ·rename_i z;exact absurd b z
      ·rename_i z;rw[zg3 z];exact⟨Decidable.not_not.1 H,I⟩
    refine p.congr (fun b=>?_) fun b=>hb (C b).1;obtain ⟨N,R⟩:=C b;rw[P N];unfold AY;rw[R];cases K:bkK e with
    | false=>rfl
    | true=>rw[zg4 rfl,zg4 rfl,Q K N]
   have q:aK (if bG (aa l) e=0 then cG (aa l) e else aa l):=by
    split
    ·rename_i b
     rcases a with a | a | a | a | a <;> unfold cG <;> simp only[a] <;> simp only[Int.reduceEq,if_true,if_false]
     ·have hl:=hA.few;refine⟨by rw[ze8,zf1];omega,fun c hc=>?_⟩
      rcases zf6.1 hc with hc | hc
      ·exact d.2 c hc
      ·simp at hc;subst hc;exact B
     ·exact gY d _
     ·have F:eR (aa l) e=0:=by unfold bG at b;simp only[a] at b;simpa using b
      exact (DB hA e F).fits<|zP hA e F
     ·exact (D8 _ e).fits<|Au d e
     ·exact gY d _
    ·exact d
   rcases a with a | a | a | a | a
   ·have f:bG (aa l) e=ia (aa l) e:=by unfold bG;rw[zg4 a]
    have i:cG (aa l) e=aa l++[⟨e.cell,e.dim,e.sides⟩]:=by unfold cG;rw[zg4 a]
    have h:=gv E g s v ev l e (bG (aa l) e) (if bG (aa l) e=0 then cG (aa l) e else aa l) ((an<|aa l).map gJ) false j w k hr q (.inl a)
     (fun _ E g s v ev j k=>by rw[i];exact qR E g s v ev (aa l) e j d k B (bG (aa l) e) (by rw[f,hA.findC];rfl))
     (fun h=>by omega) (fun h=>by omega) (fun h=>by omega) (fun h=>by omega)
    refine h.mono fun r g' s' ⟨t,u,p⟩=>⟨t,u,m _ _ _ _ _ I (fun _=>?_) (fun _=>?_) (fun hb=>?_) p⟩
    ·have hb:bkK e=false:=by unfold bkK;rw[a];rfl
     rw[hb,hA.tab];refine zc9 fun c _=>?_;unfold zF;rw[zg3 oM,zg3 oM,zg3 oM];rfl
    ·unfold bkK;rw[a];rfl
    ·unfold bkK at hb;rw[a] at hb;cases hb
   ·have f:bG (aa l) e=kB (aa l) e:=by unfold bG;rw[zg3 oM,zg4 a]
    have i:cG (aa l) e=cN (aa l) [e.cell]:=by unfold cG;rw[zg3 oM,zg4 a]
    have h:=gv E g s v ev l e (bG (aa l) e) (if bG (aa l) e=0 then cG (aa l) e else aa l) ((an<|cN (aa l) [e.cell]).map gJ) (decide (bG (aa l) e=0)) j w k hr q (.inr<|.inl a)
     (fun h=>by omega)
     (fun _ E g s v ev j k=>by rw[i];exact qQ E g s v ev (aa l) e j d k (bG (aa l) e) (by rw[f,hA.findC];rfl))
     (fun h=>by omega) (fun h=>by omega) (fun h=>by omega)
    have hb:bkK e=true:=by unfold bkK;rw[a];rfl
    refine h.mono fun r g' s' ⟨t,u,p⟩=>⟨t,u,m _ _ _ _ _ I (fun _=>?_) (fun b=>?_) (fun hb b=>?_) p⟩
    ·rw[hb,zg4 rfl,i];refine zc9 fun c _=>?_;unfold zF;rw[zg3 oM,zg3 oM,zg3 oM];rfl
    ·rw[hb];exact zg2 b
    ·rw[i,(ux hA _).1,(ux hA _).2]
   ·have f:bG (aa l) e=bo (aa l) e:=by unfold bG;rw[zg3 oM,zg3 oM,zg4 a,vG hA]
    have i:cG (aa l) e=dQ (aa l) e:=by unfold cG;rw[zg3 oM,zg3 oM,zg4 a]
    have h:=gv E g s v ev l e (bG (aa l) e) (if bG (aa l) e=0 then cG (aa l) e else aa l) (((an<|aa l).map gJ).map<|dh e.cell<|dy e) false j w k hr q (.inr<|.inr<|.inl a)
     (fun h=>by omega) (fun h=>by omega)
     (fun _ E g s v ev j k=>by
      rw[i,f];refine tP E g s v ev (aa l) e j d k (by have:=hA.few;omega) (fun c hc=>hA.few64 hc) ?_;intro c hc hd;rw[hA.findC] at hc;exact hA.edge (aH hc).1 hd)
     (fun h=>by omega) (fun h=>by omega)
    have hb:bkK e=false:=by unfold bkK;rw[a];rfl
    refine h.mono fun r g' s' ⟨t,u,p⟩=>⟨t,u,m _ _ _ _ _ I (fun _=>?_) (fun _=>hb.symm) (fun o=>by rw[hb] at o;cases o) p⟩;rw[hb,vF hA];refine zc9 fun c _=>?_;unfold zF;rw[zg4 a]
   ·have f:bG (aa l) e=dx (aa l) e:=by unfold bG;rw[zg3 oM,zg3 oM,zg3 oM,zg4 a,ny hA]
    have i:cG (aa l) e=eE (aa l) e:=by unfold cG;rw[zg3 oM,zg3 oM,zg3 oM,zg4 a]
    have h:=gv E g s v ev l e (bG (aa l) e) (if bG (aa l) e=0 then cG (aa l) e else aa l) (fz e.pairs<|(an<|aa l).map gJ) false j w k hr q (.inr<|.inr<|.inr<|.inl a)
     (fun h=>by omega) (fun h=>by omega) (fun h=>by omega)
     (fun _ E g s v ev j k=>by
      rw[i,f];refine nY E g s v ev (aa l) e j d k J ?_;intro id;unfold ja;rw[hA.findC]
      rcases hA.getD id with L | L
      ·rw[L];decide
      ·exact d.2 _ L)
     (fun h=>by omega)
    have hb:bkK e=false:=by unfold bkK;rw[a];rfl
    refine h.mono fun r g' s' ⟨t,u,p⟩=>⟨t,u,m _ _ _ _ _ I (fun b=>?_) (fun _=>hb.symm) (fun o=>by rw[hb] at o;cases o) p⟩;rw[f,ny hA] at b;rw[hb,vQ hA e<|CJ b];refine zc9 fun c _=>?_;unfold zF;rw[zg3 oM,zg4 a]
   ·have f:bG (aa l) e=cJ (aa l) e:=by unfold bG;rw[zg3 oM,zg3 oM,zg3 oM,zg3 oM,zg4 a,rY hA]
    have i:cG (aa l) e=cN (aa l) [e.cell,e.other]:=by unfold cG;rw[zg3 oM,zg3 oM,zg3 oM,zg3 oM]
    have G:((findC (aa l) e.other).getD aA).sides=lG (aa l) e:=by rw[hA.findC];rfl
    have h:=gv E g s v ev l e (bG (aa l) e) (if bG (aa l) e=0 then cG (aa l) e else aa l) ((((an<|aa l).map gJ).map<|dh e.cell<|fM (aa l) e).map<|dh e.other []) false j w k hr q (.inr<|.inr<|.inr<|.inr a)
     (fun h=>by omega) (fun h=>by omega) (fun h=>by omega) (fun h=>by omega)
     (fun _ E g s v ev j k=>by
      rw[i,f];refine nZ E g s v ev (aa l) e j d k ?_ ?_
      ·rw[G];exact xG hA e
      ·rw[G];exact vU hA e)
    have hb:bkK e=false:=by unfold bkK;rw[a];rfl
    refine h.mono fun r g' s' ⟨t,u,p⟩=>⟨t,u,m _ _ _ _ _ I (fun b=>?_) (fun _=>hb.symm) (fun o=>by rw[hb] at o;cases o) p⟩;rw[f,rY hA] at b;have S:aF (aa l) e.cell=[e.other]:=by
     unfold sF at b;split at b
     ·split at b
      ·rename_i h;exact h.1
      ·cases b
     ·cases b
    rw[hb,AB hA e S];refine zc9 fun c _=>?_;unfold zF;rw[zg3 oM,zg3 oM,zg4 a]
  ·have M:=AC (A:=aa l) a;have n:dT l e=(1,[]):=by rw[x,M];rfl
   rw[n];exact tT E g s v ev l e _ _ j w k hr oM oM oM oM oM
 ·have n:dT l e=(1,[]):=zg3 hr;rw[n];exact vN E g s v ev l e _ _ j w k hr
theorem xN {code:Int}{B:List Cl}(h:(aW code B).1=0):Rt (aW code B).2∧code=0∧(aW code B).2=aa B:=by
 unfold aW at h ⊢;split at h
 ·rename_i a;exact absurd h a
 ·rename_i a;rw[zg3 a];split at h
  ·rename_i b;exact absurd h b
  ·rename_i b;rw[zg3 b];have c:=iS<|Decidable.not_not.1 b;rw[fU] at c;exact⟨c,Decidable.not_not.1 a,I⟩
theorem sH {l:List Cl}{e:Ed}(h:(dT l e).1=0):Rt (dT l e).2∧(aq l).2=0∧bG (aa l) e=0∧(dT l e).2=aa (cG (aa l) e):=by
 unfold dT at h ⊢;split at h
 ·rename_i a;rw[zg4 a];obtain ⟨b,c,d⟩:=xN h;exact⟨b,a,c,d⟩
 ·cases h
theorem Ev {l:List Cl}{e:Ed}(h:(dT l e).1≠0):(dT l e).2=[]:=by
 unfold dT at h ⊢;split at h
 ·rename_i a;rw[zg4 a];unfold aW at h ⊢;split at h
  ·rename_i b;rw[zg4 b]
  ·rename_i b;rw[zg3 b];split at h
   ·rename_i c;rw[zg4 c]
   ·exact absurd I h
 ·rename_i a;rw[zg3 a]
theorem o5 (l:List Cl)(e:Ed):aK (dT l e).2:=by
 by_cases h:(dT l e).1=0
 ·exact (sH h).1.fits
 ·rw[Ev h];exact⟨by simp,by simp⟩
theorem Tryz.sty44:STy Tryz.prog 44 92 2 32 (.agg #[.slice none 0 0,vb false]):=⟨underlying44,⟨t92,by kernel_rfl,by kernel_rfl,by kernel_rfl,by kernel_rfl⟩,rfl,by decide⟩
theorem Tryz.sty42:STy Tryz.prog 42 58 7 88 (.agg #[vi 0,vi 0,vi 0,vi 0,vi 0,.slice none 0 0,.slice none 0 0]):=⟨underlying42,⟨t58,by kernel_rfl,by kernel_rfl,by kernel_rfl,by kernel_rfl⟩,rfl,by decide⟩
structure Er where
 kind:Int
 cell:Int
 dim:Int
 new:Int
 other:Int
 sv:Sv
 pv:Sv
def il:Enc Er 7:=⟨fun r=>[vi r.kind,vi r.cell,vi r.dim,vi r.new,vi r.other,.slice r.sv.p r.sv.n r.sv.c,.slice r.pv.p r.pv.n r.pv.c],fun _=>rfl,fun _ u hu=>by simp at hu;rcases hu with rfl | rfl | rfl | rfl | rfl | rfl | rfl <;> rfl,by decide⟩
def erv (r:Er):Value:=.agg (il.enc r).toArray
def EdK (g:PH)(e:Ed)(r:Er):Prop:=EdR g (erv r) e
theorem EdK.mono {g g':PH}(hl:Le g g'){e:Ed}{r:Er}(h:EdK g e r):EdK g' e r:=EdR.mono h hl
theorem EdR.rc {g:PH}{v:Value}{e:Ed}(h:EdR g v e):∃ r:Er,v=erv r∧EdK g e r:=by
 obtain ⟨sv,pv,rfl,a,b⟩:=h;obtain ⟨p,c,rfl⟩:=za4 a;obtain ⟨q,d,rfl⟩:=za4 b;exact⟨⟨e.kind,e.cell,e.dim,e.new,e.other,⟨p,e.sides.length,c⟩,⟨q,e.pairs.length,d⟩⟩,I,_,_,I,a,b⟩
def EdS (e:Ed):Prop:=e.sides.length<1099511627776∧e.pairs.length≤3
def Eds (g:PH)(v:Value)(l:List Ed):Prop:=∃ rs,SlA il g v rs∧ax (EdK g) l rs
theorem Eds.form {g:PH}{v:Value}{l:List Ed}(h:Eds g v l):∃ p c,v = .slice p l.length c:=by
 obtain ⟨rs,a,b⟩:=h;rw[b.length];exact za4 a
structure Sr where
 sv:Sv
 bk:Bool
abbrev Stp:=List (Int×List Tm)×Bool
def oC:Enc Sr 2:=⟨fun r=>[.slice r.sv.p r.sv.n r.sv.c,vb r.bk],fun _=>rfl,fun _ u hu=>by simp at hu;rcases hu with rfl | rfl <;> rfl,by decide⟩
def srv (r:Sr):Value:=.agg (oC.enc r).toArray
def StK (g:PH)(x:Stp)(r:Sr):Prop:=r.bk=x.2∧Ims g (.slice r.sv.p r.sv.n r.sv.c) x.1
theorem StK.mono {g g':PH}(hl:Le g g'){x:Stp}{r:Sr}(h:StK g x r):StK g' x r:=⟨h.1,h.2.mono hl⟩
def Sts (g:PH)(v:Value)(l:List Stp):Prop:=∃ rs,SlA oC g v rs∧ax (StK g) l rs
theorem Sts.nil (g:PH):Sts g (.slice none 0 0) []:=⟨[],zc1 g _,trivial⟩
def imO (l:List Cl)(e:Ed):Stp:=if (dT l e).1=0 then (AY l e,bkK e) else ([],false)
theorem fD.one {l:List Cl}{e:Ed}{r:Value}{g:PH}(h:fD (dT l e).1 (dT l e).2 (AY l e) (bkK e) r g) :
  ∃ u:Sv,∃ x:Sr,r = .tuple #[.agg #[.slice u.p u.n u.c],srv x,vi (dT l e).1]∧ai g (.slice u.p u.n u.c) (dT l e).2∧StK g (imO l e) x:=by
 obtain ⟨u,p,n,c,b,i,f,j,k⟩:=h;obtain ⟨q,d,rfl⟩:=f.form;refine⟨⟨q,_,d⟩,⟨⟨p,n,c⟩,b⟩,i,f,?_⟩;unfold imO;by_cases a:(dT l e).1=0
 ·rw[zg4 a];exact j a
 ·rw[zg3 a];exact k a
def oe:List Cl→List Stp→Nat→List Ed→(Int×Int)×List Cl×List Stp
 | A,ss,_,[]=>((0,0),A,ss)
 | A,ss,i,e::es=>if (dT A e).1=0 then oe (dT A e).2 (ss++[imO A e]) (i+1) es else (((dT A e).1,(i:Int)),[],[])
def ir (l:List Cl)(es:List Ed):(Int×Int)×List Cl×List Stp:=if 1000<es.length then ((2,0),[],[]) else if (aq l).2≠0 then ((1,0),[],[]) else oe (aa l) [] 0 es
def zI (R:(Int×Int)×List Cl×List Stp)(r:Value)(g:PH):Prop:=∃ u p n c,r = .tuple #[.agg #[u],.slice p n c,vi R.1.2,vi R.1.1]∧ai g u R.2.1∧Sts g (.slice p n c) R.2.2
theorem Tryz.xA58 (a b d:Int)(q:Option Addr)(c e:Nat)(w:World):(Instr.build 58 #[(0,vi a),(1,vi b),(2,vi d),(5,.slice q c e)]).run Tryz.prog w = .ok (.agg #[vi a,vi b,vi d,vi 0,vi 0,.slice q c e,.slice none 0 0]) w:=by
 have f:∀ a:Int,(vi a).cells = #[vi a]:=fun _=>rfl;have g:(Value.slice q c e).cells = #[.slice q c e]:=rfl;simp[Instr.build,Instr.fill,f,g];rfl
theorem Tryz.xB58 (a b:Int)(w:World):(Instr.build 58 #[(0,vi a),(1,vi b)]).run Tryz.prog w = .ok (.agg #[vi a,vi b,vi 0,vi 0,vi 0,.slice none 0 0,.slice none 0 0]) w:=by
 have c:∀ a:Int,(vi a).cells = #[vi a]:=fun _=>rfl;simp[Instr.build,Instr.fill,c];rfl
theorem jj (n:Int):a8 (IntKind.i64.wrap n):=by
 have h:IntKind.i64.wrap n=if (decide (n % 18446744073709551616≥9223372036854775808))=true then n % 18446744073709551616 - 18446744073709551616 else n % 18446744073709551616:=by
  simp[IntKind.wrap,IntKind.bits,IntKind.signed]
 rw[h];unfold a8;by_cases a:n % 18446744073709551616≥9223372036854775808
 ·rw[zg4<|zg2 a];omega
 ·rw[zg3 (by simpa using a)];omega
theorem vR (E:World)(g:PH)(s:Own)(v:Value)(l:List Cl)(t:ai g v l)(w:aK l) :
  Ctr Tryz.prog E 126 #[.agg #[v]] g s (fun r g' s'=>s=s'∧g=g'∧∃ n:Int,r=vi n∧a8 n):=by
 obtain ⟨rs,a,b⟩:=t;have y:=w.1;have m:=b.length;obtain ⟨p,c,rfl⟩:=za4 a;refine zb2 (args:=[.agg #[.slice p rs.length c]]) func126 I ntmps126 (bE I)<|rZ (bW (bO I) fun q=>?_);refine aT I<|rZ<|aT I<|sQ<|rZ<|aT I<|bK<|oP (ι:=Nat×Int) (fun k=>[(1,pp q 0),(3,vi k.2),(4,vi k.1)]) (fun _=>g) (fun _=>pt q (bY #[.slice p rs.length c] 29)::s)
  (fun k=>k.1≤rs.length∧a8 k.2) (fun k=>rs.length - k.1) (0,1) sB rfl rfl ⟨zf9 _,by unfold a8;dsimp only;omega⟩ ?_
 rintro ⟨k,n⟩ ⟨z,hn⟩;dsimp only at z hn ⊢;refine sQ<|sW I<|lU (fA dj I cj I)<|lK (qL (v:=.slice p rs.length c) ef I<|cO 0 I I)<|lU (eN aC I)<|yL I<|tZ<|iP I (fun f=>?_) (fun f=>?_)
 ·have i:k<rs.length:=oM;have d:=za6 a oM;have j:rs[((k:Nat):Int).toNat]?=some rs[k]:=List.getElem?_eq_getElem i;generalize rs[k]=x at *;refine kP (tN (sQ (bK (rG (lM I (lU (fA dj I cj I) (lK (qL (v:=.slice p rs.length c) ef I (cO 0 I I)) (lM I (lU (iA aC ar I I d oM sL) (lU (fC ao I zT3 I d) (lK (aZ (e:=encCell) (o:=0) (u:=vi x.id) iT3 I (za7 a) j I) (lU (ze3 I I) (lU (SU.maxI I I) (lA I (SL.nil (bN (tN (rG (lM I (yD I (lA I (SL.nil ?_))))))))))))))))))))));exact ST.again (k+1,_) sB I I ⟨by dsimp only;omega,by
   have A:=jj (x.id+1);dsimp only;unfold a8 at A hn ⊢;omega⟩ (by dsimp only;omega)
 ·exact xI<|tX<|tX<|bX<|tN<|sW I<|aT I<|rE<|dR (s':=s) uR<|za8 (.inl I) results126 I ⟨I,I,_,I,hn⟩
theorem pP (E:World)(g:PH)(s:Own)(v:Value)(l:List Int)(n:Int)(b:dw g v l)(hl:l.length<1099511627776) :
  Ctr Tryz.prog E 127 #[v,vi n] g s (fun r g' s'=>s=s'∧g=g'∧∃ y:Int,r=vi y∧(y=0∨y∈l)):=by
 obtain ⟨p,c,rfl⟩:=za4 b;refine zb2 (args:=[.slice p l.length c,vi n]) func127 I ntmps127 (bE I)<|rZ<|aT I<|sQ<|sW I<|lU (eN az I)<|yE I<|tZ<|iP I (fun i=>?_) (fun i=>?_)
 ·exact rZ<|aT I<|rE<|tR<|za8 (.inl I) results127 I ⟨I,I,_,I,.inl I⟩
 ·obtain ⟨d,a⟩:=s9 n l.length oM oM;have hb:=za6 b oM;have e:l[(bV n l.length).toNat]?=some l[(bV n l.length).toNat]:=List.getElem?_eq_getElem a;have f:l[(bV n l.length).toNat]∈l:=gM a;generalize l[(bV n l.length).toNat]=y at *;refine kP<|tN<|sW I<|lM I<|lM I<|lU (eN az I)<|lW (SO.call lX I<|bB E g _ n l.length oM) ?_;rintro _ _ _ ⟨rfl,rfl,rfl⟩;rw[d];exact lU (iA az zT3 I I hb oM sL)<|lK (eB (u:=vi y) iT3 I (za7 b) e I)<|aT I<|rE<|za8 (.inl I) results127 I ⟨I,I,_,I,.inr f⟩
theorem dY (E:World)(g:PH)(s:Own)(v:Value)(l:List Int)(n:Int)(a:dw g v l)(hl:l.length<1099511627776) :
  Ctr Tryz.prog E 127 #[v,vi n] g s (fun r g' s'=>s=s'∧g=g'∧∃ n:Int,r=vi n) :=
 (pP E g s v l n a hl).mono fun _ _ _ ⟨b,c,y,d,_⟩=>⟨b,c,y,d⟩
theorem CB (l:List Int):decide ((l.length:Int)=0)=decide (l=[]):=by
 rw[Bool.eq_iff_iff,zj9,zj9];exact⟨fun h=>zf7 oM,fun h=>by rw[h];rfl⟩
def mG (l:List Cl)(id:Int):Bool:=match aF l id with
 | [m]=>decide (aF l m=[])
 | _=>false
theorem xB (E:World)(g:PH)(s:Own)(v:Value)(l:List Cl)(R:ai g v l)(G:aK l) :
  Ctr Tryz.prog E 130 #[.agg #[v]] g s (fun r g' s'=>s=s'∧Le g g'∧∃ ps:List Pr,SlA em g' r ps∧ps.length<1099511627776):=by
 have J:=R;obtain ⟨rs,t,A⟩:=R;have U:=G.1;have S:=A.length;obtain ⟨p,c,rfl⟩:=za4 t;refine zb2 (args:=[.agg #[.slice p rs.length c]]) func130 I ntmps130 (bE I)<|rZ (bW (bO I) fun H=>?_);refine aT I<|rZ<|aT I<|sQ<|rZ<|aT I<|bK<|zb6 99 2<|oP (ι:=Nat×PH×Value×List Pr) (fun i=>[(1,pp H 0),(3,i.2.2.1),(4,vi i.1)]) (fun i=>i.2.1) (fun i=>rowA em 99 i.2.2.1 i.2.2.2::pt H (bY #[.slice p rs.length c] 29)::s)
  (fun i=>i.1≤rs.length∧Le g i.2.1∧i.2.2.2.length≤i.1) (fun i=>rs.length - i.1) (0,g,.slice none 0 0,[]) sB rfl rfl ⟨zf9 _,zb9 _,zf9 _⟩ ?_
 rintro ⟨k,g1,K,acc⟩ ⟨V,b,L⟩;dsimp only at V b L ⊢;refine sQ<|sW I<|lU (fA dj I cj I)<|lK (qL (v:=.slice p rs.length c) ef I<|cO 1 I I)<|lU (eN aC I)<|yL I<|tZ<|iP I (fun M=>?_) (fun M=>?_)
 ·have N:k<rs.length:=oM;have n:=za6 t oM;have q:=za5 t b;have B:=J.mono b;have C:rs[((k:Nat):Int).toNat]?=some rs[k]:=List.getElem?_eq_getElem N;generalize rs[k]=x at *;have T:(aF l x.id).length<1099511627776:=Nat.lt_of_le_of_lt (by unfold aF;rw[ze9];exact zc6 _ _) (bU G).1;refine kP<|tN<|sQ<|bK<|sQ<|dW [] [(0,1),(1,2),(2,1),(3,2),(4,2),(5,2),(6,1),(7,0),(8,2)] ze6 kR<|pK I (qV 1 aj ag I I I)<|pU I (fA dj I cj I)<|pK I (qL (v:=.slice p rs.length c) ef I<|cO 1 I I)<|yM I<|pU I (iA aC ar I I n oM sL)<|pU I (fC ao I zT3 I n)<|pK I (aZ (e:=encCell) (o:=0) (u:=vi x.id) iT3 I (za7 q) C I)<|SP.o I (SO.call call183 I<|dA E g1 _ _ l x.id B G) dC (.inr iR) ?_;rintro _ g2 _ ⟨rfl,d,f⟩;obtain ⟨W,d2,rfl⟩:=za4 f;have O:=B.mono d;have D:=za5 q d;refine pU I (aS I)<|pN<|tN<|SC.cut (ι:=PH) (fun _=>[(1,pp H 0),(3,K),(4,vi k),(5,.slice W (aF l x.id).length d2),(32,vb<|mG l x.id)]) (fun g'=>g') (fun _=>rowA em 99 K acc::pt H (bY #[.slice p rs.length c] 29)::s) (fun g'=>Le g2 g') ?_ ?_
  ·by_cases P:(aF l x.id).length=1
   ·obtain ⟨m,hm⟩:∃ m,aF l x.id=[m]:=by
     match hq:aF l x.id,P with
     | [m],_=>exact⟨m,rfl⟩
    have w:mG l x.id=decide (aF l m=[]):=by unfold mG;rw[hm]
    have y:=za6 f oM;have z:(aF l x.id)[((0:Nat):Int).toNat]?=some m:=by rw[hm];rfl
    refine SC.drawX [] ze6 kR ?_;refine SX.u (i:=0) I kR (mV I) dC<|SX.u (i:=1) I kR (eN az I) dC<|SX.u (i:=2) I kR (SU.eq (v':=vb true) (eQ I I)<|ze5 vb<|zg2 oM) dC<|SX.u (i:=3) I kR (mV I) dC<|SX.gq (i:=4) I kR (gT I I I dC) (qV 1 aj ag I I I) dC<|SX.gu (i:=5) I kR (gT I I I dC) (mV I) dC<|SX.gu (i:=6) I kR (gT I I I dC) (iA (i:=0) az zT3 I I y dC (show (0:Int)<(((aF l x.id).length:Nat):Int) by omega)) dC ?_;refine SX.gq (i:=7) I kR (gT I I I dC) (eB iT3 I (za7 f) z I) dC ?_;refine zd8 8 kR ?_
    ·refine SB.go (i:=8) I (gT I I I dC) (SO.call call183 I<|dA E g2 _ _ l m O G) dC (.inr iR) ?_;rintro _ g3 _ ⟨rfl,a,Q⟩;obtain ⟨q3,d3,rfl⟩:=za4 Q;refine SX.gu (i:=9) I kR (gT I I I dC) (eN az I) dC<|SX.gu (i:=10) I kR (gT I I I dC) (SU.eq (v':=vb<|decide (aF l m=[])) (eQ I I)<|ze5 vb<|CB _) dC<|SX.u (i:=11) I kR (wT I I) dC<|SX.nil kR ?_;exact za9 g3 ⟨I,I,I,I,(by rw[w];rfl),trivial⟩ rfl rfl a
   ·have w:mG l x.id=false:=by
     unfold mG;split
     ·rename_i m hm;rw[hm] at P;exact absurd I P
     ·rfl
    refine SC.drawX [] ze6 kR ?_;refine SX.u (i:=0) I kR (mV I) dC<|SX.u (i:=1) I kR (eN az I) dC<|SX.u (i:=2) I kR (SU.eq (v':=vb false) (eQ I I)<|ze5 vb<|zg1 oM) dC<|SX.u (i:=3) I kR (mV I) dC<|SX.off (i:=4) I kR (gZ I I I dC) dC<|SX.off (i:=5) I kR (gZ I I I dC) dC<|SX.off (i:=6) I kR (gZ I I I dC) dC<|SX.off (i:=7) I kR (gZ I I I dC) dC ?_;refine zd8 8 kR ?_
    ·refine SB.offo (i:=8) I (gZ I I I dC) dC ⟨by exact zb9 _,(by exact .refl _)⟩ ?_;refine SX.off (i:=9) I kR (gZ I I I dC) dC<|SX.off (i:=10) I kR (gZ I I I dC) dC<|SX.u (i:=11) I kR (wF I I) dC<|SX.nil kR ?_;exact za9 g2 ⟨I,I,I,I,(by rw[w];rfl),trivial⟩ rfl rfl<|zb9 _
  rintro g3 a;try dsimp only at a ⊢
  have j:=b.trans<|d.trans a;refine iQ I (fun hb=>?_) (fun hb=>?_)
  ·obtain ⟨m,hm,X⟩:∃ m,aF l x.id=[m]∧aF l m=[]:=by
    unfold mG at hb;split at hb
    ·rename_i m hm;exact⟨m,hm,zg6 hb⟩
    ·cases hb
   have y:=za6 f (by rw[hm];simp);have z:(aF l x.id)[((0:Nat):Int).toNat]?=some m:=by rw[hm];rfl
   have Y:(aF l x.id).length=1:=by rw[hm];rfl
   refine dW [12] [(0,2),(1,2),(2,1),(3,2),(4,2),(5,2),(6,1),(7,2),(8,2),(9,1),(10,2),(11,0),(12,0),(13,2)] ze6 kR<|yM I<|pU I (fA dj I cj I)<|pK I (qL (v:=.slice p rs.length c) ef I<|cO 1 I I)<|yM I<|pU I (iA aC ar I I n oM sL)<|pU I (fC ao I zT3 I n)<|pK I (aZ (e:=encCell) (o:=0) (u:=vi x.id) iT3 I (za7<|za5 D a) C I)<|yM I<|pU I (iA (i:=0) az zT3 I I y dC (show (0:Int)<(((aF l x.id).length:Nat):Int) by omega)) ?_;refine pK I (eB iT3 I (za7<|za5 f a) z I)<|pU I (za3 I<|build99 _ _)<|SP.o I (bS sty56 I I I (ae ⟨I,trivial⟩) dC) dC (.inr iR) ?_;rintro _ _ _ ⟨Z,rfl,rfl,rfl⟩;refine SP.o I (aP (e:=em) (l:=acc) 0 (x.id,m) sty56 I I I I I oM oM) dC (.inl dC) ?_;rintro ov' _ _ ⟨rfl,rfl⟩;refine pU I (aS I)<|pN<|bN<|tN<|rG<|lM I<|yD I<|lA I<|SL.nil ?_;exact ST.again (k+1,g3,ov',acc++[(x.id,m)]) sB I I ⟨by dsimp only;omega,j,by dsimp only;rw[ze8,zf1];omega⟩ (by dsimp only;omega)
  ·exact kP<|bN<|tN<|rG<|lM I<|yD I<|lA I<|SL.nil<|ST.again (k+1,g3,K,acc) sB I I ⟨by dsimp only;omega,j,by dsimp only;omega⟩ (by dsimp only;omega)
 ·refine xI (tX<|tX<|bX<|tN<|sQ<|zd6 fun g2 d F=>?_);obtain ⟨q0,d0,rfl⟩:=zc3 F;exact rG<|lM I<|aT I<|rE<|dR (s':=s) uR<|za8 (.inl I) results130 I ⟨I,b.trans d,acc,F,oM⟩
theorem AN (E:World)(g:PH)(s:Own)(v:Value)(l:List Cl)(n:Int)(X:ai g v l)(J:aK l) :
  Ctr Tryz.prog E 129 #[.agg #[v],vi n] g s (fun r g' s'=>∃ ps:List Pr,s'=rowA em 99 r ps::s∧Le g g'∧ps.length≤1):=by
 obtain ⟨rs,a,d⟩:=X;have Y:=J.1;have W:=d.length;obtain ⟨p,c,rfl⟩:=za4 a;refine zb2 (args:=[.agg #[.slice p rs.length c],vi n]) func129 I ntmps129 (bE I)<|rZ (bW (bO I) fun z=>?_);refine aT I<|rZ<|lU (fA dj I cj I)<|lK (qL (v:=.slice p rs.length c) ef I<|cO 0 I I)<|lU (eN aC I)<|aT I<|sQ<|rZ<|aT I<|bK<|oP (ι:=Nat) (fun k=>[(1,vi n),(2,pp z 0),(5,vi rs.length),(6,vi k)]) (fun _=>g) (fun _=>pt z (bY #[.slice p rs.length c] 29)::s)
  (fun k=>k≤rs.length) (fun k=>rs.length - k) 0 sB rfl rfl (zf9 _) ?_
 rintro k Z;try dsimp only at Z ⊢
 refine sQ<|sW I<|lM I<|yL I<|tZ<|iP I (fun K=>?_) (fun K=>?_)
 ·have f:=za6 a oM;obtain ⟨m,A⟩:=s9 (IntKind.i64.wrap<|k+n) rs.length oM oM;have t:rs[(bV (IntKind.i64.wrap<|k+n) rs.length).toNat]?=some rs[(bV (IntKind.i64.wrap<|k+n) rs.length).toNat]:=List.getElem?_eq_getElem A;have L:=d.get (List.getElem?_eq_getElem (show (bV (IntKind.i64.wrap<|k+n) rs.length).toNat<l.length by omega)) t;have M:=J.2 _<|gM (show (bV (IntKind.i64.wrap<|k+n) rs.length).toNat<l.length by omega);generalize l[(bV (IntKind.i64.wrap<|k+n) rs.length).toNat]'oM=cx at *;generalize rs[(bV (IntKind.i64.wrap<|k+n) rs.length).toNat]=x at *;obtain ⟨xi,xd,N,O,P⟩:=x;obtain ⟨f1,f2,B⟩:=L;dsimp only at f1 f2 B;subst f1 f2;refine kP<|tN<|sQ<|bK ?_;refine SC.cut (ι:=Nat) (fun b=>[(1,vi n),(2,pp z 0),(5,vi rs.length),(6,vi k),(7,pp b 0)]) (fun _=>g) (fun b=>pt b (bY #[vi cx.id,vi cx.dim,.slice N O P] 37)::pt z (bY #[.slice p rs.length c] 29)::s) (fun _=>True) ?_ ?_
  ·refine SC.drawX [10] ze6 kR ?_;refine SX.u (i:=0) I kR (fA dj I cj I) dC<|SX.q (i:=1) I kR (qL (v:=.slice p rs.length c) ef I<|cO (by exact 0) I I) dC ?_;refine SX.u (i:=2) I kR (mV I) dC<|SX.u (i:=3) I kR (mV I) dC<|SX.u (i:=4) I kR (ze3 I I) dC<|SX.u (i:=5) I kR (mV I) dC ?_
   repeat' (first
    | (refine SB.o (i:=6) rfl (SO.call lX rfl<|bB E g _ _ rs.length oM) dC (.inr (by rintro _ _ _ ⟨rfl,rfl,rfl⟩;exact⟨by exact zb9 _,(by exact .cons _<|.refl _)⟩)) ?_;rintro _ _ _ ⟨rfl,rfl,rfl⟩;rw[m];refine SX.u (i:=7) I kD (iA aC ar I I f oM sL) dC ?_;refine SX.q (i:=8) I kD (SQ.elemA dn ar I (za7 a) t) dC ?_)
    | (refine SB.o (i:=6) rfl (SO.call lX rfl<|bB E g _ _ rs.length oM) dC (.inr (by rintro _ _ _ ⟨rfl,rfl,rfl⟩;exact⟨by exact zb9 _,(by exact .refl _)⟩)) ?_;rintro _ _ _ ⟨rfl,rfl,rfl⟩;rw[m];refine SX.u (i:=7) I kD (iA aC ar I I f oM sL) dC ?_;refine SX.q (i:=8) I kD (SQ.elemA dn ar I (za7 a) t) dC ?_)
    | (refine SB.o (i:=9) rfl (aL zl8) dC (.inr (by rintro _ _ _ ⟨C,rfl,rfl,rfl⟩;exact⟨by exact zb9 _,(by exact .cons _<|.refl _)⟩)) ?_;rintro _ _ _ ⟨C,rfl,rfl,rfl⟩)
    | (refine SB.on (i:=10) I (sK 0 ar I I I I I sB) (.inl dC) ?_;rintro _ _ _ ⟨rfl,rfl⟩)
    | refine zd9 6 9 kD ?_ ?_
    | refine zd8 9 kD ?_
    | refine zd8 10 kD ?_
    | refine zd8 6 kD ?_
    | (refine SX.nil kD ?_;exact za9 C sB I I trivial))
  rintro C -;try dsimp only
  clear m A;refine rZ<|aT I<|bK<|oP (ι:=Nat) (fun j=>[(1,vi n),(2,pp z 0),(5,vi rs.length),(6,vi k),(7,pp C 0),(8,vi j)]) (fun _=>g) (fun _=>pt C (bY #[vi cx.id,vi cx.dim,.slice N O P] 37)::pt z (bY #[.slice p rs.length c] 29)::s)
   (fun j=>j≤rs.length) (fun j=>rs.length - j) 0 sB rfl rfl (zf9 _) ?_
  rintro j hj;try dsimp only at hj ⊢
  refine sQ<|sW I<|lM I<|yL I<|tZ<|iP I (fun D=>?_) (fun D=>?_)
  ·have F:j<rs.length:=oM;have G:j<l.length:=oM;have Q:rs[((j:Nat):Int).toNat]?=some rs[j]:=List.getElem?_eq_getElem F;have R:=d.get (List.getElem?_eq_getElem G)<|List.getElem?_eq_getElem F;have S:=J.2 _<|gM G;generalize l[j]=cy at *;generalize rs[j]=y at *;obtain ⟨yi,yd,yp,yn,yc⟩:=y;obtain ⟨f1,f2,H⟩:=R;dsimp only at f1 f2 H;subst f1 f2;refine kP (tN<|sQ<|bK<|rZ<|lU (fA dj I cj I)<|lK (qL (v:=.slice p rs.length c) ef I<|cO 1 I I)<|lM I<|lU (iA aC ar I I f oM sL)<|lK (SQ.elemA dn ar I (za7 a) Q)<|bW (aL zl8) fun b9=>?_);refine oZ (sK 0 ar I I I I I sB)<|tZ<|SC.cutB 60 (decide (cx.id≠cy.id)&&decide (cx.dim=cy.dim)&&decide (cx.dim>0)&&decide (lQ cx.sides=lQ cy.sides)) ?_ ?_
   ·refine rG<|lU (fA ao I zT3 I)<|lK (qL (v:=vi cx.id) iT3 I<|cO 1 I I)<|lU (fA ao I zT3 I)<|lK (qL (v:=vi cy.id) iT3 I<|cO 0 I I)<|lU (nQ I I)<|lM I<|sP ?_ ?_
    ·intro T;refine lY I I I (fA ao I zT3 I)<|SL.gq (gT I I I dC) (qL (v:=vi cx.dim) iT3 I<|cO 1 I I) dC<|lY I I I (fA ao I zT3 I)<|SL.gq (gT I I I dC) (qL (v:=vi cy.dim) iT3 I<|cO 0 I I) dC<|lY I I I (eQ I I)<|yP I<|lM I<|sP ?_ ?_
     ·intro U;refine lY I I I (fA ao I zT3 I)<|SL.gq (gT I I I dC) (qL (v:=vi cx.dim) iT3 I<|cO 1 I I) dC<|lY I I I (gR I I)<|yP I<|lM I<|sP ?_ ?_
      ·intro V;refine lY I I I (fA ao I aI I)<|SL.gq (gT I I I dC) (qL (v:=.slice N O P) bi I<|cO 1 I I) dC<|lY I I I (fA ao I aI I)<|SL.gq (gT I I I dC) (qL (v:=.slice yp yn yc) bi I<|cO 0 I I) dC<|ze4 (gT I I I dC) (SO.call call187 I<|kQ E g _ _ _ _ _ B H M S) dC ?_;rintro _ _ _ ⟨rfl,rfl,rfl⟩;exact yP I<|SL.nil<|zb1 (by (simp_all[aN];done)) mI
      ·intro V;exact yA I<|yA I<|yA I<|yA I<|yA I<|yF I<|SL.nil<|zb1 (by (simp_all[aN];omega)) mI
     ·intro U;exact yA I<|yA I<|yA I<|yF I<|lM I<|yA I<|yA I<|yA I<|yA I<|yA I<|yF I<|SL.nil<|zb1 (by (simp_all[aN];done)) mI
    ·intro T;exact yA I<|yA I<|yA I<|yA I<|yA I<|yF I<|lM I<|yA I<|yA I<|yA I<|yF I<|lM I<|yA I<|yA I<|yA I<|yA I<|yA I<|yF I<|SL.nil<|zb1 (by (simp_all[aN];done)) mI
   refine iQ I (fun hq=>?_) (fun hq=>?_)
   ·refine rZ<|lU (fA ao I zT3 I)<|lK (qL (v:=vi cx.id) iT3 I<|cO 1 I I)<|lU (fA ao I zT3 I)<|lK (qL (v:=vi cy.id) iT3 I<|cO 0 I I)<|lU (za3 I<|build99 _ _)<|lW (bS sty56 I I I (ae ⟨I,trivial⟩) dC) ?_;rintro _ _ _ ⟨a0,rfl,rfl,rfl⟩;refine SL.to (fun w hw=>At.litRow (e:=em) (l:=[(cx.id,cy.id)]) (n:=0) hw I I dC) ?_;exact aT I<|rE<|bR<|tR<|tR<|bR<|bR<|tR<|tR<|bR<|tR<|dR (.cons_cons _<|.cons _<|.cons _<|.cons _<|.refl s)<|za8 (.inl I) results129 I ⟨_,I,zb9 _,by simp⟩
   ·exact kP<|bN<|tN<|rG<|lM I<|yD I<|lA I<|SL.nil<|dR (.cons _<|.refl _)<|ST.again (j+1) sB I I oM oM
  ·exact xI<|tX<|tX<|bX<|bN<|tN<|rG<|lM I<|yD I<|lA I<|SL.nil<|dR (.cons _<|.refl _)<|ST.again (k+1) sB I I oM oM
 ·exact xI<|tX<|tX<|bX<|tN<|rZ<|aT I<|rE<|dR (s':=s) (.cons _<|.refl _)<|ST.nilRow 99 2<|za8 (.inl I) results129 I ⟨[],I,zb9 _,by simp⟩
end Go.Proofs.YtdepcjnaieflmaaGreatDoor
