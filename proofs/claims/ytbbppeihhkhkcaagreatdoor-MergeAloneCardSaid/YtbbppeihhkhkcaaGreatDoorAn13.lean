/- 13 -/
import Derived.Test.YtbbppeihhkhkcaaGreatDoorAn12
set_option linter.unusedSimpArgs false
set_option linter.unusedVariables false
namespace Go.Proofs.YtbbppeihhkhkcaaGreatDoor
open _root_.Go.Proofs.Tryz _root_.Go.Proofs.YtbbppeihhkhkcaaGreatDoor.Tryz
open Go Go.Sy Go.Pl Go.Proofs
set_option maxRecDepth 100000
set_option maxHeartbeats 8000000
theorem yS (ps:List Pr):(qf ps).length=2 * ps.length:=by
 induction ps with
 | nil=>rfl
 | cons p ps ih =>
  have a:qf (p::ps)=p.1::p.2::qf ps:=rfl;rw[a,zf1,zf1,zf1,ih];omega
def ng (l:List Cl)(id:Int):Int:=((findC l id).getD aH).dim
def i5 (l:List Cl)(id:Int):List ak:=((findC l id).getD aH).sides
def ip (l:List Cl)(ps:List Pr)(p:Pr):Bool:=decide (lJ ((i5 l p.1).map<|kK<|byF ps)=lJ ((i5 l p.2).map<|kK<|byF ps))
def dq (l:List Cl)(e:Ed):Int :=
 if e.pairs.all (fun p=>(findC l p.1).isSome&&(findC l p.2).isSome) then
  if y9 e.pairs then 54 else if e.pairs.any (fun p=>decide (ng l p.1≠ng l p.2)) then 21 else if e.pairs.all (ip l e.pairs) then 0 else 33
 else 30
def CW (f:Int→Option Int)(c:Cl):Cl:=⟨c.id,c.dim,c.sides.map<|kK f⟩
def ep (l:List Cl)(e:Ed):List Cl:=(cN l<|e.pairs.map Prod.snd).map (CW<|byF e.pairs)
def ft (ps:List Pr)(M:List (Int×List Tm)):List (Int×List Tm):=ps.foldl (fun M p=>M.map<|c8 p.2 [(p.1,1)]) M
theorem vu {ps:List Pr}{k:Nat}(a:k<ps.length)(M:List (Int×List Tm)):ft (ps.take<|k+1) M=(ft (ps.take k) M).map (c8 ps[k].2 [(ps[k].1,1)]):=by
 unfold ft;rw[tS a,zj2];rfl
theorem wG (ps:List Pr):∀ M,(ft ps M).length=M.length:=by
 unfold ft;induction ps with
 | nil=>intro M; rfl
 | cons p ps ih=>intro M; rw[zj1,ih,ze8]
theorem DE {α:Type}(f:α→α){l:List α}{k:Nat}(a:k<l.length):(l.take<|k+1).map f++l.drop (k+1)=((l.take k).map f++l.drop k).set k (f l[k]):=by
 rw[tS a,zg7,zh1,List.set_append_right _ _ (by rw[ze8,ze6]; omega),ze8,ze6,show k - min k l.length=0 by omega];congr 1;rw[zg8 a];rfl
theorem Fk {α:Type}(f:α→α){l:List α}{k:Nat}(a:k<l.length):((l.take k).map f++l.drop k)[k]?=some l[k]:=by
 rw[zh5 (by rw[ze8,ze6]; omega),ze8,ze6,show k - min k l.length=0 by omega,zg8 a];rfl
theorem Dy {L:List Int}(h:∀ a (f:a<L.length) b (hb:b<a),L[a]≠L[b]'oM):L.Nodup:=by
 rw[List.nodup_iff_pairwise_ne,zd1];intro i j g d c e;exact h j d i c e.symm
theorem nW (E:World)(g:PH)(s:Own)(v ev:Value)(l:List Cl)(e:Ed)(hv:ai g v l)(hf:aJ l)(he:EdR g ev e)(y0:e.pairs.length<100000000000)(l4:∀ id,(i5 l id).length<1099511627776) :
  Ctr Tryz.prog E 195 #[.agg #[v],ev] g s (fun r g' s'=>s=s'∧Le g g'∧EG (dq l e) (if dq l e=0 then ep l e else l) (ft e.pairs<|(am l).map gv) false r g'):=by
 obtain ⟨sv,pv,rfl,t0,a9⟩:=he;obtain ⟨sp,sc,rfl⟩:=za4 t0;obtain ⟨pq,pc,rfl⟩:=za4 a9;obtain ⟨p,c,rfl⟩:=hv.form;refine zb2 (args:=[.agg #[.slice p l.length c],.agg #[vi e.kind,vi e.cell,vi e.dim,vi e.new,vi e.other,.slice sp e.sides.length sc,.slice pq e.pairs.length pc]]) func195 I ntmps195 (bE I)<|rZ (bW (bO I) fun b2=>?_);refine bW (bO I) fun b3=>bW (aL zl9) fun b4=>bW (aL zl4) fun b5=>aT I<|rZ<|aT I<|rZ<|aT I<|sQ<|rZ<|aT I<|bK<|zb6 3 1<|zb6 3 1<|oP (ι:=Nat×PH×Value×Value) (fun i=>[(2,pp b2 0),(3,pp b3 0),(4,pp b4 0),(5,pp b5 0),(7,i.2.2.1),(8,i.2.2.2),(9,vi i.1)]) (fun i=>i.2.1)
  (fun i=>rowA encInt 3 i.2.2.1 (qf<|e.pairs.take i.1)::rowA encInt 3 i.2.2.2 ((e.pairs.take i.1).map Prod.snd)::pt b5 (.cells #[.slice none 0 0,vb false] 35 (0,0))::pt b4 (.cells #[.slice none 0 0] 29 (0,0))::pt b3 (.cells (edV e (.slice sp e.sides.length sc)<|.slice pq e.pairs.length pc) 42 (0,0))::pt b2 (.cells #[.slice p l.length c] 29 (0,0))::s)
  (fun i=>i.1≤e.pairs.length∧Le g i.2.1∧(∀ q∈e.pairs.take i.1,(findC l q.1).isSome=true∧(findC l q.2).isSome=true)) (fun i=>e.pairs.length - i.1) (0,g,.slice none 0 0,.slice none 0 0)
  sB rfl rfl ⟨zf8 _,zb9 _,fun q hq=>by simp at hq⟩ ?_
 rintro ⟨k,g1,wa,wg⟩ ⟨hk,F,d0⟩;dsimp only at hk F d0 ⊢;refine sQ<|sW I<|lU (fA a6 I kH I)<|SL.K (qL (v:=.slice pq e.pairs.length pc) nB I<|cO 4 I I)<|lU (eN mJ I)<|yL I<|tZ<|iP I (fun t1=>?_) (fun t1=>?_)
 ·have J:k<e.pairs.length:=oM;have d:=za6 a9 oM;have M:=za5 a9 F;have V:=hv.mono F;have A:e.pairs[((k:Nat):Int).toNat]?=some e.pairs[k]:=List.getElem?_eq_getElem J;have b1:e.pairs.take (k+1)=e.pairs.take k++[e.pairs[k]]:=tS J;have m1:=yS<|e.pairs.take k;rw[ze6] at m1;have y1:((e.pairs.take k).map Prod.snd).length≤k:=by rw[ze8,ze6]; omega
  have W:¬ ((findC l e.pairs[k].1).isSome=true∧(findC l e.pairs[k].2).isSome=true)→dq l e=30:=fun h=>by
   unfold dq;rw[zg2];intro h2;have h3:=zk2.1 h2 _<|gM J;rw[zj5] at h3;exact h h3
  have d9:qf (e.pairs.take<|k+1)=qf (e.pairs.take k)++[e.pairs[k].1,e.pairs[k].2]:=by rw[b1,CI]
  have e0:(e.pairs.take<|k+1).map Prod.snd=(e.pairs.take k).map Prod.snd++[e.pairs[k].2]:=by rw[b1,zg7]; rfl
  generalize e.pairs[k]=x at *;obtain ⟨x1,x2⟩:=x;dsimp only at W d9 e0;cases b7:(findC l x1).isSome with
  | false =>
   rw[W (by rw[b7]; rintro ⟨h,_⟩; cases h)];refine kP<|tN<|sQ<|bK<|sQ<|sQ<|dW [] [(0,1),(1,2),(2,1),(3,2),(4,2),(5,2),(6,1),(7,0),(8,2),(9,2),(10,1),(11,2),(12,1),(13,2),(14,2),(15,2),(16,1),(17,0),(18,2),(19,2)] ze5 kR<|pK I (qV 5 aj ae I I I)<|pU I (fA a6 I kH I)<|pK I (qL (v:=.slice pq e.pairs.length pc) nB I<|cO 4 I I)<|yM I<|pU I (iA mJ p4 I I d oM sL)<|pU I (SU.indexAddrC qw zT3 I d I dC dC)<|pK I (aZ (e:=dZ) (o:=0) (u:=vi x1) iT3 I (za7 M) A I)<|SP.o I (SO.call call252 I<|dh E g1 _ _ l x1 V hf) dC (.inr iR) ?_;rintro _ g2 _ ⟨rfl,rfl,C⟩;rw[b7];refine pU I (SU.not I)<|yM I<|yI I<|yG I<|yI I<|yG I<|yG I<|yG I<|yI I<|fO I (gZ I I I dC) dC ⟨by assumption,(by exact .refl _)⟩ ?_;refine yG I<|pU I (wT I I)<|pN<|tN<|za2 I<|rZ<|SL.K (qV 5 aj ae I I I)<|lU (za3 I buildZ35)<|oZ (sK 3 ae I I I I I sB) ?_;refine oZ (sK 2 bQ I I I I I sB) ?_;refine aT I<|rE<|tR<|bR<|tR<|tR<|bR<|tR ?_;exact ST.retCCT 3 2 s (.inl I) results195 I I I aj ae gw bQ I I I I uR ⟨I,F.trans C,_,_,_,_,I,V.mono C,fun h=>by cases h⟩
  | true =>
  cases d1:(findC l x2).isSome with
  | false =>
   rw[W (by rw[d1]; rintro ⟨_,h⟩; cases h)];refine kP<|tN<|sQ<|bK<|sQ<|sQ<|dW [] [(0,1),(1,2),(2,1),(3,2),(4,2),(5,2),(6,1),(7,0),(8,2),(9,2),(10,1),(11,2),(12,1),(13,2),(14,2),(15,2),(16,1),(17,0),(18,2),(19,2)] ze5 kR<|pK I (qV 5 aj ae I I I)<|pU I (fA a6 I kH I)<|pK I (qL (v:=.slice pq e.pairs.length pc) nB I<|cO 4 I I)<|yM I<|pU I (iA mJ p4 I I d oM sL)<|pU I (SU.indexAddrC qw zT3 I d I dC dC)<|pK I (aZ (e:=dZ) (o:=0) (u:=vi x1) iT3 I (za7 M) A I)<|SP.o I (SO.call call252 I<|dh E g1 _ _ l x1 V hf) dC (.inr iR) ?_;rintro _ g2 _ ⟨rfl,rfl,C⟩;rw[b7];refine pU rfl (SU.not rfl)<|yM rfl<|SP.gq rfl (gT rfl rfl rfl dC) (qV 5 aj ae rfl rfl rfl) dC<|zb3 rfl (gT rfl rfl rfl dC) (fA a6 rfl kH rfl) dC<|SP.gq rfl (gT rfl rfl rfl dC) (qL (v:=.slice pq e.pairs.length pc) nB rfl<|cO 4 rfl rfl) dC<|yJ rfl<|zb3 rfl (gT rfl rfl rfl dC) (iA mJ p4 rfl rfl d oM sL) dC<|zb3 rfl (gT rfl rfl rfl dC) (SU.indexAddrC qw zT3 rfl d rfl dC dC) dC<|SP.gq rfl (gT rfl rfl rfl dC) (aZ (e:=dZ) (o:=1) (u:=vi x2) iT3 rfl (za7 M) A rfl) dC<|SP.go rfl (gT rfl rfl rfl dC) (SO.call call252 rfl<|dh E _ _ _ l x2 (V.mono<|by assumption) hf) dC (.inr (by rintro _ g3 _ ⟨rfl,rfl,D⟩; exact⟨by exact Le.trans (by assumption) (by assumption),(by exact .refl _)⟩)) ?_;rintro _ g3 _ ⟨rfl,rfl,D⟩;rw[d1];have z:=C.trans D;refine zb3 I (gT I I I dC) (SU.not I) dC<|pU I (wF I I)<|pN<|tN<|za2 I<|rZ<|SL.K (qV 5 aj ae I I I)<|lU (za3 I buildZ35)<|oZ (sK 3 ae I I I I I sB) ?_;refine oZ (sK 2 bQ I I I I I sB) ?_;refine aT I<|rE<|tR<|bR<|tR<|tR<|bR<|tR ?_;exact ST.retCCT 3 2 s (.inl I) results195 I I I aj ae gw bQ I I I I uR ⟨I,F.trans z,_,_,_,_,I,V.mono z,fun h=>by cases h⟩
  | true =>
  refine kP (tN (sQ (bK (sQ (sQ ?_)))));refine dW [] [(0,1),(1,2),(2,1),(3,2),(4,2),(5,2),(6,1),(7,0),(8,2),(9,2),(10,1),(11,2),(12,1),(13,2),(14,2),(15,2),(16,1),(17,0),(18,2),(19,2)] ze5 kR<|pK I (qV 5 aj ae I I I) (pU I (fA a6 I kH I) (pK I (qL (v:=.slice pq e.pairs.length pc) nB I (cO 4 I I)) (yM I (pU I (iA mJ p4 I I d oM sL) (pU I (SU.indexAddrC qw zT3 I d I dC dC) (pK I (aZ (e:=dZ) (o:=0) (u:=vi x1) iT3 I (za7 M) A I) (SP.o I (SO.call call252 I (dh E g1 _ _ l x1 V hf)) dC (.inr iR) ?_)))))));rintro _ g2 _ ⟨rfl,rfl,C⟩;rw[b7];refine pU rfl (SU.not rfl) (yM rfl (SP.gq rfl (gT rfl rfl rfl dC) (qV 5 aj ae rfl rfl rfl) dC (zb3 rfl (gT rfl rfl rfl dC) (fA a6 rfl kH rfl) dC (SP.gq rfl (gT rfl rfl rfl dC) (qL (v:=.slice pq e.pairs.length pc) nB rfl (cO 4 rfl rfl)) dC (yJ rfl (zb3 rfl (gT rfl rfl rfl dC) (iA mJ p4 rfl rfl d oM sL) dC (zb3 rfl (gT rfl rfl rfl dC) (SU.indexAddrC qw zT3 rfl d rfl dC dC) dC (SP.gq rfl (gT rfl rfl rfl dC) (aZ (e:=dZ) (o:=1) (u:=vi x2) iT3 rfl (za7 M) A rfl) dC (SP.go rfl (gT rfl rfl rfl dC) (SO.call call252 rfl (dh E _ _ _ l x2 (V.mono (by assumption)) hf)) dC (.inr (by rintro _ g3 _ ⟨rfl,rfl,D⟩; exact⟨by exact Le.trans (by assumption) (by assumption),(by exact .refl _)⟩)) ?_)))))))));rintro _ g3 _ ⟨rfl,rfl,D⟩;rw[d1];have z:=C.trans D;have N:=za5 M z;refine zb3 I (gT I I I dC) (SU.not I) dC (pU I (wF I I) (pN (tN (za1 I (kP (tN (sQ ?_)))))));refine dW [14] [(0,2),(1,2),(2,1),(3,2),(4,2),(5,2),(6,1),(7,2),(8,1),(9,2),(10,2),(11,2),(12,1),(13,0),(14,0),(15,2)] ze5 kR ?_;refine yM I (pU I (fA a6 I kH I) (pK I (qL (v:=.slice pq e.pairs.length pc) nB I (cO 4 I I)) (yM I (pU I (iA mJ p4 I I d oM sL) (pU I (SU.indexAddrC qw zT3 I d I dC dC) (pK I (aZ (e:=dZ) (o:=0) (u:=vi x1) iT3 I (za7 N) A I) (pU I (fA a6 I kH I) (pK I (qL (v:=.slice pq e.pairs.length pc) nB I (cO 4 I I)) (yM I (pU I (iA mJ p4 I I d oM sL) (pU I (SU.indexAddrC qw zT3 I d I dC dC) (pK I (aZ (e:=dZ) (o:=1) (u:=vi x2) iT3 I (za7 N) A I) (SP.o I (bS sty52 I I I (ab sB) dC) dC (.inr iR) ?_)))))))))))));rintro _ _ _ ⟨y2,rfl,rfl,rfl⟩;refine SP.to (fun w hw=>At.litRow (e:=encInt) (l:=[x1,x2]) (n:=1) hw I I dC) ?_;refine SP.freezeRow fun g4 y t2=>?_;refine SP.o I (aQ (e:=encInt) (l:=qf (e.pairs.take k)) (m:=[x1,x2]) 0 sty52 I I I t2 (by simp; omega) (by simp; omega)) dC (.inl dC) ?_;rintro wa' _ _ ⟨rfl,rfl⟩;refine pU I (aS I) (pN (tN ?_));have G:=za5 N y;refine rG (lM I (lU (fA a6 I kH I) (SL.K (qL (v:=.slice pq e.pairs.length pc) nB I (cO 4 I I)) (lM I (lU (iA mJ p4 I I d oM sL) (lU (SU.indexAddrC qw zT3 I d I dC dC) (SL.K (aZ (e:=dZ) (o:=1) (u:=vi x2) iT3 I (za7 G) A I) (lW (bS sty52 I I I (ab ⟨I,trivial⟩) dC) ?_))))))));rintro _ _ _ ⟨y3,rfl,rfl,rfl⟩;refine lW (aP (e:=encInt) 1 x2 sty52 I I I I I oM oM) ?_;rintro wg' _ _ ⟨rfl,rfl⟩;refine lA I (SL.nil (bN (tN (rG (lM I (yD I (lA I (SL.nil ?_))))))));exact ST.again (k+1,g4,wa',wg') sB I (by dsimp only; rw[d9,e0]; rfl) ⟨by dsimp only; omega,F.trans (z.trans y),fun q hq=>by
   dsimp only at hq;rw[b1] at hq
   rcases zf5.1 hq with hq | hq
   ·exact d0 q hq
   ·simp at hq; subst hq; exact⟨b7,d1⟩⟩ (by dsimp only; omega)
 ·have t3:e.pairs.take k=e.pairs:=tL oM;rw[t3] at d0 ⊢;have t4:e.pairs.all (fun p=>(findC l p.1).isSome&&(findC l p.2).isSome)=true:=zk2.2 fun p hp=>by
   obtain ⟨h1,h2⟩:=d0 p hp;rw[h1,h2];rfl
  have h0:dq l e=if y9 e.pairs then 54 else if e.pairs.any (fun p=>decide (ng l p.1≠ng l p.2)) then 21 else if e.pairs.all (ip l e.pairs) then 0 else 33:=by unfold dq; rw[zg3 t4]
  rw[h0];have m1:=yS e.pairs;refine xI (tX<|tX<|bX<|tN<|sQ<|sQ<|fS fun g2 C t5=>?_);refine fS fun g3 D t9=>?_;have z:=C.trans D;have a0:dp g3 wa (qf e.pairs):=Sl.mono t5 D;obtain ⟨qa,da,rfl⟩:=za4 a0;have e4:dp g3 wg (e.pairs.map Prod.snd):=t9;obtain ⟨qg,dg,rfl⟩:=za4 e4;refine rG<|aT I<|bK ?_;have H:=F.trans z;have h4:=hv.mono H;have N:=za5 a9 H;generalize hL:qf e.pairs=L at *;refine oP (ι:=Nat) (fun i=>[(2,pp b2 0),(3,pp b3 0),(4,pp b4 0),(5,pp b5 0),(7,.slice qa L.length da),(8,.slice qg (e.pairs.map Prod.snd).length dg),(10,vi i)]) (fun _=>g3)
   (fun _=>pt b5 (.cells #[.slice none 0 0,vb false] 35 (0,0))::pt b4 (.cells #[.slice none 0 0] 29 (0,0))::pt b3 (.cells (edV e (.slice sp e.sides.length sc)<|.slice pq e.pairs.length pc) 42 (0,0))::pt b2 (.cells #[.slice p l.length c] 29 (0,0))::s)
   (fun i=>i≤L.length∧∀ a (ha:a<i) (hl:a<L.length) b (hb:b<a),L[a]≠L[b]'oM) (fun i=>L.length - i) 0 sB rfl rfl ⟨zf8 _,fun a ha=>absurd ha oM⟩ ?_
  rintro i ⟨hi,h6⟩;try dsimp only at hi h6 ⊢
  refine sQ<|sW I<|lM I<|lU (eN az I)<|yL I<|tZ<|iP I (fun m2=>?_) (fun m2=>?_)
  ·have u0:i<L.length:=oM;have m3:=za6 a0 oM;have u1:L[((i:Nat):Int).toNat]?=some L[i]:=List.getElem?_eq_getElem u0;refine kP<|tN<|sQ<|bK<|rZ<|aT I<|bK<|oP (ι:=Nat) (fun j=>[(2,pp b2 0),(3,pp b3 0),(4,pp b4 0),(5,pp b5 0),(7,.slice qa L.length da),(8,.slice qg (e.pairs.map Prod.snd).length dg),(10,vi i),(11,vi j)]) (fun _=>g3)
    (fun _=>pt b5 (.cells #[.slice none 0 0,vb false] 35 (0,0))::pt b4 (.cells #[.slice none 0 0] 29 (0,0))::pt b3 (.cells (edV e (.slice sp e.sides.length sc)<|.slice pq e.pairs.length pc) 42 (0,0))::pt b2 (.cells #[.slice p l.length c] 29 (0,0))::s)
    (fun j=>j≤i∧∀ b (hb:b<j) (hl:b<L.length),L[i]≠L[b]) (fun j=>i - j) 0 sB rfl rfl ⟨zf8 _,fun b hb=>absurd hb oM⟩ ?_
   rintro j ⟨hj,h7⟩;try dsimp only at hj h7 ⊢
   refine sQ<|sW I<|lM I<|yL I<|tZ<|iP I (fun m4=>?_) (fun m4=>?_)
   ·have u2:j<L.length:=oM;have u3:L[((j:Nat):Int).toNat]?=some L[j]:=List.getElem?_eq_getElem u2;refine kP<|tN<|sQ<|bK<|sQ<|dW [] [(0,2),(1,2),(2,2),(3,1),(4,2),(5,2),(6,2),(7,1),(8,2)] ze5 kR<|yM I<|yM I<|pU I (iA az zT3 I I m3 oM sL)<|pK I (eB iT3 I (za7 a0) u1 I)<|yM I<|yM I<|pU I (iA az zT3 I I m3 oM sL)<|pK I (eB iT3 I (za7 a0) u3 I)<|pU I (eQ I I)<|pN<|tN<|iP I (fun h8=>?_) (fun h8=>?_)
    ·have b8:y9 e.pairs=true:=by
      unfold y9;rw[hL];refine zg1 fun hn=>?_;have h5:=(List.getElem_inj hn).1 h8;omega
     rw[zg3 b8];exact rZ<|SL.K (qV 3 aj ae I I I)<|lU (za3 I buildZ35)<|oZ (sK 1 ae I I I I I sB)<|oZ (sK 0 bQ I I I I I sB)<|aT I<|rE<|bR<|tR<|tR<|bR<|bR<|tR<|tR<|bR<|tR<|ST.retCCT 1 0 s (.inl I) results195 I I I aj ae gw bQ I I I I uR ⟨I,H,_,_,_,_,I,h4,fun h=>by cases h⟩
    ·refine kP (bN (tN (rG (lM I (yD I (lA I (SL.nil ?_)))))));exact ST.again (j+1) sB I I ⟨oM,fun b hb hl=>by
      by_cases e9:b=j
      ·subst e9; exact h8
      ·exact h7 b oM hl⟩ oM
   ·refine xI (tX (tX (bX (bN (tN (rG (lM I (yD I (lA I (SL.nil ?_))))))))));exact ST.again (i+1) sB I I ⟨oM,fun a ha hl b hb=>by
     by_cases e9:a=i
     ·subst e9; exact h7 b oM oM
     ·exact h6 a oM hl b hb⟩ oM
  ·have u4:L.Nodup:=Dy fun a ha b hb=>h6 a oM ha b hb;have b8:y9 e.pairs=false:=by
    unfold y9;rw[hL];exact zf9 fun h=>h u4
   rw[b8,zg2 Bool.false_ne_true];refine xI<|tX<|tX<|bX<|tN<|rZ<|aT I<|sQ<|rZ<|aT I<|bK<|oP (ι:=Nat×PH) (fun i=>[(2,pp b2 0),(3,pp b3 0),(4,pp b4 0),(5,pp b5 0),(8,.slice qg (e.pairs.map Prod.snd).length dg),(12,vi (if (e.pairs.take i.1).all (ip l e.pairs) then 0 else 33)),(13,vi i.1)]) (fun i=>i.2)
    (fun _=>pt b5 (.cells #[.slice none 0 0,vb false] 35 (0,0))::pt b4 (.cells #[.slice none 0 0] 29 (0,0))::pt b3 (.cells (edV e (.slice sp e.sides.length sc)<|.slice pq e.pairs.length pc) 42 (0,0))::pt b2 (.cells #[.slice p l.length c] 29 (0,0))::s)
    (fun i=>i.1≤e.pairs.length∧Le g3 i.2∧(e.pairs.take i.1).any (fun p=>decide (ng l p.1≠ng l p.2))=false) (fun i=>e.pairs.length - i.1) (0,g3) sB rfl rfl ⟨zf8 _,zb9 _,rfl⟩ ?_
   rintro ⟨k3,g4⟩ ⟨u6,y,d2⟩;dsimp only at u6 y d2 ⊢;refine sQ<|sW I<|lU (fA a6 I kH I)<|SL.K (qL (v:=.slice pq e.pairs.length pc) nB I<|cO 2 I I)<|lU (eN mJ I)<|yL I<|tZ<|iP I (fun n0=>?_) (fun n0=>?_)
   ·have J:k3<e.pairs.length:=oM;have d:=za6 a9 oM;have G:=za5 N y;have U:=h4.mono y;have A:e.pairs[((k3:Nat):Int).toNat]?=some e.pairs[k3]:=List.getElem?_eq_getElem J;have b1:e.pairs.take (k3+1)=e.pairs.take k3++[e.pairs[k3]]:=tS J;have b9:ng l e.pairs[k3].1≠ng l e.pairs[k3].2→e.pairs.any (fun p=>decide (ng l p.1≠ng l p.2))=true:=fun h=>zk1.2 ⟨_,gM J,zg1 h⟩;have c1:ng l e.pairs[k3].1=ng l e.pairs[k3].2→(e.pairs.take<|k3+1).any (fun p=>decide (ng l p.1≠ng l p.2))=false:=fun h=>by
     rw[b1,List.any_append,d2,Bool.false_or];simp[h]
    have a1:(e.pairs.take<|k3+1).all (ip l e.pairs)=((e.pairs.take k3).all (ip l e.pairs)&&ip l e.pairs e.pairs[k3]):=by
     rw[b1,List.all_append];simp
    have h9:=l4 e.pairs[k3].1;have i0:=l4 e.pairs[k3].2;generalize e.pairs[k3]=x at *;obtain ⟨x1,x2⟩:=x;dsimp only at b9 c1 h9 i0;have i1:ip l e.pairs (x1,x2)=decide (lJ ((i5 l x1).map<|kK<|byF e.pairs)=lJ ((i5 l x2).map<|kK<|byF e.pairs)):=rfl;generalize ip l e.pairs (x1,x2)=al at *;refine kP<|tN<|sQ<|bK<|SC.cut (ι:=Nat×PH×Rc) (fun i=>[(2,pp b2 0),(3,pp b3 0),(4,pp b4 0),(5,pp b5 0),(8,.slice qg (e.pairs.map Prod.snd).length dg),(12,vi (if (e.pairs.take k3).all (ip l e.pairs) then 0 else 33)),(13,vi k3),(14,pp i.1 0)]) (fun i=>i.2.1)
     (fun i=>pt i.1 (.cells #[vi i.2.2.id,vi i.2.2.dim,.slice i.2.2.sv.p i.2.2.sv.n i.2.2.sv.c] 56 (0,0))::pt b5 (.cells #[.slice none 0 0,vb false] 35 (0,0))::pt b4 (.cells #[.slice none 0 0] 29 (0,0))::pt b3 (.cells (edV e (.slice sp e.sides.length sc)<|.slice pq e.pairs.length pc) 42 (0,0))::pt b2 (.cells #[.slice p l.length c] 29 (0,0))::s)
     (fun i=>Le g4 i.2.1∧an i.2.1 ((findC l x1).getD aH) i.2.2) ?_ ?_
    ·refine SC.drawX [12] ze5 kR ?_;refine SX.q (i:=0) I kR (qV 3 aj ae I I I) dC<|SX.u (i:=1) I kR (fA a6 I kH I) dC<|SX.q (i:=2) I kR (qL (v:=.slice pq e.pairs.length pc) nB I<|cO 2 I I) dC<|SX.u (i:=3) I kR (mV I) dC<|SX.u (i:=4) I kR (iA mJ p4 I I d oM sL) dC<|SX.u (i:=5) I kR (SU.indexAddrC qw zT3 I d I dC dC) dC<|SX.q (i:=6) I kR (aZ (e:=dZ) (o:=0) (u:=vi x1) iT3 I (za7 G) A I) dC ?_
     repeat' (first
      | (refine SB.o (i:=7) rfl (SO.call call48 rfl<|a8 E g4 _ _ l x1 U hf) dC (.inr (by rintro _ g5 _ ⟨rfl,t,r5,rfl,O⟩; exact⟨by assumption,(by exact .cons _<|.refl _)⟩)) ?_; rintro _ g5 _ ⟨rfl,t,r5,rfl,O⟩; refine SX.u (i:=8) I kD (mV I) dC ?_; refine SX.u (i:=9) I kD (xT I I) dC ?_; refine SX.u (i:=10) I kD (xT I I) dC ?_)
      | (refine SB.o (i:=7) rfl (SO.call call48 rfl<|a8 E g4 _ _ l x1 U hf) dC (.inr (by rintro _ g5 _ ⟨rfl,t,r5,rfl,O⟩; exact⟨by assumption,(by exact .refl _)⟩)) ?_; rintro _ g5 _ ⟨rfl,t,r5,rfl,O⟩; refine SX.u (i:=8) I kD (mV I) dC ?_; refine SX.u (i:=9) I kD (xT I I) dC ?_; refine SX.u (i:=10) I kD (xT I I) dC ?_)
      | (refine SB.o (i:=11) rfl (aL zl7) dC (.inr (by rintro _ _ _ ⟨X,rfl,rfl,rfl⟩; exact⟨by exact zb9 _,(by exact .cons _<|.refl _)⟩)) ?_; rintro _ _ _ ⟨X,rfl,rfl,rfl⟩)
      | (refine SB.o (i:=11) rfl (aL zl7) dC (.inr (by rintro _ _ _ ⟨X,rfl,rfl,rfl⟩; exact⟨by assumption,(by exact .cons _<|.refl _)⟩)) ?_; rintro _ _ _ ⟨X,rfl,rfl,rfl⟩)
      | (refine SB.on (i:=12) I (sK 0 aw I I I I I sB) (.inl dC) ?_; rintro _ _ _ ⟨rfl,rfl⟩; refine SX.u (i:=13) I kD (aS I) dC ?_)
      | refine zd8 7 11 kD ?_ ?_
      | refine zd7 11 kD ?_
      | refine zd7 12 kD ?_
      | refine zd7 7 kD ?_
      | (refine SX.nil kD ?_; exact za9 (X,g5,r5) sB I I ⟨t,O⟩))
    rintro ⟨X,g5,r5⟩ ⟨t,O⟩;obtain ⟨u7,i2,i3,j0,j1⟩:=r5;obtain ⟨f1,f2,n1⟩:=O;dsimp only at t f1 f2 n1 ⊢;have n2:=U.mono t;have a2:=za5 G t;refine SC.cut (ι:=Nat×PH×Rc) (fun i=>[(2,pp b2 0),(3,pp b3 0),(4,pp b4 0),(5,pp b5 0),(8,.slice qg (e.pairs.map Prod.snd).length dg),(12,vi (if (e.pairs.take k3).all (ip l e.pairs) then 0 else 33)),(13,vi k3),(14,pp X 0),(16,pp i.1 0)]) (fun i=>i.2.1)
     (fun i=>pt i.1 (.cells #[vi i.2.2.id,vi i.2.2.dim,.slice i.2.2.sv.p i.2.2.sv.n i.2.2.sv.c] 56 (0,0))::pt X (.cells #[vi u7,vi i2,.slice i3 j0 j1] 56 (0,0))::pt b5 (.cells #[.slice none 0 0,vb false] 35 (0,0))::pt b4 (.cells #[.slice none 0 0] 29 (0,0))::pt b3 (.cells (edV e (.slice sp e.sides.length sc)<|.slice pq e.pairs.length pc) 42 (0,0))::pt b2 (.cells #[.slice p l.length c] 29 (0,0))::s)
     (fun i=>Le g5 i.2.1∧an i.2.1 ((findC l x2).getD aH) i.2.2) ?_ ?_
    ·refine SC.drawX [12] ze5 kR ?_;refine SX.q (i:=0) I kR (qV 4 aj ae I I I) dC<|SX.u (i:=1) I kR (fA a6 I kH I) dC<|SX.q (i:=2) I kR (qL (v:=.slice pq e.pairs.length pc) nB I<|cO 3 I I) dC<|SX.u (i:=3) I kR (mV I) dC<|SX.u (i:=4) I kR (iA mJ p4 I I d oM sL) dC<|SX.u (i:=5) I kR (SU.indexAddrC qw zT3 I d I dC dC) dC<|SX.q (i:=6) I kR (aZ (e:=dZ) (o:=1) (u:=vi x2) iT3 I (za7 a2) A I) dC ?_
     repeat' (first
      | (refine SB.o (i:=7) rfl (SO.call call48 rfl<|a8 E g5 _ _ l x2 n2 hf) dC (.inr (by rintro _ g6 _ ⟨rfl,f,r6,rfl,P⟩; exact⟨by assumption,(by exact .cons _<|.refl _)⟩)) ?_; rintro _ g6 _ ⟨rfl,f,r6,rfl,P⟩; refine SX.u (i:=8) I kD (mV I) dC ?_; refine SX.u (i:=9) I kD (xT I I) dC ?_; refine SX.u (i:=10) I kD (xT I I) dC ?_)
      | (refine SB.o (i:=7) rfl (SO.call call48 rfl<|a8 E g5 _ _ l x2 n2 hf) dC (.inr (by rintro _ g6 _ ⟨rfl,f,r6,rfl,P⟩; exact⟨by assumption,(by exact .refl _)⟩)) ?_; rintro _ g6 _ ⟨rfl,f,r6,rfl,P⟩; refine SX.u (i:=8) I kD (mV I) dC ?_; refine SX.u (i:=9) I kD (xT I I) dC ?_; refine SX.u (i:=10) I kD (xT I I) dC ?_)
      | (refine SB.o (i:=11) rfl (aL zl7) dC (.inr (by rintro _ _ _ ⟨c2,rfl,rfl,rfl⟩; exact⟨by exact zb9 _,(by exact .cons _<|.refl _)⟩)) ?_; rintro _ _ _ ⟨c2,rfl,rfl,rfl⟩)
      | (refine SB.o (i:=11) rfl (aL zl7) dC (.inr (by rintro _ _ _ ⟨c2,rfl,rfl,rfl⟩; exact⟨by assumption,(by exact .cons _<|.refl _)⟩)) ?_; rintro _ _ _ ⟨c2,rfl,rfl,rfl⟩)
      | (refine SB.on (i:=12) I (sK 0 aw I I I I I sB) (.inl dC) ?_; rintro _ _ _ ⟨rfl,rfl⟩; refine SX.u (i:=13) I kD (aS I) dC ?_)
      | refine zd8 7 11 kD ?_ ?_
      | refine zd7 11 kD ?_
      | refine zd7 12 kD ?_
      | refine zd7 7 kD ?_
      | (refine SX.nil kD ?_; exact za9 (c2,g6,r6) sB I I ⟨f,P⟩))
    rintro ⟨c2,g6,r6⟩ ⟨f,P⟩;obtain ⟨y4,n3,n5,n6,o1⟩:=r6;obtain ⟨f3,f4,o2⟩:=P;dsimp only at f f3 f4 o2 ⊢;have u8:ng l x1=i2:=by unfold ng; rw[f2]
    have u9:ng l x2=n3:=by unfold ng; rw[f4]
    rw[u8,u9] at b9 c1;have p0:SlA encSide g6 (.slice i3 j0 j1) (i5 l x1):=za5 n1 f;have p1:SlA encSide g6 (.slice n5 n6 o1) (i5 l x2):=o2;have f5:=za5 a2 f;have S:=t.trans f;refine sQ<|rZ<|lU (fA ao I zT3 I)<|SL.K (qL (v:=vi i2) iT3 I<|cO 1 I I)<|lU (fA ao I zT3 I)<|SL.K (qL (v:=vi n3) iT3 I<|cO 0 I I)<|lU (nQ I I)<|tZ<|iP I (fun j2=>?_) (fun j2=>?_)
    ·rw[zg3<|b9 j2];exact rZ<|SL.K (qV 5 aj ae I I I)<|lU (za3 I buildZ35)<|oZ (sK 3 ae I I I I I sB)<|oZ (sK 2 bQ I I I I I sB)<|aT I<|rE<|tR<|bR<|tR<|tR<|bR<|tR<|ST.retCCT 3 2 s (.inl I) results195 I I I aj ae gw bQ I I I I uR ⟨I,H.trans<|y.trans S,_,_,_,_,I,U.mono S,fun h=>by cases h⟩
    ·have f6:=c1<|Decidable.not_not.1 j2;have a3:e.pairs.length<1099511627776:=oM;refine kP<|tN<|sQ<|dW [] [(0,2),(1,1),(2,2),(3,1),(5,2),(6,1),(7,2),(8,1),(4,0),(9,0),(10,0),(11,2)] ze5 kR<|pU I (fA ao I aM I)<|pK I (qL (v:=.slice i3 j0 j1) br I<|cO 1 I I)<|pU I (fA a6 I kH I)<|pK I (qL (v:=.slice pq e.pairs.length pc) nB I<|cO 4 I I)<|pU I (fA ao I aM I)<|pK I (qL (v:=.slice n5 n6 o1) br I<|cO 0 I I)<|pU I (fA a6 I kH I)<|pK I (qL (v:=.slice pq e.pairs.length pc) nB I<|cO 4 I I)<|SP.o I (SO.call call257 I<|gH E g6 _ _ _ (i5 l x1) e.pairs p0 h9 f5 a3) dC (.inr iR) ?_;rintro v137 g7 _ ⟨rfl,Q,v0⟩;refine SP.o rfl (SO.call call257 rfl<|gH E g7 _ _ _ (i5 l x2) e.pairs (za5 p1 Q) i0 (za5 f5 Q) a3) dC (.inr (by rintro v142 g8 _ ⟨rfl,B,p2⟩; exact⟨by exact Le.trans (by assumption) (by assumption),(by exact .refl _)⟩)) ?_;rintro v142 g8 _ ⟨rfl,B,p2⟩;have c3:=Q.trans B;refine SP.o I (SO.call call115 I<|kO E g8 _ _ _ _ _ (za5 v0 B) p2 (by rw[ze8]; exact h9) (by rw[ze8]; exact i0)) dC (.inr iR) ?_;rintro _ _ _ ⟨rfl,rfl,rfl⟩;rw[← i1];refine pU I (SU.not I)<|pN<|tN ?_;refine iQ I (fun hq=>?_) (fun hq=>?_)
     ·have l0:al=false:=by simpa using hq
      rw[l0,Bool.and_false] at a1;exact rG<|lA I<|SL.nil<|bN<|tN<|rG<|lM I<|yD I<|lA I<|SL.nil<|dR (.cons _<|.cons _<|.refl _)<|ST.again (k3+1,g8) ⟨I,I,I,I,I,(by rw[a1]; rfl),rfl,trivial⟩ rfl rfl ⟨by dsimp only; omega,y.trans<|S.trans c3,f6⟩ (by dsimp only; omega)
     ·have l0:al=true:=by simpa using hq
      rw[l0,Bool.and_true] at a1;exact kP<|bN<|tN<|rG<|lM I<|yD I<|lA I<|SL.nil<|dR (.cons _<|.cons _<|.refl _)<|ST.again (k3+1,g8) ⟨I,I,I,I,I,(by rw[a1]; rfl),rfl,trivial⟩ rfl rfl ⟨by dsimp only; omega,y.trans<|S.trans c3,f6⟩ (by dsimp only; omega)
   ·have p3:e.pairs.take k3=e.pairs:=tL oM;rw[p3] at d2 ⊢;rw[d2,zg2 Bool.false_ne_true];have U:=h4.mono y;have c5:=H.trans y;cases x8:e.pairs.all (ip l e.pairs) with
    | false =>
     have e33:(if false=true then (0:Int) else 33)=33:=rfl;rw[e33];exact xI<|tX<|tX<|bX<|tN<|sQ<|sW I<|lU (nQ I I)<|tZ<|za2 I<|rZ<|SL.K (qV 3 aj ae I I I)<|lU (za3 I buildZ35)<|lM I<|oZ (sK 1 ae I I I I I sB)<|oZ (sK 0 bQ I I I I I sB)<|aT I<|rE<|tR<|ST.retCCT 1 0 s (.inl I) results195 I I I aj ae gw bQ I I I I uR ⟨I,c5,_,_,_,_,I,U,fun h=>by cases h⟩
    | true =>
    have e00:(if true=true then (0:Int) else 33)=0:=rfl;rw[e00,zg3 rfl];have p5:(e.pairs.map Prod.snd).length<1099511627776:=by rw[ze8]; omega
    have a3:e.pairs.length<1099511627776:=oM;have G:=za5 N y;have p6:dp g4 (.slice qg (e.pairs.map Prod.snd).length dg) (e.pairs.map Prod.snd):=za5 e4 y;have p7:=gS hf<|e.pairs.map Prod.snd;have v1:∀ x∈cN l (e.pairs.map Prod.snd),x.sides.length<1099511627776:=fun x hx=>p7.2 x hx;have v3:((am l).map gv).length<1099511627776:=by rw[ze8]; exact (bT hf).1
    have v4:ep l e=(cN l<|e.pairs.map Prod.snd).map (CW<|byF e.pairs):=rfl;rw[v4];generalize v5:cN l (e.pairs.map Prod.snd)=R at *;refine xI<|tX<|tX<|bX<|tN<|sQ<|sW I<|lU (nQ I I)<|tZ<|za1 I<|kP<|tN<|rZ<|SL.K (qV 3 aj ae I I I)<|lM I<|lW (SO.call call254 I<|kW E g4 _ _ _ l (e.pairs.map Prod.snd) U hf p6 p5) ?_;rintro _ _ _ ⟨rfl,u5,T,rfl,Y,rfl⟩;rw[v5] at Y;refine zd4 fun ⟨w0,l1⟩=>?_;obtain ⟨q5,d5,rfl⟩:=ag (i:=0) l1 rfl;have v6:0<T.length→based (.slice q5 T.length d5)=true:=fun h=>(by obtain ⟨b0,c0,he⟩:=bw (i:=0) l1 rfl h; rw[he]; rfl);clear l1 w0;refine bW (aL zl9) fun d3=>?_;refine oZ (sK 0 ae I I I I I sB) ?_;refine tZ<|sQ<|rZ<|aT I<|bK ?_;have x9:=Y.length;have z2:=p7.1;refine oP (ι:=Nat×PH×List Rc) (fun i=>[(2,pp b2 0),(3,pp b3 0),(4,pp b4 0),(5,pp b5 0),(18,pp d3 0),(19,vi i.1)]) (fun i=>i.2.1)
     (fun i=>pt d3 (.cells #[.slice q5 T.length d5] 29 (0,0))::rowA encCell 56 (.slice q5 T.length d5) i.2.2::pt b5 (.cells #[.slice none 0 0,vb false] 35 (0,0))::pt b4 (.cells #[.slice none 0 0] 29 (0,0))::pt b3 (.cells (edV e (.slice sp e.sides.length sc)<|.slice pq e.pairs.length pc) 42 (0,0))::pt b2 (.cells #[.slice p l.length c] 29 (0,0))::s)
     (fun i=>i.1≤R.length∧Le g4 i.2.1∧ax (an i.2.1) ((R.take i.1).map (CW<|byF e.pairs)++R.drop i.1) i.2.2) (fun i=>R.length - i.1) (0,g4,T) sB rfl rfl ⟨zf8 _,zb9 _,Y⟩ ?_
    rintro ⟨k5,g5,ds⟩ ⟨v7,t,b6⟩;dsimp only at v7 t b6 ⊢;have v8:=b6.length;rw[ze7,ze8,ze6,zf2] at v8;refine sQ<|sW I<|lU (fA dn I cq I)<|SL.K (qL (v:=.slice q5 T.length d5) eh I<|cO 0 I I)<|lU (eN aB I)<|yL I<|tZ<|iP I (fun p9=>?_) (fun p9=>?_)
    ·have l2:k5<R.length:=oM;have q0:k5<ds.length:=oM;have d4:=v6 oM;have q1:ds[((k5:Nat):Int).toNat]?=some ds[k5]:=List.getElem?_eq_getElem q0;have v9:=b6.get (Fk (CW (byF e.pairs)) l2) (List.getElem?_eq_getElem q0);have w1:=DE (CW (byF e.pairs)) l2;have w2:=v1 _ (gM l2);have a2:=za5 G t;generalize ds[k5]=x at *;generalize R[k5]=cx at *;obtain ⟨xi,xd,xp,xn,xc⟩:=x;obtain ⟨e1,e2,f7⟩:=v9;dsimp only at e1 e2 f7;subst e1 e2;refine kP (tN (sQ (bK ?_)));refine dW [14] [(0,2),(1,1),(2,2),(3,2),(4,1),(5,2),(6,2),(7,2),(8,1),(9,2),(10,1),(11,0),(12,2),(13,2),(14,0)] ze5 kR<|pU I (fA dn I cq I) (pK I (qL (v:=.slice q5 T.length d5) eh I (cO 0 I I)) (yM I (pU I (fA dn I cq I) (pK I (qL (v:=.slice q5 T.length d5) eh I (cO 0 I I)) (yM I (pU I (iA aB aw I I d4 oM sL) (pU I (fC ao I aM I d4) (pK I (aZ (e:=encCell) (o:=2) br I (zb7 1 I) q1 I) (pU I (fA a6 I kH I) (pK I (qL (v:=.slice pq e.pairs.length pc) nB I (cO 4 I I)) (SP.o I (SO.call call257 I (gH E g5 _ _ _ cx.sides e.pairs f7 w2 a2 a3)) dC (.inr iR) ?_)))))))))));rintro v171 g6 _ ⟨rfl,f,q2⟩;obtain ⟨q6,d6,rfl⟩:=za4 q2;refine pU I (iA aB aw I I d4 oM sL) (pU I (fC ao I aM I d4) (SP.on I (SO.partA (e:=encCell) (a:=(⟨cx.id,cx.dim,⟨xp,xn,xc⟩⟩:Rc)) (j:=((k5:Nat):Int).toNat) (o:=2) 1 ⟨cx.id,cx.dim,⟨q6,(cx.sides.map (kK (byF e.pairs))).length,d6⟩⟩ aM I I I q1 I I dC I) (.inl dC) ?_));rintro _ _ _ ⟨rfl,rfl⟩;refine pN (bN (tN (rG (lM I (yD I (lA I (SL.nil ?_)))))));exact ST.again (k5+1,g6,ds.set k5 ⟨cx.id,cx.dim,⟨q6,(cx.sides.map (kK (byF e.pairs))).length,d6⟩⟩) sB I I ⟨by dsimp only; omega,t.trans f,by
      dsimp only;rw[w1];exact ax.set (R:=an g6) (a:=CW (byF e.pairs) cx) ⟨I,I,q2⟩ k5 (b6.mono fun _ _=>an.mono f)⟩ (by dsimp only; omega)
    ·have q3:R.take k5=R:=tL oM;have q4:R.drop k5=[]:=List.drop_eq_nil_of_le oM;rw[q3,q4,zc7] at b6;have q9:ds.length=T.length:=oM;rw[← q9];refine xI (tX<|tX<|bX<|tN<|sQ<|cP (zk3 _ _ _)<|fS fun g6 f w3=>?_);have w5:ai g6 (.slice q5 ds.length d5) (R.map<|CW<|byF e.pairs):=⟨ds,w3,b6.mono fun _ _=>an.mono f⟩;have c6:=t.trans f;have w6:=U.mono c6;refine rG<|SL.K (qV 4 aj ae I I I)<|lW (SO.call call253 I<|fI E g6 _ _ l w6 hf) ?_;rintro _ g7 _ ⟨rfl,Q,iv,rfl,f8⟩;obtain ⟨q7,n7,d7,rfl⟩:=f8.form;refine bW (aL zl8) fun r0=>oZ (sK 0 p8 I I I I I sB)<|tZ<|sQ<|rZ<|aT I<|bK ?_;have c7:=c6.trans Q;have r1:=za5 G c7;have w7:=w5.mono Q;refine oP (ι:=Nat×PH×Option Addr×Nat×Nat) (fun i=>[(2,pp b2 0),(3,pp b3 0),(4,pp b4 0),(5,pp b5 0),(18,pp d3 0),(20,pp r0 0),(21,vi i.1)]) (fun i=>i.2.1)
      (fun i=>pt r0 (.cells #[.slice i.2.2.1 i.2.2.2.1 i.2.2.2.2] 33 (0,0))::pt d3 (.cells #[.slice q5 ds.length d5] 29 (0,0))::pt b5 (.cells #[.slice none 0 0,vb false] 35 (0,0))::pt b4 (.cells #[.slice none 0 0] 29 (0,0))::pt b3 (.cells (edV e (.slice sp e.sides.length sc)<|.slice pq e.pairs.length pc) 42 (0,0))::pt b2 (.cells #[.slice p l.length c] 29 (0,0))::s)
      (fun i=>i.1≤e.pairs.length∧Le g7 i.2.1∧Ims i.2.1 (.slice i.2.2.1 i.2.2.2.1 i.2.2.2.2) (ft (e.pairs.take i.1)<|(am l).map gv)) (fun i=>e.pairs.length - i.1) (0,g7,q7,n7,d7) sB rfl rfl ⟨zf8 _,zb9 _,f8⟩ ?_
     rintro ⟨k8,g8,q8,n8,d8⟩ ⟨w9,B,a4⟩;dsimp only at w9 B a4 ⊢;refine sQ<|sW I<|lU (fA a6 I kH I)<|SL.K (qL (v:=.slice pq e.pairs.length pc) nB I<|cO 4 I I)<|lU (eN mJ I)<|yL I<|tZ<|iP I (fun r2=>?_) (fun r2=>?_)
     ·have J:k8<e.pairs.length:=oM;have d:=za6 a9 oM;have f9:=za5 r1 B;have A:e.pairs[((k8:Nat):Int).toNat]?=some e.pairs[k8]:=List.getElem?_eq_getElem J;have r3:=vu J<|(am l).map gv;generalize e.pairs[k8]=x at *;obtain ⟨x1,x2⟩:=x;dsimp only at r3;refine kP<|tN<|sQ<|bK<|dW [16] [(0,1),(1,2),(2,1),(3,2),(4,2),(5,2),(6,1),(7,2),(8,1),(9,2),(10,2),(11,2),(12,1),(13,0),(14,0),(15,0),(16,0)] ze5 kR<|pK I (qV 0 isAgg33 p8 I I I)<|pU I (fA a6 I kH I)<|pK I (qL (v:=.slice pq e.pairs.length pc) nB I<|cO 4 I I)<|yM I<|pU I (iA mJ p4 I I d oM sL)<|pU I (SU.indexAddrC qw zT3 I d I dC dC)<|pK I (aZ (e:=dZ) (o:=1) (u:=vi x2) iT3 I (za7 f9) A I)<|pU I (fA a6 I kH I)<|pK I (qL (v:=.slice pq e.pairs.length pc) nB I<|cO 4 I I)<|yM I<|pU I (iA mJ p4 I I d oM sL)<|pU I (SU.indexAddrC qw zT3 I d I dC dC)<|pK I (aZ (e:=dZ) (o:=0) (u:=vi x1) iT3 I (za7 f9) A I)<|SP.o I (SO.call call255 I<|ew E g8 _ x1 1 dC dC) dC (.inr iR) ?_;rintro _ g9 _ ⟨rfl,rfl,r4⟩;refine SP.o I (bS sty77 I I I (ab ⟨I,trivial⟩) dC) dC (.inr iR) ?_;rintro _ _ _ ⟨r7,rfl,rfl,rfl⟩;refine SP.freeze fun r8 l3 r9=>?_;have x0:SlA fm r8 (.slice (some ⟨r7,0,none⟩) 1 1) [(x1,1)]:=SlA.lit r9 rfl rfl;have a5:=r4.trans l3;refine SP.o I (SO.call call256 I<|iL E r8 _ _ _ _ x2 _ (a4.mono a5) (by rw[wG]; exact v3) x0) dC (.inr (by rintro _ g11 _ ⟨rfl,c9,x3,rfl,Z⟩; exact⟨by exact Le.trans (by assumption) (by assumption),(by exact .refl _)⟩)) ?_;rintro _ g11 _ ⟨rfl,c9,x3,rfl,Z⟩;obtain ⟨x4,x5,x6,rfl⟩:=Z.form;refine SP.on I (sK 0 p8 I I I I I sB) (.inl dC) ?_;rintro _ _ _ ⟨rfl,rfl⟩;refine pN<|bN<|tN<|rG<|lM I<|yD I<|lA I<|SL.nil ?_;exact ST.again (k8+1,g11,x4,x5,x6) sB I I ⟨by dsimp only; omega,B.trans<|a5.trans c9,by dsimp only; rw[r3]; exact Z⟩ (by dsimp only; omega)
     ·have s2:e.pairs.take k8=e.pairs:=tL oM;rw[s2] at a4;have x7:=w7.mono B;refine xI<|tX<|tX<|bX<|tN<|sQ ?_;refine SC.drawX [3,4] ze5 kR ?_;refine SX.q (i:=0) I kR (qV 1 aj ae I I I) dC ?_
      repeat' (first
       | (refine SB.o (i:=1) rfl (SQ.sof<|qV 0 isAgg33 p8 rfl rfl rfl) dC (.inr (by rintro _ _ _ ⟨rfl,rfl,rfl⟩; exact⟨by exact zb9 _,(by exact .refl _)⟩)) ?_; rintro _ _ _ ⟨rfl,rfl,rfl⟩; refine SX.u (i:=2) I kD (za3 I<|buildS35 _ _ _) dC ?_)
       | (refine SB.ob (i:=1) I (SQ.sof<|qV 0 isAgg33 p8 I I I) dC kD ?_; rintro _ _ _ ⟨rfl,rfl,rfl⟩; refine SX.u (i:=2) I kD (za3 I<|buildS35 _ _ _) dC ?_)
       | (refine SB.on (i:=3) I (sK 3 ae I I I I I sB) (.inl dC) ?_; rintro _ _ _ ⟨rfl,rfl⟩)
       | (refine SB.on (i:=4) I (sK 2 bQ I I I I I sB) (.inl dC) ?_; rintro _ _ _ ⟨rfl,rfl⟩; refine SX.u (i:=5) I kD (aS I) dC ?_)
       | refine zd8 1 3 kD ?_ ?_
       | refine zd7 3 kD ?_
       | refine zd7 4 kD ?_
       | refine zd7 1 kD ?_
       | (refine SX.nil kD ?_; refine tN ?_; refine rE ?_; exact ST.retCCT 3 2 s (.inl I) results195 I I I aj ae gw bQ I I I I uR ⟨I,c5.trans (c7.trans B),_,_,_,_,I,x7,fun _=>a4⟩))
set_option maxHeartbeats 4000000
def td (fv:Value)(e:Ed)(A:List Cl)(code:Int)(B:List Cl)(img:Int→List Tm)(bk:Bool):Prop :=
 ∀ (E:World) (g:PH) (s:Own) (bx mb ms:Nat) (u v:Value) (rs:List Rc),ai g u A→ax xC A rs→EdR g v e →
  cz Tryz.prog E fv [pp bx 0,v] g (edP bx u mb ms false::mp mb (rs.map aq)::mp ms []::(qd A rs++s)) (fun r g' s'=>Le g g'∧r=vi code∧(if code=0 then ∃ rs' ts,ax (an g') B rs'∧EF ts∧(ts.map Prod.fst).Nodup∧(∀ k,ED ts k=img k)∧s'=edP bx u mb ms bk::mp mb (rs'.map aq)::mp ms (vN ts)::(fW ts++s) else ∃ h,s'=h++s))
def FF (k:Int):List Tm:=[(k,1)]
theorem se.gen {fv:Value}{e:Ed}{A:List Cl}{code:Int}{B:List Cl}{bk:Bool}(h:se fv e A code B bk):td fv e A code B FF bk:=fun E g s bx mb ms u v rs d f i=>by
 obtain ⟨n,cap,q1,q2,q3⟩:=h E g s bx mb ms u v rs d f i;refine⟨n,cap,q1,q2,q3.mono ?_⟩;rintro r g' s' ⟨j,l,a⟩;refine⟨j,l,?_⟩;by_cases c:code=0
 ·rw[zg3 c] at a ⊢;obtain ⟨b,m,rfl⟩:=a;exact⟨b,[],m,fun t o=>by simp at o,List.nodup_nil,fun k=>I,I⟩
 ·rw[zg2 c] at a ⊢;exact a
def ja (g:PH)(code:Int)(D:List Cl)(ims:List (Int×List Tm))(bk:Bool)(r:Value)(g':PH):Prop:=∃ u p n c b,r = .tuple #[.agg #[u],.agg #[.slice p n c,vb b],vi code]∧fV (mns g' g) u D∧(code=0→b=bk∧Ims g' (.slice p n c) ims)∧(code≠0→b=false∧Ims g' (.slice p n c) [])
theorem ja.old {g:PH}{code:Int}{D:List Cl}{ims:List (Int×List Tm)}{bk:Bool}{r:Value}{g':PH}(h:ja g code D ims bk r g'):fu code D ims bk r g':=by
 obtain ⟨u,p,n,c,b,a,d,e⟩:=h;exact⟨u,p,n,c,b,a,d.cells<|fw _ _,e⟩
theorem fV.nil (g:PH):fV g (.slice none 0 0) []:=⟨[],RK.nil _ _ g,trivial⟩
theorem An (E:World)(g:PH)(s:Own)(v ev:Value)(l:List Cl)(e:Ed)(j:ai g v l)(k:aJ l)(m:EdR g ev e)(ims:List (Int×List Tm))(bk:Bool)(b:ex qv e.kind=none∨(ap l).2≠0) :
  Ctr Tryz.prog E 12 #[.agg #[v],ev] g s (fun r g' s'=>s=s'∧Le g g'∧ja g 1 [] ims bk r g'):=by
 obtain ⟨z,hz⟩:=Tryz.mtyKinds;obtain ⟨sv,pv,rfl,d,f⟩:=m;obtain ⟨sp,sc,rfl⟩:=za4 d;obtain ⟨pq,pc,rfl⟩:=za4 f;obtain ⟨p,c,rfl⟩:=j.form;refine zb2 (args:=[.agg #[.slice p l.length c],.agg #[vi e.kind,vi e.cell,vi e.dim,vi e.new,vi e.other,.slice sp e.sides.length sc,.slice pq e.pairs.length pc]]) func12 I ntmps12 (bE I) ?_;cases hg:ex qv e.kind with
 | none =>
  refine rZ (bW (bO I) fun b2=>?_);refine bW (bO I) fun b3=>bW (aL zl9) fun b4=>bW (aL zl4) fun b5=>aT I<|sQ<|dW [] [(1,2),(2,1),(0,0),(3,0),(4,2),(5,2),(6,2),(7,2),(8,2)] ze5 kR<|pU I (fA a6 I zT3 I)<|pK I (qL iT3 I<|cO 2 I I)<|SP.o I (SO.call call40 I<|mY E g _) dC (.inr iR) ?_;rintro _ g1 _ ⟨rfl,a,bq,rfl,i⟩;refine oQ I (SQ.eq (v':=.tuple #[z,vb false]) (SQ.lookupOk hz I I<|bh.known i) (by rw[hg]; rfl)) dC (.inr ⟨by assumption,(by exact .refl _)⟩) ?_;refine yM I<|pU I (xT I I)<|pU I (xT I I)<|pU I (aS I)<|pU I (aS I)<|pN<|tN<|sQ<|sW I<|lU (SU.not I)<|lM I<|yA I<|yA I<|yA I<|yP I<|tZ<|za2 I<|rZ<|lU (za3 I buildE29)<|lU (za3 I buildZ35)<|oZ (sK 1 ae I I I I I sB) ?_;refine oZ (sK 0 bQ I I I I I sB) ?_;refine aT I<|rE<|tR ?_;exact ST.retCCT 1 0 s (.inl I) results12 I I I aj ae gw bQ I I I I uR ⟨I,a,_,_,_,_,_,I,fV.nil _,(fun h=>by cases h),fun _=>⟨I,Ims.nil _⟩⟩
 | some fv =>
  have n:decide ((ap l).2=0)=false:=zf9 (by
   rcases b with h | h
   ·rw[hg] at h; cases h
   ·exact h)
  refine rZ (bW (bO I) fun b2=>?_);refine bW (bO I) fun b3=>bW (aL zl9) fun b4=>bW (aL zl4) fun b5=>aT I<|sQ<|dW [] [(1,2),(2,1),(0,0),(3,0),(4,2),(5,2),(6,2),(7,2),(8,2)] ze5 kR<|pU I (fA a6 I zT3 I)<|pK I (qL iT3 I<|cO 2 I I)<|SP.o I (SO.call call40 I<|mY E g _) dC (.inr iR) ?_;rintro _ g1 _ ⟨rfl,a,bq,rfl,i⟩;refine oQ I (SQ.eq (v':=.tuple #[fv,vb true]) (SQ.lookupOk hz I I<|bh.known i) (by rw[hg]; rfl)) dC (.inr ⟨by assumption,(by exact .refl _)⟩) ?_;refine yM I<|pU I (xT I I)<|pU I (xT I I)<|pU I (aS I)<|pU I (aS I)<|pN<|tN<|sQ<|sW I<|lU (SU.not I)<|lM I<|SL.gq (gT I I I dC) (qV 3 aj ae I I I) dC<|ze3 (gT I I I dC) (SO.call call41 I<|mg E g1 _ _ l (j.mono a) k false n) dC ?_;rintro _ _ _ ⟨rfl,rfl,rfl⟩;refine lY I I I (SU.not I)<|yF I<|tZ<|za2 I<|rZ<|lU (za3 I buildE29)<|lU (za3 I buildZ35)<|oZ (sK 1 ae I I I I I sB) ?_;refine oZ (sK 0 bQ I I I I I sB) ?_;refine aT I<|rE<|tR ?_;exact ST.retCCT 1 0 s (.inl I) results12 I I I aj ae gw bQ I I I I uR ⟨I,a,_,_,_,_,_,I,fV.nil _,(fun h=>by cases h),fun _=>⟨I,Ims.nil _⟩⟩
theorem Am (E:World)(g:PH)(s:Own)(v ev:Value)(l:List Cl)(e:Ed)(M:ai g v l)(N:aJ l)(X:EdR g ev e)(hr:(ap l).2=0)(fv:Value)(code:Int)(B:List Cl)(bk:Bool)(hg:ex qv e.kind=some fv)(img:Int→List Tm)(C:td fv e (aa l) code B img bk)(hB:code=0→aJ B∧(B.map Cl.id).Nodup) :
  Ctr Tryz.prog E 12 #[.agg #[v],ev] g s (fun r g' s'=>s=s'∧Le g g'∧ja g (aV code B).1 (aV code B).2 ((if bk then aa B else aa l).map fun c=>(c.id,img c.id)) bk r g'):=by
 obtain ⟨z,hz⟩:=Tryz.mtyKinds;have O:=X;obtain ⟨sv,pv,rfl,P,Q⟩:=X;obtain ⟨sp,sc,rfl⟩:=za4 P;obtain ⟨pq,pc,rfl⟩:=za4 Q;obtain ⟨p,c,rfl⟩:=M.form;have hc:decide ((ap l).2=0)=true:=zg1 hr;have R:((aa l).map Cl.id).Nodup:=by
  rw[List.Nodup,zk6];exact (iI hr).asc.imp fun h=>by omega
 have S:=aA N;refine zb2 (args:=[.agg #[.slice p l.length c],.agg #[vi e.kind,vi e.cell,vi e.dim,vi e.new,vi e.other,.slice sp e.sides.length sc,.slice pq e.pairs.length pc]]) func12 I ntmps12 (bE I)<|rZ (bW (bO I) fun b2=>?_);refine bW (bO I) fun b3=>bW (aL zl9) fun b4=>bW (aL zl4) fun b5=>aT I<|sQ<|dW [] [(1,2),(2,1),(0,0),(3,0),(4,2),(5,2),(6,2),(7,2),(8,2)] ze5 kR<|pU I (fA a6 I zT3 I)<|pK I (qL iT3 I<|cO 2 I I)<|SP.o I (SO.call call40 I<|mY E g _) dC (.inr iR) ?_;rintro _ g1 _ ⟨rfl,a,bq,rfl,hk⟩;refine oQ I (SQ.eq (v':=.tuple #[fv,vb true]) (SQ.lookupOk hz I I<|bh.known hk) (by rw[hg]; rfl)) dC (.inr ⟨by assumption,(by exact .refl _)⟩) ?_;refine yM I<|pU I (xT I I)<|pU I (xT I I)<|pU I (aS I)<|pU I (aS I)<|pN<|tN<|sQ<|sW I<|lU (SU.not I)<|lM I<|SL.gq (gT I I I dC) (qV 3 aj ae I I I) dC<|ze3 (gT I I I dC) (SO.call call41 I<|mg E g1 _ _ l (M.mono a) N true hc) dC ?_;rintro _ _ _ ⟨rfl,rfl,rfl⟩;refine lY I I I (SU.not I)<|yF I<|tZ<|za1 I<|kP<|tN<|rZ<|SL.K (qV 3 aj ae I I I)<|lW (SO.call call42 I<|Du E g1 _ _ l (M.mono a) N R) ?_;rintro _ g2 _ ⟨d,bx,u,mb,ms,rs,rfl,Y,hO,rfl⟩;refine aT I<|sW I<|lM I<|SL.K (qV ((qd (aa l) rs).length+2+3) j3 eu I (by exact (uo (qd (aa l) rs) _ 2).trans I) I) ?_;refine lW (SO.callV I I<|C E g2 _ bx mb ms u _ rs Y hO<|O.mono<|a.trans d) ?_;rintro _ g3 _ ⟨f,rfl,b⟩;by_cases j:code=0
 ·obtain ⟨D,T⟩:=hB j;subst j;rw[zg3 rfl] at b;obtain ⟨F,ts,G,U,V,H,rfl⟩:=b;refine SL.to (g':=g3) (s':=edP bx u mb ms bk::mp mb (F.map aq)::mp ms (vN ts)::pt b5 (.cells #[.slice none 0 0,vb false] 35 (0,0))::pt b4 (.cells #[.slice none 0 0] 29 (0,0))::pt b3 (.cells #[vi e.kind,vi e.cell,vi e.dim,vi e.new,vi e.other,.slice sp e.sides.length sc,.slice pq e.pairs.length pc] 42 (0,0))::pt b2 (.cells #[.slice p l.length c] 29 (0,0))::(fW ts++s)) (fun w hw=>hw.perm (((List.perm_append_comm_assoc (fW ts) [pt b5<|.cells #[.slice none 0 0,vb false] 35 (0,0),pt b4<|.cells #[.slice none 0 0] 29 (0,0),pt b3<|.cells #[vi e.kind,vi e.cell,vi e.dim,vi e.new,vi e.other,.slice sp e.sides.length sc,.slice pq e.pairs.length pc] 42 (0,0),pt b2<|.cells #[.slice p l.length c] 29 (0,0)] s).cons _).cons _ |>.cons _)) ?_;have J:=aA D;have k:aV 0 B=if (ap<|aa B).2≠0 then ((ap<|aa B).2,[]) else (0,aa B):=rfl
  rw[k];refine aT I (rZ<|bW (aL zl9) fun q=>?_);refine tZ (sQ<|sW I<|yE I<|tZ<|za2 I<|sQ<|cP (List.perm_middle (l₁:=[pt q<|.cells #[.slice none 0 0] 29 (0,0),edP bx u mb ms bk]))<|SC.freezeMap fun g4 i W=>?_);refine rG<|lM I<|lW (SO.call call43 I<|zC E g4 _ bx mb ms u bk B F (G.mono fun _ _=>an.mono i) T D W 1 I) ?_;rintro _ g5 _ ⟨rfl,m,u5,rfl,L⟩;have t:=L.cells<|fw _ _;obtain ⟨p5,c5,rfl⟩:=t.form;refine oZ (sK 0 ae I I I I I sB)<|tZ<|rG<|SL.K (qV 0 aj ae I I I)<|lW (SO.call call14 I<|m7 E g5 _ _ (aa B) t J) ?_;rintro _ _ _ ⟨rfl,rfl,rfl⟩;refine lM I<|yX I<|yX I<|aT I<|sQ<|sW I<|lU (nQ I I)<|tZ<|iP I (fun x=>?_) (fun x=>?_)
  ·have y:(if (ap<|aa B).2≠0 then ((ap<|aa B).2,[]) else ((0:Int),aa B))=((ap<|aa B).2,[]):=zg3 x;rw[y];exact rZ<|lU (za3 I buildE29)<|lU (za3 I buildZ35)<|lM I<|oZ (sK 4 ae I I I I I sB)<|oZ (sK 3 bQ I I I I I sB)<|aT I<|rE<|tR<|ST.retCCT 4 3 s (.inl I) results12 I I I aj ae gw bQ I I I I (.cons _<|.cons _<|.cons _<|.cons _<|.cons _<|.cons _<|.cons _<|List.sublist_append_right _ _) ⟨I,a.trans<|d.trans<|f.trans<|i.trans m,_,_,_,_,_,I,fV.nil _,fun h=>absurd h x,fun _=>⟨I,Ims.nil _⟩⟩
  ·have y:(if (ap<|aa B).2≠0 then ((ap<|aa B).2,[]) else ((0:Int),aa B))=(0,aa B):=zg2 x;rw[y];refine kP<|tN<|sQ<|SC.drawT 1 [4,5] [(0,1),(1,2),(2,1),(3,0),(4,0),(5,0),(6,2)] ze5 kR<|pK rfl (qV 0 aj ae rfl rfl rfl)<|yM rfl<|pK rfl (qV 0 aj ae rfl rfl rfl)<|SP.o rfl (SO.call call44 rfl<|BG E g5 [pt q<|.cells #[.slice p5 (aa B).length c5] 29 (0,0),edP bx u mb ms bk,mp ms<|vN ts,pt b5<|.cells #[.slice none 0 0,vb false] 35 (0,0),pt b4<|.cells #[.slice none 0 0] 29 (0,0),pt b3<|.cells #[vi e.kind,vi e.cell,vi e.dim,vi e.new,vi e.other,.slice sp e.sides.length sc,.slice pq e.pairs.length pc] 42 (0,0),pt b2<|.cells #[.slice p l.length c] 29 (0,0)] s bx mb ms u _ bk (aa l) (aa B) ts U V (Y.mono<|f.trans<|i.trans m) t S.1 J.1 1 2 rfl rfl) dC (.inr (by rintro _ g6 _ ⟨rfl,n,iv,rfl,A⟩; exact⟨by assumption,(by exact .cons_cons _<|List.nil_sublist _)⟩)) ?_;rintro _ g6 _ ⟨rfl,n,iv,rfl,A⟩;obtain ⟨p6,n6,c6,rfl⟩:=A.form;refine SP.on I (sK 4 ae I I I I I sB) (.inl dC) ?_;rintro _ _ _ ⟨rfl,rfl⟩;refine SP.on I (sK 3 bQ I I I I I sB) (.inl dC) ?_;rintro _ _ _ ⟨rfl,rfl⟩;refine pU I (aS I)<|pN<|tN<|rE ?_;exact ST.retCCT 4 3 s (.inl I) results12 I I I aj ae gw bQ I I I I uR ⟨I,a.trans<|d.trans<|f.trans<|i.trans<|m.trans n,_,_,_,_,_,I,(L.mono<|jU<|a.trans<|d.trans<|f.trans i).mono<|ik n,fun _=>⟨I,by rw[show (fun c:Cl=>(c.id,img c.id))=fun c:Cl=>(c.id,ED ts c.id) from funext fun c=>by rw[H]]; exact A⟩,fun h=>absurd I h⟩
 ·rw[zg2 j] at b;obtain ⟨h,rfl⟩:=b;have k:aV code B=(code,[]):=zg3 j;rw[k];refine SL.drop (List.sublist_append_right _ _) (aT I<|rZ<|bW (aL zl9) fun q=>?_);refine tZ<|sQ<|sW I<|yE I<|tZ<|iP I (fun Z=>?_) (fun Z=>?_)
  ·exact absurd Z j
  ·refine kP<|tN<|sQ<|sW I<|lU (nQ I I)<|tZ<|iP I (fun x=>?_) (fun x=>?_)
   ·exact rZ<|lU (za3 I buildE29)<|lU (za3 I buildZ35)<|lM I<|oZ (sK 2 ae I I I I I sB)<|oZ (sK 1 bQ I I I I I sB)<|aT I<|rE<|tR<|ST.retCCT 2 1 s (.inl I) results12 I I I aj ae gw bQ I I I I uR ⟨I,a.trans<|d.trans f,_,_,_,_,_,I,fV.nil _,fun h=>absurd h j,fun _=>⟨I,Ims.nil _⟩⟩
   ·exact absurd j x
set_option maxHeartbeats 1000000
theorem Rt.findC {A:List Cl}(h:Rt A)(id:Int):findC A id=ah A id:=by
 unfold Go.Proofs.YtbbppeihhkhkcaaGreatDoor.findC;rw[h.tab];rfl
theorem Rt.ids {A:List Cl}(h:Rt A):(A.map Cl.id).Nodup:=by
 rw[List.Nodup,zk6];exact h.asc.imp fun h=>by omega
theorem Rt.few64 {A:List Cl}(h:Rt A){c:Cl}(a:c∈A):c.sides.length≤64:=(i8 (h.form c a).ok).1
theorem Rt.signs {A:List Cl}(h:Rt A){c:Cl}(a:c∈A):∀ x∈c.sides,x.sign=1∨x.sign = -1:=(h.form c a).sg
theorem Rt.difS {A:List Cl}(h:Rt A){c:Cl}(a:c∈A):(c.sides.map ak.cell).Nodup:=by
 rw[List.Nodup,zk6];exact (h.form c a).asc.imp fun h=>by omega
theorem Rt.getD {A:List Cl}(_:Rt A)(id:Int):((ah A id).getD aH)=aH∨((ah A id).getD aH)∈A:=by
 cases h:ah A id with
 | none=>exact .inl rfl
 | some c=>exact .inr (aG h).1
theorem Rt.fits {A:List Cl}(h:Rt A):aJ A:=⟨by have:=h.few; omega,fun c a=>by have:=h.few64 a; omega⟩
theorem Rt.mem_above {A:List Cl}(h:Rt A){k id:Int}:id∈aC A k↔∃ c∈A,c.id=id∧nY c k=true:=by
 unfold aC;rw[h.tab,zf4];constructor
 ·rintro ⟨c,d,rfl⟩;obtain ⟨a,b⟩:=zh6.1 d;exact⟨c,a,I,b⟩
 ·rintro ⟨c,a,rfl,b⟩;exact⟨c,zh6.2 ⟨a,b⟩,I⟩
theorem Rt.not_self {A:List Cl}(h:Rt A)(k:Int):k ∉ aC A k:=fun f=>by
 obtain ⟨c,b,rfl,e⟩:=h.mem_above.1 f;unfold nY at e;obtain ⟨x,g,i⟩:=zk1.1 e;obtain ⟨d,a,j⟩:=(h.form c b).found x g;rw[zg5 i,h.find b] at a;cases a;omega
theorem Rt.edge {A:List Cl}(h:Rt A){c:Cl}(f:c∈A)(hd:c.dim=1):∃ z0 z1,c.sides=[z0,z1]∧((z0.sign=1∧z1.sign = -1)∨(z0.sign = -1∧z1.sign=1)):=by
 have a:=h.form c f;have d:=a.cnt;have g:c.sides.length=2:=by
  unfold aO at d;simp[hd] at d;omega
 obtain ⟨z0,z1,b⟩:∃ z0 z1,c.sides=[z0,z1]:=by
  match i:c.sides,g with
  | [z0,z1],_=>exact⟨z0,z1,rfl⟩
 refine⟨z0,z1,b,?_⟩;have e:=a.one hd;have j:=a.sg z0 (by rw[b]; simp);have k:=a.sg z1 (by rw[b]; simp);rw[b] at e;simp[nf] at e;omega
theorem rI {A:List Cl}(h:Rt A)(e:Ed):cJ A e=sa A e:=by
 unfold cJ sa;rw[h.findC,h.findC,Bool.and_comm]
theorem xk {A:List Cl}(h:Rt A)(e:Ed):∀ x∈lC A e,x.sign=1∨x.sign = -1:=by
 unfold lC
 rcases h.getD e.other with a | a
 ·rw[a]; intro x b; cases b
 ·exact h.signs a
theorem vG {A:List Cl}(h:Rt A)(e:Ed):(lC A e).length≤64:=by
 unfold lC
 rcases h.getD e.other with a | a
 ·rw[a]; decide
 ·exact h.few64 a
theorem oB {k m:Int}{ch x:List Tm}(h:m=k):c8 k ch (m,x)=(m,ch):=zg3 h
theorem l7 {k m:Int}{ch x:List Tm}(h:¬ m=k):c8 k ch (m,x)=(m,x):=zg2 h
def AM (A:List Cl)(e:Ed)(k:Int):List Tm:=if k=e.cell then fH A e else if k=e.other then [] else [(k,1)]
theorem Af {A:List Cl}(h:Rt A)(e:Ed)(f:aC A e.cell=[e.other]):(((am A).map gv).map<|c8 e.cell<|fH A e).map (c8 e.other [])=A.map fun c=>(c.id,AM A e c.id):=by
 have d:e.cell≠e.other:=fun g=>by
  have:=h.not_self e.cell;rw[f,g] at this;exact this (by simp)
 rw[h.tab,zi7,zi7];refine zc9 fun c _=>?_;show c8 e.other [] (c8 e.cell (fH A e) (c.id,[(c.id,1)]))=_;unfold AM;by_cases a:c.id=e.cell
 ·rw[oB a,l7 (by rw[a]; exact d),zg3 a]
 ·rw[l7 a,zg2 a];by_cases b:c.id=e.other
  ·rw[oB b,zg3 b]
  ·rw[l7 b,zg2 b]
theorem vm {A:List Cl}(h:Rt A)(e:Ed):bo A e=eH A e:=by
 unfold bo eH;rw[h.findC,h.findC,h.findC];have a:(e.new<1∨e.other<1∨e.new=e.other)↔(min e.new e.other<1∨e.new=e.other):=oM;simp only[a]<;>cases ah A e.cell <;> rfl
theorem uh {e:Ed}:∀ {S:List ak},(S.map ak.cell).Nodup→eE e S=if S.any (fun x=>decide (x.cell=e.cell)) then [⟨e.other,FR S e.cell⟩] else []
 | [],_=>rfl
 | x::S,hn=>by
  rw[zg6,zk4] at hn;by_cases a:x.cell=e.cell
  ·have b:∀ y∈S,y.cell≠e.cell:=fun y c e'=>hn.1<|zf4.2 ⟨y,c,by rw[e',a]⟩;have d:S.filter (fun x=>decide (x.cell=e.cell))=[]:=List.filter_eq_nil_iff.2 fun y c=>by simp[b y c]
   unfold eE FR;simp[a,d]
  ·have ih:=uh (e:=e) hn.2;unfold eE FR at ih ⊢;simp[a] at ih ⊢;exact ih
theorem xY {c:Cl}:∀ {B:List Cl},(B.map Cl.id).Nodup→(∃ x∈B,x.id=c.id)→lP B c=B.map fun y=>if y.id=c.id then c else y
 | [],_,⟨x,d,_⟩=>by cases d
 | x::B,hn,d=>by
  rw[zg6,zk4] at hn;unfold lP;by_cases a:c.id=x.id
  ·rw[zg3 a,zg6,zg3 a.symm];congr 1;have:B.map (fun y=>if y.id=c.id then c else y)=B.map id:=zc9 fun y b=>by
    rw[zg2 fun e=>hn.1<|zf4.2 ⟨y,b,by rw[e,a]⟩];rfl
   rw[this,List.map_id]
  ·rw[zg2 a,zg6,zg2 fun e=>a e.symm];congr 1;refine xY hn.2 ?_;obtain ⟨y,b,f⟩:=d
   rcases zf3.1 b with rfl | b
   ·exact absurd f.symm a
   ·exact⟨y,b,f⟩
theorem yu {A:List Cl}{k:Int}(h:(ah A k).isSome=false):∀ x∈A,x.id≠k:=fun x b c=>by
 have a:(ah A k).isSome=true:=by
  unfold ah;rw[List.find?_isSome];exact⟨x,b,by simpa using c⟩
 rw[h] at a;cases a
theorem DV {S:List ak}{z0 z1:ak}(hl:S=[z0,z1])(h:(z0.sign=1∧z1.sign = -1)∨(z0.sign = -1∧z1.sign=1)):kM S true=⟨(kM S true).cell,1⟩∧kM S false=⟨(kM S false).cell,-1⟩:=by
 subst hl;obtain ⟨c0,s0⟩:=z0;obtain ⟨c1,s1⟩:=z1
 rcases h with ⟨a,b⟩ | ⟨a,b⟩ <;> dsimp only at a b <;> subst a <;> subst b <;> exact⟨rfl,rfl⟩
theorem ph {A:List Cl}(h:Rt A)(e:Ed)(f:eH A e=0):nI A e=A.map (bH e (kM ((findC A e.cell).getD aH).sides false).cell)++[⟨e.new,0,[]⟩,⟨e.other,1,[⟨e.new,-1⟩,⟨(kM ((findC A e.cell).getD aH).sides true).cell,1⟩]⟩]:=by
 rw[h.findC];unfold eH at f;cases u:ah A e.cell with
 | none=>rw[u] at f; cases f
 | some c =>
 rw[u] at f;dsimp only at f;split at f
 ·cases f
 rename_i hd;split at f
 ·cases f
 rename_i r;split at f
 ·cases f
 rename_i p;rw[zj6,not_or,zj9,zj9] at p;have hd:c.dim=1:=Decidable.not_not.1 hd;obtain ⟨g,m⟩:=aG u;obtain ⟨z0,z1,hz,v⟩:=h.edge g hd;obtain ⟨e1,e2⟩:=DV hz v;unfold nI;rw[u,Option.getD_some];generalize kM c.sides true=zt at *;generalize kM c.sides false=zf at *;have i:(ge A e<|aC A e.cell).map Cl.id=A.map Cl.id:=by
  unfold ge;rw[zi7];refine zc9 fun y _=>?_;show (if y.id∈aC A e.cell then we e y else y).id=y.id;split <;> rfl
 have b:∀ k,(∃ x∈ge A e (aC A e.cell),x.id=k)→∃ x∈A,x.id=k:=fun k ⟨x,d,a⟩=>by
  have j:k∈(ge A e<|aC A e.cell).map Cl.id:=zf4.2 ⟨x,d,a⟩;rw[i] at j;obtain ⟨y,l,a⟩:=zf4.1 j;exact⟨y,l,a⟩
 have n:=yu p.1;have o:=yu p.2;have s:lP (ge A e<|aC A e.cell) ⟨e.new,0,[]⟩=ge A e (aC A e.cell)++[⟨e.new,0,[]⟩]:=nP fun x d a=>by
  obtain ⟨y,l,a⟩:=b e.new ⟨x,d,a⟩;exact n y l a
 have t:lP (ge A e (aC A e.cell)++[⟨e.new,0,[]⟩]) ⟨e.other,1,[⟨e.new,-1⟩,zt]⟩=(ge A e (aC A e.cell)++[⟨e.new,0,[]⟩])++[⟨e.other,1,[⟨e.new,-1⟩,zt]⟩]:=nP fun x d a=>by
  rcases zf5.1 d with d | d
  ·obtain ⟨y,l,a⟩:=b e.other ⟨x,d,a⟩;exact o y l a
  ·simp at d;subst d;exact r<|.inr a
 have w:e.cell≠e.new:=fun a=>n c g (by rw[m,a]);have B:e.cell≠e.other:=fun a=>o c g (by rw[m,a]);have C:(((ge A e (aC A e.cell)++[(⟨e.new,0,[]⟩:Cl)])++[(⟨e.other,1,[⟨e.new,-1⟩,zt]⟩:Cl)]).map Cl.id).Nodup:=by
  rw[← t,← s];exact kB<|kB (by rw[i]; exact h.ids)
 rw[s,t,xY C]
 ·rw[zg7,zg7,zh1];congr 1
  ·unfold ge;rw[zi7];refine zc9 fun y l=>?_;show (if (if y.id∈aC A e.cell then we e y else y).id=e.cell then _ else _)=_;have D:(if y.id∈aC A e.cell then we e y else y).id=y.id:=by split <;> rfl
   rw[D];unfold bH;by_cases j:y.id=e.cell
   ·have E:y=c:=h.same l g (by rw[j,m]);subst E;rw[zg3 j,zg3 j,j,hd,e2]
   ·rw[zg2 j,zg2 j,uh<|h.difS l];by_cases q:nY y e.cell=true
    ·have F:y.id∈aC A e.cell:=h.mem_above.2 ⟨y,l,rfl,q⟩;unfold nY at q;rw[zg3 F,zg3 q];rfl
    ·have F:y.id ∉ aC A e.cell:=fun H=>by
      obtain ⟨z,hz,a,G⟩:=h.mem_above.1 H;rw[h.same hz l a] at G;exact q G
     unfold nY at q;rw[zg2 F,zg2 q,zc7]
  ·simp only[zg6,List.map_nil,List.cons_append,List.nil_append];rw[zg2 (by exact fun a=>w a.symm),zg2 (by exact fun a=>B a.symm),e1]
 ·have j:e.cell∈(ge A e<|aC A e.cell).map Cl.id:=by
   rw[i];exact zf4.2 ⟨c,g,m⟩
  obtain ⟨x,d,a⟩:=zf4.1 j;exact (by exact⟨x,List.mem_append_left _<|List.mem_append_left _ d,a⟩)
theorem ShC.refl (c:Cl):ShC c c:=⟨rfl,rfl,.refl _⟩
theorem De {A:List Cl}(h:Rt A)(e:Ed)(a:eH A e=0):ShL (nI A e) (dK A e):=by
 refine⟨dK A e,?_,?_⟩
 ·rw[ph h e a];exact List.perm_append_comm
 ·have:∀ l:List Cl,ax ShC l l:=fun l=>by
   induction l with
   | nil=>trivial
   | cons x l ih=>exact⟨ShC.refl x,ih⟩
  exact this _
def sj (e:Ed)(k:Int):List Tm:=if k=e.cell then dv e else [(k,1)]
theorem vk {A:List Cl}(h:Rt A)(e:Ed):((am A).map gv).map (c8 e.cell<|dv e)=A.map fun c=>(c.id,sj e c.id):=by
 rw[h.tab,zi7];refine zc9 fun c _=>?_;show c8 e.cell (dv e) (c.id,[(c.id,1)])=_;unfold sj;by_cases a:c.id=e.cell
 ·rw[oB a,zg3 a]
 ·rw[l7 a,zg2 a]
theorem ny {A:List Cl}(h:Rt A)(e:Ed):dq A e=jJ A e:=by
 have a:ng A=CT A:=funext fun id=>by unfold ng CT; rw[h.findC]
 have b:i5 A=wh A:=funext fun id=>by unfold i5 wh; rw[h.findC]
 have c:ip A e.pairs=AO A e.pairs:=funext fun p=>by unfold ip AO; rw[b]
 have d:(fun p:Pr=>(findC A p.1).isSome&&(findC A p.2).isSome)=fun p=>(ah A p.1).isSome&&(ah A p.2).isSome:=funext fun p=>by rw[h.findC,h.findC]
 unfold dq jJ;rw[a,c,d]
theorem DM (A:List Cl)(e:Ed):ShL (jV A e) (ep A e):=by
 refine⟨jV A e,.refl _,?_⟩;unfold jV ep;have:cN A (e.pairs.map Prod.snd)=tg A (e.pairs.map Prod.snd):=rfl;rw[this];generalize tg A (e.pairs.map Prod.snd)=l;induction l with
 | nil=>trivial
 | cons c l ih=>exact⟨⟨rfl,rfl,iK _⟩,ih⟩
theorem sr {k:Int}:∀ {ps:List Pr} (ch:List Tm),(ps.map Prod.snd).Nodup→ps.foldl (fun p q=>c8 q.2 [(q.1,1)] p) (k,ch)=(k,match byF ps k with | some t=>[(t,1)] | none=>ch)
 | [],_,_=>rfl
 | q::ps,ch,hn=>by
  rw[zg6,zk4] at hn;rw[zj1];by_cases a:k=q.2
  ·have b:c8 q.2 [(q.1,1)] (k,ch)=(k,[(q.1,1)]):=zg3 a;have d:byF ps k=none:=by
    unfold byF;rw[Option.map_eq_none_iff,List.find?_eq_none];intro p f g;exact hn.1<|zf4.2 ⟨p,f,by rw[← a]; simpa using g⟩
   have c:byF (q::ps) k=some q.1:=by unfold byF; rw[List.find?_cons_of_pos (by simpa using a.symm)]; rfl
   rw[b,sr _ hn.2,d,c]
  ·have b:c8 q.2 [(q.1,1)] (k,ch)=(k,ch):=zg2 a;have c:byF (q::ps) k=byF ps k:=by unfold byF; rw[List.find?_cons_of_neg (by simpa using fun e=>a e.symm)]
   rw[b,sr _ hn.2,c]
theorem pn:∀ (ps:List Pr) (M:List (Int×List Tm)),ft ps M=M.map fun p=>ps.foldl (fun p q=>c8 q.2 [(q.1,1)] p) p
 | [],M=>by simp[ft]
 | q::ps,M=>by
  have a:ft (q::ps) M=ft ps (M.map<|c8 q.2 [(q.1,1)]):=rfl;rw[a,pn ps,zi7];rfl
theorem vC {A:List Cl}(h:Rt A)(e:Ed)(hd:y9 e.pairs=false):ft e.pairs ((am A).map gv)=A.map fun c=>(c.id,sS e c.id):=by
 have hn:(e.pairs.map Prod.snd).Nodup:=tw (by
  unfold y9 at hd;rw[decide_eq_false_iff_not,Decidable.not_not] at hd;exact hd)
 rw[h.tab,pn,zi7];refine zc9 fun c _=>?_;show e.pairs.foldl (fun p q=>c8 q.2 [(q.1,1)] p) (c.id,[(c.id,1)])=_;rw[sr _ hn];unfold sS;cases byF e.pairs c.id <;> rfl
theorem Cm {A:List Cl}{e:Ed}(h:jJ A e=0):y9 e.pairs=false:=by
 unfold jJ at h;split at h
 ·split at h
  ·cases h
  ·rename_i a; simpa using a
 ·cases h
set_option maxHeartbeats 2000000
def bG (A:List Cl)(e:Ed):Int:=if e.kind=1 then gU A e else if e.kind=2 then kA A e else if e.kind=3 then eH A e else if e.kind=4 then jJ A e else if e.kind=5 then sa A e else 1
def cG (A:List Cl)(e:Ed):List Cl:=if e.kind=1 then A++[⟨e.cell,e.dim,e.sides⟩] else if e.kind=2 then cN A [e.cell] else if e.kind=3 then dK A e else if e.kind=4 then ep A e else cN A [e.cell,e.other]
def y8 (A:List Cl)(e:Ed)(k:Int):List Tm:=if e.kind=3 then sj e k else if e.kind=4 then sS e k else if e.kind=5 then AM A e k else [(k,1)]
def bkK (e:Ed):Bool:=decide (e.kind=2)
def dM (l:List Cl)(e:Ed):Int×List Cl:=if (ap l).2=0 then aV (bG (aa l) e) (cG (aa l) e) else (1,[])
def AE (l:List Cl)(e:Ed):List (Int×List Tm):=(if bkK e then (dM l e).2 else aa l).map fun c=>(c.id,y8 (aa l) e c.id)
theorem fu.congr {code:Int}{D:List Cl}{ims ims':List (Int×List Tm)}{bk bk':Bool}{r:Value}{g:PH}(h:fu code D ims bk r g)(e:code=0→ims=ims')(hb:code=0→bk=bk'):fu code D ims' bk' r g:=by
 obtain ⟨u,p,n,c,b,f,i,j,k⟩:=h;refine⟨u,p,n,c,b,f,i,fun a=>?_,k⟩;obtain ⟨l,d⟩:=j a;rw[e a] at d;exact⟨l.trans<|hb a,d⟩
theorem BO {A:List Cl}(hn:(A.map Cl.id).Nodup)(a:Int):AF A a=cN A [a]:=by
 have b:A=tg A []:=(List.filter_eq_self.2 fun _ _=>by simp).symm;have:=BQ hn [] a;rw[← b] at this;exact this
theorem BP {A:List Cl}(hn:(A.map Cl.id).Nodup)(ks:List Int):((cN A ks).map Cl.id).Nodup:=(List.filter_sublist.map Cl.id).nodup hn
theorem ue {A:List Cl}(h:Rt A)(ks:List Int):aa (cN A ks)=cN A ks∧am (cN A ks)=cN A ks:=by
 have e:(cN A ks).Pairwise fun a b=>a.id<b.id:=h.asc.sublist List.filter_sublist;have d:aa (cN A ks)=cN A ks:=by
  unfold aa;rw[(bI (key:=Cl.id) (e.imp fun h=>by omega)<|aI.refl _).symm];have:∀ c∈cN A ks,ci c=c:=fun c f=>by
   unfold ci;rw[(bI (key:=ak.cell) ((h.form c (zh6.1 f).1).asc.imp fun h=>by omega)<|aI.refl c.sides).symm]
  rw[zc9 this];simp
 exact⟨d,by rw[bP (by rw[d]; exact e),d]⟩
theorem zw {A:List Cl}(h:Rt A)(e:Ed)(a:eH A e=0):aJ (nI A e):=by
 rw[ph h e a];have hl:=h.few;refine⟨by simp only[ze7,ze8,zf1,zc5]; omega,fun c a=>?_⟩
 rcases zf5.1 a with a | a
 ·obtain ⟨y,b,rfl⟩:=zf4.1 a;have d:=h.few64 b;have f:(eE e y.sides).length≤y.sides.length:=by unfold eE; rw[ze8]; exact zc6 _ _
  unfold bH;split
  ·simp
  ·simp only[ze7]; omega
 ·simp at a
  rcases a with rfl | rfl <;> simp
theorem z7 {A:List Cl}(a:aJ A)(e:Ed):aJ (jV A e):=by
 refine⟨?_,fun c b=>?_⟩
 ·unfold jV;rw[ze8];exact Nat.lt_of_le_of_lt (zc6 _ _) a.1
 ·unfold jV at b;obtain ⟨y,d,rfl⟩:=zf4.1 b;have f:=a.2 y (zh6.1 d).1;show (lJ<|y.sides.map<|kK<|byF e.pairs).length<_;rw[(iK _).length_eq,ze8];exact f
theorem Ak {A:List Cl}{e:Ed}(h:gU A e=0):lP A ⟨e.cell,e.dim,e.sides⟩=A++[⟨e.cell,e.dim,e.sides⟩]:=by
 refine nP fun x b a=>?_;unfold gU at h;have c:(ah A e.cell).isSome=true:=by
  unfold ah;rw[List.find?_isSome];exact⟨x,b,by simpa using a⟩
 rw[c] at h;cases h
def EM (A:List Cl)(e:Ed):Prop :=
  ∃ fv B,ex qv e.kind=some fv∧td fv e A (bG A e) B (y8 A e) (bkK e)∧(bG A e=0→aJ B∧(B.map Cl.id).Nodup∧aV 0 B=aV 0 (cG A e))
theorem Cf {A:List Cl}(hA:Rt A)(e:Ed)(b:e.sides.length<1099511627776)(d:e.kind=1∨e.kind=2):EM A e:=by
 unfold EM bG y8 bkK cG;have g:(fun k:Int=>[(k,(1:Int))])=FF:=rfl
 rcases d with d | d <;> simp only[d] <;> simp only[Int.reduceEq,if_true,if_false,decide_true,decide_false]
 ·refine⟨_,lP A ⟨e.cell,e.dim,e.sides⟩,I,(Aj A e b).gen,fun f=>?_⟩;have hB:=Ak f;refine⟨?_,kB hA.ids,by rw[hB]⟩;rw[hB];have hl:=hA.few;refine⟨by rw[ze7,ze9]; omega,fun c a=>?_⟩
  rcases zf5.1 a with a | a
  ·exact hA.fits.2 c a
  ·simp at a; subst a; exact b
 ·refine⟨_,AF A e.cell,I,(zG A hA.fits e).gen,fun f=>?_⟩;rw[BO hA.ids];exact⟨gS hA.fits _,BP hA.ids _,I⟩
theorem Ag {A:List Cl}{e:Ed}(a:¬ (e.kind=1∨e.kind=2∨e.kind=3∨e.kind=4∨e.kind=5)):bG A e=1:=by
 unfold bG;rw[zg2 oM,zg2 oM,zg2 oM,zg2 oM,zg2 oM]
theorem ja.congr {g0:PH}{code:Int}{D:List Cl}{ims ims':List (Int×List Tm)}{bk bk':Bool}{r:Value}{g:PH}(h:ja g0 code D ims bk r g)(e:code=0→ims=ims')(hb:code=0→bk=bk'):ja g0 code D ims' bk' r g:=by
 obtain ⟨u,p,n,c,b,f,i,j,k⟩:=h;refine⟨u,p,n,c,b,f,i,fun a=>?_,k⟩;obtain ⟨l,d⟩:=j a;rw[e a] at d;exact⟨l.trans<|hb a,d⟩
theorem CG (E:World)(g:PH)(s:Own)(v ev:Value)(l:List Cl)(e:Ed)(k:ai g v l)(m:aJ l)(n:EdR g ev e)(hr:(ap l).2=0)(o:EM (aa l) e) :
  Ctr Tryz.prog E 12 #[.agg #[v],ev] g s (fun r g' s'=>s=s'∧Le g g'∧ja g (dM l e).1 (dM l e).2 (AE l e) (bkK e) r g'):=by
 have hA:=iI hr;have d:dM l e=aV (bG (aa l) e) (cG (aa l) e):=zg3 hr;obtain ⟨fv,B,p,q,f⟩:=o;have b:aV (bG (aa l) e) B=dM l e:=by
  rw[d];by_cases a:bG (aa l) e=0
  ·rw[a]; exact (f a).2.2
  ·unfold aV; rw[zg3 a,zg3 a]
 have t:=Am E g s v ev l e k m n hr fv (bG (aa l) e) B (bkK e) p (y8 (aa l) e) q (fun a=>⟨(f a).1,(f a).2.1⟩);refine t.mono fun r g' s' ⟨u,w,j⟩=>⟨u,w,?_⟩;rw[b] at j;refine j.congr (fun a=>?_) fun _=>I;have x:aa B=(dM l e).2:=by
  rw[← b] at a ⊢;unfold aV at a ⊢;split at a
  ·rename_i i; exact absurd a i
  ·rename_i i;rw[zg2 i];split at a
   ·rename_i c; exact absurd a c
   ·rename_i c; rw[zg2 c]
 unfold AE;rw[x]
theorem CH (E:World)(g:PH)(s:Own)(v ev:Value)(l:List Cl)(e:Ed)(c:ai g v l)(d:aJ l)(f:EdR g ev e)(b:e.sides.length<1099511627776)(i:e.kind=1∨e.kind=2) :
  Ctr Tryz.prog E 12 #[.agg #[v],ev] g s (fun r g' s'=>s=s'∧Le g g'∧ja g (dM l e).1 (dM l e).2 (AE l e) (bkK e) r g'):=by
 by_cases hr:(ap l).2=0
 ·exact CG E g s v ev l e c d f hr<|Cf (iI hr) e b i
 ·have a:dM l e=(1,[]):=zg2 hr;rw[a];exact An E g s v ev l e c d f _ _<|.inr hr
def FB (e:Ed):Prop:=∀ (E:World) (g:PH) (s:Own) (v ev:Value) (l:List Cl),ai g v l→aJ l→EdR g ev e →
  Ctr Tryz.prog E 12 #[.agg #[v],ev] g s (fun r g' s'=>s=s'∧Le g g'∧fu (dM l e).1 (dM l e).2 (AE l e) (bkK e) r g')
theorem Fu {e:Ed}(a:e.sides.length<1099511627776)(b:e.kind=1∨e.kind=2):FB e:=fun E g s v ev l c d f =>
 (CH E g s v ev l e c d f a b).mono fun _ _ _ ⟨i,j,k⟩=>⟨i,j,k.old⟩
theorem l8 (E:World)(g:PH)(s:Own)(v ev:Value)(l:List Cl)(e:Ed)(j:ai g v l)(x:aJ l)(k:EdR g ev e)(C:e.sides.length<1099511627776)(K:e.pairs.length<100000000000) :
  Ctr Tryz.prog E 142 #[.agg #[v],ev] g s (fun r g' s'=>s=s'∧Le g g'∧fu (dM l e).1 (dM l e).2 (AE l e) (bkK e) r g'):=by
 by_cases hr:(ap l).2=0
 ·have hA:=iI hr;have d:=hA.fits;have y:dM l e=aV (bG (aa l) e) (cG (aa l) e):=zg3 hr;by_cases a:e.kind=1∨e.kind=2∨e.kind=3∨e.kind=4∨e.kind=5
  ·have m:∀ (D:List Cl) (z:List (Int×List Tm)) (bk:Bool) (r:Value) (g':PH),D=(if bG (aa l) e=0 then cG (aa l) e else aa l)→(bG (aa l) e=0→z=(if bkK e then am (cG (aa l) e) else aa l).map fun c=>(c.id,y8 (aa l) e c.id))→(bG (aa l) e=0→bk=bkK e)→(bkK e=true→bG (aa l) e=0→am (cG (aa l) e)=aa (cG (aa l) e)) →
     fu (aV (bG (aa l) e) D).1 (aV (bG (aa l) e) D).2 z bk r g'→fu (dM l e).1 (dM l e).2 (AE l e) (bkK e) r g':=fun D z bk r g' O P hb Q p=>by
    have n:aV (bG (aa l) e) D=dM l e:=by
     rw[y,O];by_cases b:bG (aa l) e=0
     ·rw[zg3 b]
     ·unfold aV; rw[zg3 b,zg3 b]
    rw[n] at p;have F:(dM l e).1=0→bG (aa l) e=0∧(dM l e).2=aa (cG (aa l) e):=fun b=>by
     rw[y] at b ⊢;unfold aV at b ⊢;split at b
     ·rename_i J; exact absurd b J
     ·rename_i J;rw[zg2 J];split at b
      ·rename_i B; exact absurd b B
      ·rename_i B; rw[zg2 B]; exact⟨Decidable.not_not.1 J,I⟩
    refine p.congr (fun b=>?_) fun b=>hb (F b).1;obtain ⟨q1,q2⟩:=F b;rw[P q1];unfold AE;rw[q2];cases L:bkK e with
    | false=>rfl
    | true=>rw[zg3 rfl,zg3 rfl,Q L q1]
   have q:aJ (if bG (aa l) e=0 then cG (aa l) e else aa l):=by
    split
    ·rename_i b
     rcases a with a | a | a | a | a <;> unfold cG <;> simp only[a] <;> simp only[Int.reduceEq,if_true,if_false]
     ·have hl:=hA.few;refine⟨by rw[ze7,ze9]; omega,fun c t=>?_⟩
      rcases zf5.1 t with t | t
      ·exact d.2 c t
      ·simp at t; subst t; exact C
     ·exact gS d _
     ·have G:eH (aa l) e=0:=by unfold bG at b; simp only[a] at b; simpa using b
      exact (De hA e G).fits<|zw hA e G
     ·exact (DM _ e).fits<|z7 d e
     ·exact gS d _
    ·exact d
   rcases a with a | a | a | a | a
   ·have f:bG (aa l) e=gU (aa l) e:=by unfold bG; rw[zg3 a]
    have i:cG (aa l) e=aa l++[⟨e.cell,e.dim,e.sides⟩]:=by unfold cG; rw[zg3 a]
    have h:=gn E g s v ev l e (bG (aa l) e) (if bG (aa l) e=0 then cG (aa l) e else aa l) ((am<|aa l).map gv) false j x k hr q (.inl a)
     (fun _ E g s v ev j k=>by rw[i]; exact qF E g s v ev (aa l) e j d k C (bG (aa l) e) (by rw[f,hA.findC]; rfl))
     (fun h=>by omega) (fun h=>by omega) (fun h=>by omega) (fun h=>by omega)
    refine h.mono fun r g' s' ⟨u,w,p⟩=>⟨u,w,m _ _ _ _ _ I (fun _=>?_) (fun _=>?_) (fun hb=>?_) p⟩
    ·have hb:bkK e=false:=by unfold bkK; rw[a]; rfl
     rw[hb,hA.tab];refine zc9 fun c _=>?_;unfold y8;rw[zg2 oM,zg2 oM,zg2 oM];rfl
    ·unfold bkK; rw[a]; rfl
    ·unfold bkK at hb; rw[a] at hb; cases hb
   ·have f:bG (aa l) e=kA (aa l) e:=by unfold bG; rw[zg2 oM,zg3 a]
    have i:cG (aa l) e=cN (aa l) [e.cell]:=by unfold cG; rw[zg2 oM,zg3 a]
    have h:=gn E g s v ev l e (bG (aa l) e) (if bG (aa l) e=0 then cG (aa l) e else aa l) ((am<|cN (aa l) [e.cell]).map gv) (decide (bG (aa l) e=0)) j x k hr q (.inr<|.inl a)
     (fun h=>by omega)
     (fun _ E g s v ev j k=>by rw[i]; exact qE E g s v ev (aa l) e j d k (bG (aa l) e) (by rw[f,hA.findC]; rfl))
     (fun h=>by omega) (fun h=>by omega) (fun h=>by omega)
    have hb:bkK e=true:=by unfold bkK; rw[a]; rfl
    refine h.mono fun r g' s' ⟨u,w,p⟩=>⟨u,w,m _ _ _ _ _ I (fun _=>?_) (fun b=>?_) (fun hb b=>?_) p⟩
    ·rw[hb,zg3 rfl,i];refine zc9 fun c _=>?_;unfold y8;rw[zg2 oM,zg2 oM,zg2 oM];rfl
    ·rw[hb]; exact zg1 b
    ·rw[i,(ue hA _).1,(ue hA _).2]
   ·have f:bG (aa l) e=bo (aa l) e:=by unfold bG; rw[zg2 oM,zg2 oM,zg3 a,vm hA]
    have i:cG (aa l) e=dK (aa l) e:=by unfold cG; rw[zg2 oM,zg2 oM,zg3 a]
    have h:=gn E g s v ev l e (bG (aa l) e) (if bG (aa l) e=0 then cG (aa l) e else aa l) (((am<|aa l).map gv).map<|c8 e.cell<|dv e) false j x k hr q (.inr<|.inr<|.inl a)
     (fun h=>by omega) (fun h=>by omega)
     (fun _ E g s v ev j k=>by
      rw[i,f];refine tC E g s v ev (aa l) e j d k (by have:=hA.few; omega) (fun c t=>hA.few64 t) ?_;intro c t hd;rw[hA.findC] at t;exact hA.edge (aG t).1 hd)
     (fun h=>by omega) (fun h=>by omega)
    have hb:bkK e=false:=by unfold bkK; rw[a]; rfl
    refine h.mono fun r g' s' ⟨u,w,p⟩=>⟨u,w,m _ _ _ _ _ I (fun _=>?_) (fun _=>hb.symm) (fun o=>by rw[hb] at o; cases o) p⟩;rw[hb,vk hA];refine zc9 fun c _=>?_;unfold y8;rw[zg3 a]
   ·have f:bG (aa l) e=dq (aa l) e:=by unfold bG; rw[zg2 oM,zg2 oM,zg2 oM,zg3 a,ny hA]
    have i:cG (aa l) e=ep (aa l) e:=by unfold cG; rw[zg2 oM,zg2 oM,zg2 oM,zg3 a]
    have h:=gn E g s v ev l e (bG (aa l) e) (if bG (aa l) e=0 then cG (aa l) e else aa l) (ft e.pairs<|(am<|aa l).map gv) false j x k hr q (.inr<|.inr<|.inr<|.inl a)
     (fun h=>by omega) (fun h=>by omega) (fun h=>by omega)
     (fun _ E g s v ev j k=>by
      rw[i,f];refine nW E g s v ev (aa l) e j d k K ?_;intro id;unfold i5;rw[hA.findC]
      rcases hA.getD id with M | M
      ·rw[M]; decide
      ·exact d.2 _ M)
     (fun h=>by omega)
    have hb:bkK e=false:=by unfold bkK; rw[a]; rfl
    refine h.mono fun r g' s' ⟨u,w,p⟩=>⟨u,w,m _ _ _ _ _ I (fun b=>?_) (fun _=>hb.symm) (fun o=>by rw[hb] at o; cases o) p⟩;rw[f,ny hA] at b;rw[hb,vC hA e<|Cm b];refine zc9 fun c _=>?_;unfold y8;rw[zg2 oM,zg3 a]
   ·have f:bG (aa l) e=cJ (aa l) e:=by unfold bG; rw[zg2 oM,zg2 oM,zg2 oM,zg2 oM,zg3 a,rI hA]
    have i:cG (aa l) e=cN (aa l) [e.cell,e.other]:=by unfold cG; rw[zg2 oM,zg2 oM,zg2 oM,zg2 oM]
    have H:((findC (aa l) e.other).getD aH).sides=lC (aa l) e:=by rw[hA.findC]; rfl
    have h:=gn E g s v ev l e (bG (aa l) e) (if bG (aa l) e=0 then cG (aa l) e else aa l) ((((am<|aa l).map gv).map<|c8 e.cell<|fH (aa l) e).map<|c8 e.other []) false j x k hr q (.inr<|.inr<|.inr<|.inr a)
     (fun h=>by omega) (fun h=>by omega) (fun h=>by omega) (fun h=>by omega)
     (fun _ E g s v ev j k=>by
      rw[i,f];refine nX E g s v ev (aa l) e j d k ?_ ?_
      ·rw[H]; exact xk hA e
      ·rw[H]; exact vG hA e)
    have hb:bkK e=false:=by unfold bkK; rw[a]; rfl
    refine h.mono fun r g' s' ⟨u,w,p⟩=>⟨u,w,m _ _ _ _ _ I (fun b=>?_) (fun _=>hb.symm) (fun o=>by rw[hb] at o; cases o) p⟩;rw[f,rI hA] at b;have R:aC (aa l) e.cell=[e.other]:=by
     unfold sa at b;split at b
     ·split at b
      ·rename_i h; exact h.1
      ·cases b
     ·cases b
    rw[hb,Af hA e R];refine zc9 fun c _=>?_;unfold y8;rw[zg2 oM,zg2 oM,zg3 a]
  ·have N:=Ag (A:=aa l) a;have n:dM l e=(1,[]):=by rw[y,N]; rfl
   rw[n];exact tD E g s v ev l e _ _ j x k hr oM oM oM oM oM
 ·have n:dM l e=(1,[]):=zg2 hr;rw[n];exact vz E g s v ev l e _ _ j x k hr
theorem xx {code:Int}{B:List Cl}(h:(aV code B).1=0):Rt (aV code B).2∧code=0∧(aV code B).2=aa B:=by
 unfold aV at h ⊢;split at h
 ·rename_i a; exact absurd h a
 ·rename_i a;rw[zg2 a];split at h
  ·rename_i b; exact absurd h b
  ·rename_i b;rw[zg2 b];have c:=iI<|Decidable.not_not.1 b;rw[fK] at c;exact⟨c,Decidable.not_not.1 a,I⟩
theorem sd {l:List Cl}{e:Ed}(h:(dM l e).1=0):Rt (dM l e).2∧(ap l).2=0∧bG (aa l) e=0∧(dM l e).2=aa (cG (aa l) e):=by
 unfold dM at h ⊢;split at h
 ·rename_i a;rw[zg3 a];obtain ⟨b,c,d⟩:=xx h;exact⟨b,a,c,d⟩
 ·cases h
theorem D5 {l:List Cl}{e:Ed}(h:(dM l e).1≠0):(dM l e).2=[]:=by
 unfold dM at h ⊢;split at h
 ·rename_i a;rw[zg3 a];unfold aV at h ⊢;split at h
  ·rename_i b; rw[zg3 b]
  ·rename_i b;rw[zg2 b];split at h
   ·rename_i c; rw[zg3 c]
   ·exact absurd I h
 ·rename_i a; rw[zg2 a]
theorem oX (l:List Cl)(e:Ed):aJ (dM l e).2:=by
 by_cases h:(dM l e).1=0
 ·exact (sd h).1.fits
 ·rw[D5 h]; exact⟨by simp,by simp⟩
theorem Tryz.sty64:STy Tryz.prog 64 35 2 32 (.agg #[.slice none 0 0,vb false]):=⟨underlying64,⟨t35,by kernel_rfl,by kernel_rfl,by kernel_rfl,by kernel_rfl⟩,rfl,by decide⟩
theorem Tryz.sty62:STy Tryz.prog 62 42 7 88 (.agg #[vi 0,vi 0,vi 0,vi 0,vi 0,.slice none 0 0,.slice none 0 0]):=⟨underlying62,⟨t42,by kernel_rfl,by kernel_rfl,by kernel_rfl,by kernel_rfl⟩,rfl,by decide⟩
structure Er where
 kind:Int
 cell:Int
 dim:Int
 new:Int
 other:Int
 sv:Sv
 pv:Sv
def ia:Enc Er 7:=⟨fun r=>[vi r.kind,vi r.cell,vi r.dim,vi r.new,vi r.other,.slice r.sv.p r.sv.n r.sv.c,.slice r.pv.p r.pv.n r.pv.c],fun _=>rfl,fun _ u hu=>by simp at hu; rcases hu with rfl | rfl | rfl | rfl | rfl | rfl | rfl <;> rfl,by decide⟩
def erv (r:Er):Value:=.agg (ia.enc r).toArray
def EdK (g:PH)(e:Ed)(r:Er):Prop:=EdR g (erv r) e
theorem EdK.mono {g g':PH}(hl:Le g g'){e:Ed}{r:Er}(h:EdK g e r):EdK g' e r:=EdR.mono h hl
theorem EdR.rc {g:PH}{v:Value}{e:Ed}(h:EdR g v e):∃ r:Er,v=erv r∧EdK g e r:=by
 obtain ⟨sv,pv,rfl,a,b⟩:=h;obtain ⟨p,c,rfl⟩:=za4 a;obtain ⟨q,d,rfl⟩:=za4 b;exact⟨⟨e.kind,e.cell,e.dim,e.new,e.other,⟨p,e.sides.length,c⟩,⟨q,e.pairs.length,d⟩⟩,I,_,_,I,a,b⟩
def EdS (e:Ed):Prop:=e.sides.length<1099511627776∧e.pairs.length≤3
def Eds (g:PH)(v:Value)(l:List Ed):Prop:=∃ rs,SlA ia g v rs∧ax (EdK g) l rs
theorem Eds.form {g:PH}{v:Value}{l:List Ed}(h:Eds g v l):∃ p c,v = .slice p l.length c:=by
 obtain ⟨rs,a,b⟩:=h;rw[b.length];exact za4 a
structure Sr where
 sv:Sv
 bk:Bool
abbrev Stp:=List (Int×List Tm)×Bool
def ox:Enc Sr 2:=⟨fun r=>[.slice r.sv.p r.sv.n r.sv.c,vb r.bk],fun _=>rfl,fun _ u hu=>by simp at hu; rcases hu with rfl | rfl <;> rfl,by decide⟩
def srv (r:Sr):Value:=.agg (ox.enc r).toArray
def StK (g:PH)(x:Stp)(r:Sr):Prop:=r.bk=x.2∧Ims g (.slice r.sv.p r.sv.n r.sv.c) x.1
theorem StK.mono {g g':PH}(hl:Le g g'){x:Stp}{r:Sr}(h:StK g x r):StK g' x r:=⟨h.1,h.2.mono hl⟩
def Sts (g:PH)(v:Value)(l:List Stp):Prop:=∃ rs,SlA ox g v rs∧ax (StK g) l rs
theorem Sts.nil (g:PH):Sts g (.slice none 0 0) []:=⟨[],zc1 g _,trivial⟩
def imO (l:List Cl)(e:Ed):Stp:=if (dM l e).1=0 then (AE l e,bkK e) else ([],false)
theorem fu.one {l:List Cl}{e:Ed}{r:Value}{g:PH}(h:fu (dM l e).1 (dM l e).2 (AE l e) (bkK e) r g) :
  ∃ u:Sv,∃ x:Sr,r = .tuple #[.agg #[.slice u.p u.n u.c],srv x,vi (dM l e).1]∧ai g (.slice u.p u.n u.c) (dM l e).2∧StK g (imO l e) x:=by
 obtain ⟨u,p,n,c,b,i,f,j,k⟩:=h;obtain ⟨q,d,rfl⟩:=f.form;refine⟨⟨q,_,d⟩,⟨⟨p,n,c⟩,b⟩,i,f,?_⟩;unfold imO;by_cases a:(dM l e).1=0
 ·rw[zg3 a]; exact j a
 ·rw[zg2 a]; exact k a
def n9:List Cl→List Stp→Nat→List Ed→(Int×Int)×List Cl×List Stp
 | A,ss,_,[]=>((0,0),A,ss)
 | A,ss,i,e::es=>if (dM A e).1=0 then n9 (dM A e).2 (ss++[imO A e]) (i+1) es else (((dM A e).1,(i:Int)),[],[])
def ig (l:List Cl)(es:List Ed):(Int×Int)×List Cl×List Stp:=if 1000<es.length then ((2,0),[],[]) else if (ap l).2≠0 then ((1,0),[],[]) else n9 (aa l) [] 0 es
def zg (R:(Int×Int)×List Cl×List Stp)(r:Value)(g:PH):Prop:=∃ u p n c,r = .tuple #[.agg #[u],.slice p n c,vi R.1.2,vi R.1.1]∧ai g u R.2.1∧Sts g (.slice p n c) R.2.2
theorem Tryz.xA42 (a b d:Int)(q:Option Addr)(qn qc:Nat)(w:World):(Instr.build 42 #[(0,vi a),(1,vi b),(2,vi d),(5,.slice q qn qc)]).run Tryz.prog w = .ok (.agg #[vi a,vi b,vi d,vi 0,vi 0,.slice q qn qc,.slice none 0 0]) w:=by
 have c:∀ a:Int,(vi a).cells = #[vi a]:=fun _=>rfl;have e:(Value.slice q qn qc).cells = #[.slice q qn qc]:=rfl;simp[Instr.build,Instr.fill,c,e];rfl
theorem Tryz.xB42 (a b:Int)(w:World):(Instr.build 42 #[(0,vi a),(1,vi b)]).run Tryz.prog w = .ok (.agg #[vi a,vi b,vi 0,vi 0,vi 0,.slice none 0 0,.slice none 0 0]) w:=by
 have c:∀ a:Int,(vi a).cells = #[vi a]:=fun _=>rfl;simp[Instr.build,Instr.fill,c];rfl
theorem jd (n:Int):a7 (IntKind.i64.wrap n):=by
 have h:IntKind.i64.wrap n=if (decide (n % 18446744073709551616≥9223372036854775808))=true then n % 18446744073709551616 - 18446744073709551616 else n % 18446744073709551616:=by
  simp[IntKind.wrap,IntKind.bits,IntKind.signed]
 rw[h];unfold a7;by_cases a:n % 18446744073709551616≥9223372036854775808
 ·rw[zg3<|zg1 a];omega
 ·rw[zg2 (by simpa using a)];omega
theorem vD (E:World)(g:PH)(s:Own)(v:Value)(l:List Cl)(q:ai g v l)(t:aJ l) :
  Ctr Tryz.prog E 46 #[.agg #[v]] g s (fun r g' s'=>s=s'∧g=g'∧∃ n:Int,r=vi n∧a7 n):=by
 obtain ⟨rs,a,b⟩:=q;have w:=t.1;have m:=b.length;obtain ⟨p,c,rfl⟩:=za4 a;refine zb2 (args:=[.agg #[.slice p rs.length c]]) func46 I ntmps46 (bE I)<|rZ (bW (bO I) fun b1=>?_);refine aT I<|rZ<|aT I<|sQ<|rZ<|aT I<|bK<|oP (ι:=Nat×Int) (fun k=>[(1,pp b1 0),(3,vi k.2),(4,vi k.1)]) (fun _=>g) (fun _=>pt b1 (.cells #[.slice p rs.length c] 29 (0,0))::s)
  (fun k=>k.1≤rs.length∧a7 k.2) (fun k=>rs.length - k.1) (0,1) sB rfl rfl ⟨zf8 _,by unfold a7; dsimp only; omega⟩ ?_
 rintro ⟨k,n⟩ ⟨y,hn⟩;dsimp only at y hn ⊢;refine sQ<|sW I<|lU (fA dn I cq I)<|SL.K (qL (v:=.slice p rs.length c) eh I<|cO 0 I I)<|lU (eN aB I)<|yL I<|tZ<|iP I (fun f=>?_) (fun f=>?_)
 ·have i:k<rs.length:=oM;have d:=za6 a oM;have j:rs[((k:Nat):Int).toNat]?=some rs[k]:=List.getElem?_eq_getElem i;generalize rs[k]=x at *;refine kP (tN (sQ (bK (rG (lM I (lU (fA dn I cq I) (SL.K (qL (v:=.slice p rs.length c) eh I (cO 0 I I)) (lM I (lU (iA aB aw I I d oM sL) (lU (fC ao I zT3 I d) (SL.K (aZ (e:=encCell) (o:=0) (u:=vi x.id) iT3 I (za7 a) j I) (lU (ze2 I I) (lU (SU.maxI I I) (lA I (SL.nil (bN (tN (rG (lM I (yD I (lA I (SL.nil ?_))))))))))))))))))))));exact ST.again (k+1,_) sB I I ⟨by dsimp only; omega,by
   have z:=jd (x.id+1);dsimp only;unfold a7 at z hn ⊢;omega⟩ (by dsimp only; omega)
 ·exact xI<|tX<|tX<|bX<|tN<|sW I<|aT I<|rE<|dR (s':=s) uR<|za8 (.inl I) results46 I ⟨I,I,_,I,hn⟩
theorem pG (E:World)(g:PH)(s:Own)(v:Value)(l:List Int)(n:Int)(b:dp g v l)(hl:l.length<1099511627776) :
  Ctr Tryz.prog E 47 #[v,vi n] g s (fun r g' s'=>s=s'∧g=g'∧∃ y:Int,r=vi y∧(y=0∨y∈l)):=by
 obtain ⟨p,c,rfl⟩:=za4 b;refine zb2 (args:=[.slice p l.length c,vi n]) func47 I ntmps47 (bE I)<|rZ<|aT I<|sQ<|sW I<|lU (eN az I)<|yE I<|tZ<|iP I (fun i=>?_) (fun i=>?_)
 ·exact rZ<|aT I<|rE<|tR<|za8 (.inl I) results47 I ⟨I,I,_,I,.inl I⟩
 ·obtain ⟨d,a⟩:=sI n l.length oM oM;have hb:=za6 b oM;have e:l[(bU n l.length).toNat]?=some l[(bU n l.length).toNat]:=List.getElem?_eq_getElem a;have f:l[(bU n l.length).toNat]∈l:=gM a;generalize l[(bU n l.length).toNat]=y at *;refine kP<|tN<|sW I<|lM I<|lM I<|lU (eN az I)<|lW (SO.call lQ I<|bB E g _ n l.length oM) ?_;rintro _ _ _ ⟨rfl,rfl,rfl⟩;rw[d];exact lU (iA az zT3 I I hb oM sL)<|SL.K (eB (u:=vi y) iT3 I (za7 b) e I)<|aT I<|rE<|za8 (.inl I) results47 I ⟨I,I,_,I,.inr f⟩
theorem dS (E:World)(g:PH)(s:Own)(v:Value)(l:List Int)(n:Int)(a:dp g v l)(hl:l.length<1099511627776) :
  Ctr Tryz.prog E 47 #[v,vi n] g s (fun r g' s'=>s=s'∧g=g'∧∃ n:Int,r=vi n) :=
 (pG E g s v l n a hl).mono fun _ _ _ ⟨b,c,y,d,_⟩=>⟨b,c,y,d⟩
theorem Cd (l:List Int):decide ((l.length:Int)=0)=decide (l=[]):=by
 rw[Bool.eq_iff_iff,zj8,zj8];exact⟨fun h=>zf6 oM,fun h=>by rw[h]; rfl⟩
def mE (l:List Cl)(id:Int):Bool:=match aC l id with
 | [m]=>decide (aC l m=[])
 | _=>false
theorem xe (E:World)(g:PH)(s:Own)(v:Value)(l:List Cl)(R:ai g v l)(H:aJ l) :
  Ctr Tryz.prog E 51 #[.agg #[v]] g s (fun r g' s'=>s=s'∧Le g g'∧∃ ps:List Pr,SlA dZ g' r ps∧ps.length<1099511627776):=by
 have J:=R;obtain ⟨rs,w,B⟩:=R;have U:=H.1;have S:=B.length;obtain ⟨p,c,rfl⟩:=za4 w;refine zb2 (args:=[.agg #[.slice p rs.length c]]) func51 I ntmps51 (bE I)<|rZ (bW (bO I) fun b1=>?_);refine aT I<|rZ<|aT I<|sQ<|rZ<|aT I<|bK<|zb6 76 2<|oP (ι:=Nat×PH×Value×List Pr) (fun i=>[(1,pp b1 0),(3,i.2.2.1),(4,vi i.1)]) (fun i=>i.2.1) (fun i=>rowA dZ 76 i.2.2.1 i.2.2.2::pt b1 (.cells #[.slice p rs.length c] 29 (0,0))::s)
  (fun i=>i.1≤rs.length∧Le g i.2.1∧i.2.2.2.length≤i.1) (fun i=>rs.length - i.1) (0,g,.slice none 0 0,[]) sB rfl rfl ⟨zf8 _,zb9 _,zf8 _⟩ ?_
 rintro ⟨k,g1,ov,f⟩ ⟨V,b,L⟩;dsimp only at V b L ⊢;refine sQ<|sW I<|lU (fA dn I cq I)<|SL.K (qL (v:=.slice p rs.length c) eh I<|cO 1 I I)<|lU (eN aB I)<|yL I<|tZ<|iP I (fun M=>?_) (fun M=>?_)
 ·have N:k<rs.length:=oM;have q:=za6 w oM;have t:=za5 w b;have C:=J.mono b;have D:rs[((k:Nat):Int).toNat]?=some rs[k]:=List.getElem?_eq_getElem N;generalize rs[k]=x at *;have T:(aC l x.id).length<1099511627776:=Nat.lt_of_le_of_lt (by unfold aC; rw[ze8]; exact zc6 _ _) (bT H).1;refine kP<|tN<|sQ<|bK<|sQ<|dW [] [(0,1),(1,2),(2,1),(3,2),(4,2),(5,2),(6,1),(7,0),(8,2)] ze5 kR<|pK I (qV 1 aj ae I I I)<|pU I (fA dn I cq I)<|pK I (qL (v:=.slice p rs.length c) eh I<|cO 1 I I)<|yM I<|pU I (iA aB aw I I q oM sL)<|pU I (fC ao I zT3 I q)<|pK I (aZ (e:=encCell) (o:=0) (u:=vi x.id) iT3 I (za7 t) D I)<|SP.o I (SO.call call116 I<|dx E g1 _ _ l x.id C H) dC (.inr iR) ?_;rintro _ g2 _ ⟨rfl,d,j⟩;obtain ⟨q2,d2,rfl⟩:=za4 j;have O:=C.mono d;have F:=za5 t d;refine pU I (aS I)<|pN<|tN<|SC.cut (ι:=PH) (fun _=>[(1,pp b1 0),(3,ov),(4,vi k),(5,.slice q2 (aC l x.id).length d2),(32,vb<|mE l x.id)]) (fun g'=>g') (fun _=>rowA dZ 76 ov f::pt b1 (.cells #[.slice p rs.length c] 29 (0,0))::s) (fun g'=>Le g2 g') ?_ ?_
  ·by_cases P:(aC l x.id).length=1
   ·obtain ⟨m,hm⟩:∃ m,aC l x.id=[m]:=by
     match Z:aC l x.id,P with
     | [m],_=>exact⟨m,rfl⟩
    have y:mE l x.id=decide (aC l m=[]):=by unfold mE; rw[hm]
    have z:=za6 j oM;have A:(aC l x.id)[((0:Nat):Int).toNat]?=some m:=by rw[hm]; rfl
    refine SC.drawX [] ze5 kR ?_;refine SX.u (i:=0) I kR (mV I) dC<|SX.u (i:=1) I kR (eN az I) dC<|SX.u (i:=2) I kR (SU.eq (v':=vb true) (eQ I I)<|ze4 vb<|zg1 oM) dC<|SX.u (i:=3) I kR (mV I) dC<|SX.gq (i:=4) I kR (gT I I I dC) (qV 1 aj ae I I I) dC<|SX.gu (i:=5) I kR (gT I I I dC) (mV I) dC<|SX.gu (i:=6) I kR (gT I I I dC) (iA (i:=0) az zT3 I I z dC (show (0:Int)<(((aC l x.id).length:Nat):Int) by omega)) dC ?_;refine SX.gq (i:=7) I kR (gT I I I dC) (eB iT3 I (za7 j) A I) dC ?_;refine zd7 8 kR ?_
    ·refine SB.go (i:=8) I (gT I I I dC) (SO.call call116 I<|dx E g2 _ _ l m O H) dC (.inr iR) ?_;rintro _ g3 _ ⟨rfl,a,Q⟩;obtain ⟨q3,d3,rfl⟩:=za4 Q;refine SX.gu (i:=9) I kR (gT I I I dC) (eN az I) dC<|SX.gu (i:=10) I kR (gT I I I dC) (SU.eq (v':=vb<|decide (aC l m=[])) (eQ I I)<|ze4 vb<|Cd _) dC<|SX.u (i:=11) I kR (wT I I) dC<|SX.nil kR ?_;exact za9 g3 ⟨I,I,I,I,(by rw[y]; rfl),trivial⟩ rfl rfl a
   ·have y:mE l x.id=false:=by
     unfold mE;split
     ·rename_i m hm; rw[hm] at P; exact absurd I P
     ·rfl
    refine SC.drawX [] ze5 kR ?_;refine SX.u (i:=0) I kR (mV I) dC<|SX.u (i:=1) I kR (eN az I) dC<|SX.u (i:=2) I kR (SU.eq (v':=vb false) (eQ I I)<|ze4 vb<|zf9 oM) dC<|SX.u (i:=3) I kR (mV I) dC<|SX.off (i:=4) I kR (gZ I I I dC) dC<|SX.off (i:=5) I kR (gZ I I I dC) dC<|SX.off (i:=6) I kR (gZ I I I dC) dC<|SX.off (i:=7) I kR (gZ I I I dC) dC ?_;refine zd7 8 kR ?_
    ·refine SB.offo (i:=8) I (gZ I I I dC) dC ⟨by exact zb9 _,(by exact .refl _)⟩ ?_;refine SX.off (i:=9) I kR (gZ I I I dC) dC<|SX.off (i:=10) I kR (gZ I I I dC) dC<|SX.u (i:=11) I kR (wF I I) dC<|SX.nil kR ?_;exact za9 g2 ⟨I,I,I,I,(by rw[y]; rfl),trivial⟩ rfl rfl<|zb9 _
  rintro g3 a;try dsimp only at a ⊢
  have n:=b.trans<|d.trans a;refine iQ I (fun hb=>?_) (fun hb=>?_)
  ·obtain ⟨m,hm,W⟩:∃ m,aC l x.id=[m]∧aC l m=[]:=by
    unfold mE at hb;split at hb
    ·rename_i m hm; exact⟨m,hm,zg5 hb⟩
    ·cases hb
   have z:=za6 j (by rw[hm]; simp);have A:(aC l x.id)[((0:Nat):Int).toNat]?=some m:=by rw[hm]; rfl
   have X:(aC l x.id).length=1:=by rw[hm]; rfl
   refine dW [12] [(0,2),(1,2),(2,1),(3,2),(4,2),(5,2),(6,1),(7,2),(8,2),(9,1),(10,2),(11,0),(12,0),(13,2)] ze5 kR<|yM I<|pU I (fA dn I cq I)<|pK I (qL (v:=.slice p rs.length c) eh I<|cO 1 I I)<|yM I<|pU I (iA aB aw I I q oM sL)<|pU I (fC ao I zT3 I q)<|pK I (aZ (e:=encCell) (o:=0) (u:=vi x.id) iT3 I (za7<|za5 F a) D I)<|yM I<|pU I (iA (i:=0) az zT3 I I z dC (show (0:Int)<(((aC l x.id).length:Nat):Int) by omega)) ?_;refine pK I (eB iT3 I (za7<|za5 j a) A I)<|pU I (za3 I<|build76 _ _)<|SP.o I (bS sty40 I I I (ab ⟨I,trivial⟩) dC) dC (.inr iR) ?_;rintro _ _ _ ⟨Y,rfl,rfl,rfl⟩;refine SP.o I (aP (e:=dZ) (l:=f) 0 (x.id,m) sty40 I I I I I oM oM) dC (.inl dC) ?_;rintro ov' _ _ ⟨rfl,rfl⟩;refine pU I (aS I)<|pN<|bN<|tN<|rG<|lM I<|yD I<|lA I<|SL.nil ?_;exact ST.again (k+1,g3,ov',f++[(x.id,m)]) sB I I ⟨by dsimp only; omega,n,by dsimp only; rw[ze7,ze9]; omega⟩ (by dsimp only; omega)
  ·exact kP<|bN<|tN<|rG<|lM I<|yD I<|lA I<|SL.nil<|ST.again (k+1,g3,ov,f) sB I I ⟨by dsimp only; omega,n,by dsimp only; omega⟩ (by dsimp only; omega)
 ·refine xI (tX<|tX<|bX<|tN<|sQ<|fS fun g2 d G=>?_);obtain ⟨q0,d0,rfl⟩:=zc3 G;exact rG<|lM I<|aT I<|rE<|dR (s':=s) uR<|za8 (.inl I) results51 I ⟨I,b.trans d,f,G,oM⟩
theorem Aq (E:World)(g:PH)(s:Own)(v:Value)(l:List Cl)(n:Int)(T:ai g v l)(G:aJ l) :
  Ctr Tryz.prog E 50 #[.agg #[v],vi n] g s (fun r g' s'=>∃ ps:List Pr,s'=rowA dZ 76 r ps::s∧Le g g'∧ps.length≤1):=by
 obtain ⟨rs,a,d⟩:=T;have U:=G.1;have S:=d.length;obtain ⟨p,c,rfl⟩:=za4 a;refine zb2 (args:=[.agg #[.slice p rs.length c],vi n]) func50 I ntmps50 (bE I)<|rZ (bW (bO I) fun b2=>?_);refine aT I<|rZ<|lU (fA dn I cq I)<|SL.K (qL (v:=.slice p rs.length c) eh I<|cO 0 I I)<|lU (eN aB I)<|aT I<|sQ<|rZ<|aT I<|bK<|oP (ι:=Nat) (fun k=>[(1,vi n),(2,pp b2 0),(5,vi rs.length),(6,vi k)]) (fun _=>g) (fun _=>pt b2 (.cells #[.slice p rs.length c] 29 (0,0))::s)
  (fun k=>k≤rs.length) (fun k=>rs.length - k) 0 sB rfl rfl (zf8 _) ?_
 rintro k V;try dsimp only at V ⊢
 refine sQ<|sW I<|lM I<|yL I<|tZ<|iP I (fun H=>?_) (fun H=>?_)
 ·have f:=za6 a oM;obtain ⟨m,z⟩:=sI (IntKind.i64.wrap<|k+n) rs.length oM oM;have t:rs[(bU (IntKind.i64.wrap<|k+n) rs.length).toNat]?=some rs[(bU (IntKind.i64.wrap<|k+n) rs.length).toNat]:=List.getElem?_eq_getElem z;have J:=d.get (List.getElem?_eq_getElem (show (bU (IntKind.i64.wrap<|k+n) rs.length).toNat<l.length by omega)) t;have L:=G.2 _<|gM (show (bU (IntKind.i64.wrap<|k+n) rs.length).toNat<l.length by omega);generalize l[(bU (IntKind.i64.wrap<|k+n) rs.length).toNat]'oM=cx at *;generalize rs[(bU (IntKind.i64.wrap<|k+n) rs.length).toNat]=x at *;obtain ⟨xi,xd,xp,xn,xc⟩:=x;obtain ⟨f1,f2,A⟩:=J;dsimp only at f1 f2 A;subst f1 f2;refine kP<|tN<|sQ<|bK ?_;refine SC.cut (ι:=Nat) (fun b=>[(1,vi n),(2,pp b2 0),(5,vi rs.length),(6,vi k),(7,pp b 0)]) (fun _=>g) (fun b=>pt b (.cells #[vi cx.id,vi cx.dim,.slice xp xn xc] 56 (0,0))::pt b2 (.cells #[.slice p rs.length c] 29 (0,0))::s) (fun _=>True) ?_ ?_
  ·refine SC.drawX [10] ze5 kR ?_;refine SX.u (i:=0) I kR (fA dn I cq I) dC<|SX.q (i:=1) I kR (qL (v:=.slice p rs.length c) eh I<|cO (by exact 0) I I) dC ?_;refine SX.u (i:=2) I kR (mV I) dC<|SX.u (i:=3) I kR (mV I) dC<|SX.u (i:=4) I kR (ze2 I I) dC<|SX.u (i:=5) I kR (mV I) dC ?_
   repeat' (first
    | (refine SB.o (i:=6) rfl (SO.call lQ rfl<|bB E g _ _ rs.length oM) dC (.inr (by rintro _ _ _ ⟨rfl,rfl,rfl⟩; exact⟨by exact zb9 _,(by exact .cons _<|.refl _)⟩)) ?_; rintro _ _ _ ⟨rfl,rfl,rfl⟩; rw[m]; refine SX.u (i:=7) I kD (iA aB aw I I f oM sL) dC ?_; refine SX.q (i:=8) I kD (SQ.elemA dT aw I (za7 a) t) dC ?_)
    | (refine SB.o (i:=6) rfl (SO.call lQ rfl<|bB E g _ _ rs.length oM) dC (.inr (by rintro _ _ _ ⟨rfl,rfl,rfl⟩; exact⟨by exact zb9 _,(by exact .refl _)⟩)) ?_; rintro _ _ _ ⟨rfl,rfl,rfl⟩; rw[m]; refine SX.u (i:=7) I kD (iA aB aw I I f oM sL) dC ?_; refine SX.q (i:=8) I kD (SQ.elemA dT aw I (za7 a) t) dC ?_)
    | (refine SB.o (i:=9) rfl (aL zl7) dC (.inr (by rintro _ _ _ ⟨b7,rfl,rfl,rfl⟩; exact⟨by exact zb9 _,(by exact .cons _<|.refl _)⟩)) ?_; rintro _ _ _ ⟨b7,rfl,rfl,rfl⟩)
    | (refine SB.on (i:=10) I (sK 0 aw I I I I I sB) (.inl dC) ?_; rintro _ _ _ ⟨rfl,rfl⟩)
    | refine zd8 6 9 kD ?_ ?_
    | refine zd7 9 kD ?_
    | refine zd7 10 kD ?_
    | refine zd7 6 kD ?_
    | (refine SX.nil kD ?_; exact za9 b7 sB I I trivial))
  rintro b7 -;try dsimp only
  clear m z;refine rZ<|aT I<|bK<|oP (ι:=Nat) (fun j=>[(1,vi n),(2,pp b2 0),(5,vi rs.length),(6,vi k),(7,pp b7 0),(8,vi j)]) (fun _=>g) (fun _=>pt b7 (.cells #[vi cx.id,vi cx.dim,.slice xp xn xc] 56 (0,0))::pt b2 (.cells #[.slice p rs.length c] 29 (0,0))::s)
   (fun j=>j≤rs.length) (fun j=>rs.length - j) 0 sB rfl rfl (zf8 _) ?_
  rintro j W;try dsimp only at W ⊢
  refine sQ<|sW I<|lM I<|yL I<|tZ<|iP I (fun B=>?_) (fun B=>?_)
  ·have C:j<rs.length:=oM;have D:j<l.length:=oM;have M:rs[((j:Nat):Int).toNat]?=some rs[j]:=List.getElem?_eq_getElem C;have N:=d.get (List.getElem?_eq_getElem D)<|List.getElem?_eq_getElem C;have O:=G.2 _<|gM D;generalize l[j]=cy at *;generalize rs[j]=y at *;obtain ⟨yi,yd,yp,yn,yc⟩:=y;obtain ⟨f1,f2,F⟩:=N;dsimp only at f1 f2 F;subst f1 f2;refine kP (tN<|sQ<|bK<|rZ<|lU (fA dn I cq I)<|SL.K (qL (v:=.slice p rs.length c) eh I<|cO 1 I I)<|lM I<|lU (iA aB aw I I f oM sL)<|SL.K (SQ.elemA dT aw I (za7 a) M)<|bW (aL zl7) fun b9=>?_);refine oZ (sK 0 aw I I I I I sB)<|tZ<|SC.cutB 60 (decide (cx.id≠cy.id)&&decide (cx.dim=cy.dim)&&decide (cx.dim>0)&&decide (lJ cx.sides=lJ cy.sides)) ?_ ?_
   ·refine rG<|lU (fA ao I zT3 I)<|SL.K (qL (v:=vi cx.id) iT3 I<|cO 1 I I)<|lU (fA ao I zT3 I)<|SL.K (qL (v:=vi cy.id) iT3 I<|cO 0 I I)<|lU (nQ I I)<|lM I<|sP ?_ ?_
    ·intro P;refine lY I I I (fA ao I zT3 I)<|SL.gq (gT I I I dC) (qL (v:=vi cx.dim) iT3 I<|cO 1 I I) dC<|lY I I I (fA ao I zT3 I)<|SL.gq (gT I I I dC) (qL (v:=vi cy.dim) iT3 I<|cO 0 I I) dC<|lY I I I (eQ I I)<|yP I<|lM I<|sP ?_ ?_
     ·intro Q;refine lY I I I (fA ao I zT3 I)<|SL.gq (gT I I I dC) (qL (v:=vi cx.dim) iT3 I<|cO 1 I I) dC<|lY I I I (gR I I)<|yP I<|lM I<|sP ?_ ?_
      ·intro R;refine lY I I I (fA ao I aM I)<|SL.gq (gT I I I dC) (qL (v:=.slice xp xn xc) br I<|cO 1 I I) dC<|lY I I I (fA ao I aM I)<|SL.gq (gT I I I dC) (qL (v:=.slice yp yn yc) br I<|cO 0 I I) dC<|ze3 (gT I I I dC) (SO.call call115 I<|kO E g _ _ _ _ _ A F L O) dC ?_;rintro _ _ _ ⟨rfl,rfl,rfl⟩;exact yP I<|SL.nil<|zb1 (by (simp_all[aN]; done)) mI
      ·intro R;exact yA I<|yA I<|yA I<|yA I<|yA I<|yF I<|SL.nil<|zb1 (by (simp_all[aN]; omega)) mI
     ·intro Q;exact yA I<|yA I<|yA I<|yF I<|lM I<|yA I<|yA I<|yA I<|yA I<|yA I<|yF I<|SL.nil<|zb1 (by (simp_all[aN]; done)) mI
    ·intro P;exact yA I<|yA I<|yA I<|yA I<|yA I<|yF I<|lM I<|yA I<|yA I<|yA I<|yF I<|lM I<|yA I<|yA I<|yA I<|yA I<|yA I<|yF I<|SL.nil<|zb1 (by (simp_all[aN]; done)) mI
   refine iQ I (fun X=>?_) (fun X=>?_)
   ·refine rZ<|lU (fA ao I zT3 I)<|SL.K (qL (v:=vi cx.id) iT3 I<|cO 1 I I)<|lU (fA ao I zT3 I)<|SL.K (qL (v:=vi cy.id) iT3 I<|cO 0 I I)<|lU (za3 I<|build76 _ _)<|lW (bS sty40 I I I (ab ⟨I,trivial⟩) dC) ?_;rintro _ _ _ ⟨Y,rfl,rfl,rfl⟩;refine SL.to (fun w Z=>At.litRow (e:=dZ) (l:=[(cx.id,cy.id)]) (n:=0) Z I I dC) ?_;exact aT I<|rE<|bR<|tR<|tR<|bR<|bR<|tR<|tR<|bR<|tR<|dR (.cons_cons _<|.cons _<|.cons _<|.cons _<|.refl s)<|za8 (.inl I) results50 I ⟨_,I,zb9 _,by simp⟩
   ·exact kP<|bN<|tN<|rG<|lM I<|yD I<|lA I<|SL.nil<|dR (.cons _<|.refl _)<|ST.again (j+1) sB I I oM oM
  ·exact xI<|tX<|tX<|bX<|bN<|tN<|rG<|lM I<|yD I<|lA I<|SL.nil<|dR (.cons _<|.refl _)<|ST.again (k+1) sB I I oM oM
 ·exact xI<|tX<|tX<|bX<|tN<|rZ<|aT I<|rE<|dR (s':=s) (.cons _<|.refl _)<|ST.nilRow 76 2<|za8 (.inl I) results50 I ⟨[],I,zb9 _,by simp⟩
end Go.Proofs.YtbbppeihhkhkcaaGreatDoor
