/- 15 -/
import Derived.Test.YtbbppeihhkhkcaaGreatDoorMp14
import Derived.Test.YtbbppeihhkhkcaaGreatDoorMp11
import Derived.Test.YtbbppeihhkhkcaaGreatDoorMp13
import Derived.Test.YtbbppeihhkhkcaaGreatDoorMp10
import Derived.Test.YtbbppeihhkhkcaaGreatDoorMp05
import Derived.Test.YtbbppeihhkhkcaaGreatDoorMp06
set_option linter.unusedSimpArgs false
set_option linter.unusedVariables false
namespace Go.Proofs.YtbbppeihhkhkcaaGreatDoor
open _root_.Go.Proofs.Tryz _root_.Go.Proofs.YtbbppeihhkhkcaaGreatDoor.Tryz
open Go Go.Sy Go.Pl Go.Proofs
set_option maxRecDepth 100000
set_option maxHeartbeats 4000000
theorem Tryz.mty171:MTy Tryz.prog 171 3 80 (dK 0):=⟨underlying171,underlying3,zl8⟩
theorem Tryz.sty216:STy Tryz.prog 216 77 1 24 (.slice none 0 0):=⟨underlying216,⟨t77,by kernel_rfl,by kernel_rfl,by kernel_rfl,by kernel_rfl⟩,rfl,by decide⟩
theorem EA {g:PH}{s:Own}{b:Nat}{U:TypeId}{fr:Nat×Nat}{a n:Int}(i:Nat)(hs:s[i]?=some (pt b (.cells #[vi a,vb (mc n),txt (eJ n.natAbs)] U fr))):∀ j v,[vb (mc n),txt (eJ n.natAbs)][j]?=some v→hZ g s ⟨b,1+j,none⟩ v:=fun j v hj=>by
 rcases j with _ | _ | j
 ·simp at hj; subst hj; exact cO i hs I
 ·simp at hj; subst hj; exact cO i hs I
 ·simp at hj
theorem tt (E:World)(g:PH)(s:Own)(n:Int)(h:n.natAbs<4294967296) :
  Ctr Tryz.prog E 181 #[dK n] g s (fun r g' s'=>(∃ m:Int,r=vi m∧decide (m≠0)=decide (n≠0))∧s=s'∧Le g g'):=by
 have hB:=lQ h;have hb:beN (eJ n.natAbs)=n.natAbs:=jr oM;refine zb2 (args:=[.agg #[vb (mc n),txt (eJ n.natAbs)]]) func181 I ntmps181 (bE I) ?_;refine rZ (bW (bO I) fun b1=>?_);refine aT I (sQ (bK (rZ (lK (qV 0 mi gP I I I) (lW (cL call185 I (l9 E g _ _ _ hB)) ?_)))));rintro v5 g1 _ ⟨rfl,hle1,hs1⟩;rw[hb] at hs1;obtain ⟨p5,c5,rfl⟩:=za4 hs1;refine lU (eN bo I) (yE I (aT I ?_));have hl:((eV n.natAbs).length:Int)=0↔n=0:=by
  unfold eV;by_cases h0:n.natAbs=0
  ·rw[zg1 h0]; simp; omega
  ·rw[zf9 h0]; simp; omega
 refine iP I (fun hz=>?_) (fun hz=>?_)
 ·refine rZ (aT I (rE (bR (tR (dR (s':=s) uR ?_)))));exact za8 (.inl I) results181 I ⟨⟨0,I,by rw[hl.1 hz]⟩,I,hle1⟩
 ·refine rZ (lU (fA tP I zT4 I) (lK (qL (v:=vb (mc n)) iT4 I (cO 0 I I)) (aT I ?_)));have hn0:n≠0:=fun e=>hz (hl.2 e);refine iQ I (fun hg=>?_) (fun hg=>?_)
  ·refine rZ (aT I (rE (bR (tR (dR (s':=s) uR ?_)))));exact za8 (.inl I) results181 I ⟨⟨-1,I,by simp[hn0]⟩,I,hle1⟩
  ·refine kP (bN (tN (rZ (aT I (rE (dR (s':=s) uR ?_))))));exact za8 (.inl I) results181 I ⟨⟨1,I,by simp[hn0]⟩,I,hle1⟩
theorem pZ (E:World)(g:PH)(s:Own)(b i:Nat)(zl:List (Int×Int))(k x:Int)(hi:s[i]?=some (mp b (gx zl)))(hx:(c8 zl k).natAbs+x.natAbs<4294967296) :
  Ctr Tryz.prog E 127 #[.map (some b),vi k,dK x] g s (fun _ g' s'=>Le g g'∧s'=s.set i (mp b (gx (em zl k x)))):=by
 refine zb2 (args:=[.map (some b),vi k,.agg #[vb (mc x),txt (eJ x.natAbs)]]) func127 I ntmps127 (bE I) ?_;refine rZ (bW (bO I) fun b5=>?_);refine tZ (rG (lM I (lM I (lM I (lM I (lK (SQ.eq (v':=dK (c8 zl k)) (SQ.lookup mty171 I I (bJ.own (i+1) hi)) (wn zl k)) (lK (qV 0 mi gP I I I) (lW (cL call184 I (vw E g _ (c8 zl k) x hx)) ?_))))))));rintro _ g1 _ ⟨rfl,rfl,hle1⟩;refine lO (SO.mapUpdate (i+1) mty171 I I I hi) ?_;rintro _ _ _ ⟨rfl,rfl⟩;rw[GI];refine nL (dR (s':=s.set i (mp b (gx (em zl k x)))) (.cons _ (.refl _)) ?_);exact ST.ret0 (.inr I) results127 ⟨hle1,I⟩
def te (ts:List Tm):Prop:=∀ t∈ts,bw t.1
theorem oe:∀ (ts:List Tm) (zl:List (Int×Int)),∀ p∈ku zl ts,(∃ q∈zl,q.1=p.1)∨∃ t∈ts,t.1=p.1
 | [],_,p,hp=>.inl ⟨p,hp,rfl⟩
 | t::ts,zl,p,hp=>by
  rcases oe ts (em zl t.1 t.2) p hp with ⟨q,hq,he⟩ | ⟨u,hu,he⟩
  ·have h1:p.1∈(em zl t.1 t.2).map Prod.fst:=zf2.2 ⟨q,hq,he⟩;rw[pL] at h1;split at h1
   ·obtain ⟨q,hq,he⟩:=zf2.1 h1;exact .inl ⟨q,hq,he⟩
   ·rcases zf3.1 h1 with h1 | h1
    ·obtain ⟨q,hq,he⟩:=zf2.1 h1;exact .inl ⟨q,hq,he⟩
    ·simp at h1;exact .inr ⟨t,by simp,h1.symm⟩
  ·exact .inr ⟨u,List.mem_cons_of_mem _ hu,he⟩
theorem ug {ts:List Tm}(h:te ts):∀ p∈ku [] ts,bw p.1:=fun p hp=>by
 rcases oe ts [] p hp with ⟨q,hq,_⟩ | ⟨t,ht,he⟩
 ·cases hq
 ·rw[← he]; exact h t ht
theorem fU (ts:List Tm)(r:Int):c8 (ku [] ts) r=cf ts r:=by
 rw[uE];show 0+_=_;omega
theorem rB {zl:List (Int×Int)}{t:Tm}(h:t∈gW zl):(∃ p∈zl,p.1=t.1)∧t.2=c8 zl t.1:=by
 unfold gW at h;obtain ⟨k,hk,rfl⟩:=zf2.1 h;obtain ⟨p,hp,he⟩:=zf2.1 ((np _).mem_iff.1 (zh4.1 hk).1);exact⟨⟨p,hp,he⟩,I⟩
structure lf (ts:List Tm):Prop where
 part:∀ j r,(cf (ts.take j) r).natAbs≤1000000000
 coef:∀ t∈ts,t.2.natAbs≤1000000000
 len:ts.length<1000000
 fit:te ts
theorem lf.all {ts:List Tm}(h:lf ts)(r:Int):(cf ts r).natAbs≤1000000000:=by
 have:=h.part ts.length r;rwa [List.take_length] at this
theorem lf.small {ts:List Tm}(h:lf ts):WBd 4294967295 (ku [] ts):=fun p hp=>by
 have h1:=lV (i7 ts (zl:=[]) (by simp)) p hp;rw[fU] at h1;have h2:=h.all p.1;omega
theorem wh {r:Int}:∀ {ts:List Tm},(∀ t∈ts,t.2.natAbs≤1)→(cf ts r).natAbs≤ts.length
 | [],_=>zf6 _
 | t::ts,h=>by
  have h1:=wh (r:=r) (ts:=ts) fun u hu=>h u (List.mem_cons_of_mem _ hu);have h2:=h t (by simp);rw[dQ,ze8];split <;> omega
theorem lf.ones {ts:List Tm}(h:∀ t∈ts,t.2.natAbs≤1)(hl:ts.length<1000000)(hf:te ts):lf ts :=
 ⟨fun j r=>by
  have h1:=wh (r:=r) (ts:=ts.take j) fun t ht=>h t (List.mem_of_mem_take ht);rw[ze4] at h1;omega,fun t ht=>by have:=h t ht; omega,hl,hf⟩
theorem Bp:∀ {ts:List Tm},(ts.Pairwise fun a b=>a.1<b.1)→∀ (j:Nat) (r:Int),cf (ts.take j) r=0∨cf (ts.take j) r=cf ts r
 | [],_,j,r=>by rw[List.take_nil]; exact .inr I
 | t::ts,h,0,r=>.inl rfl
 | t::ts,h,j+1,r=>by
  rw[zk4] at h;rw[List.take_succ_cons,dQ,dQ];by_cases e:t.1=r
  ·have h1:cf ts r=0:=mT fun u hu=>by have:=h.1 u hu; omega
   have h2:cf (ts.take j) r=0:=mT fun u hu=>by have:=h.1 u (List.mem_of_mem_take hu); omega
   rw[h1,h2]; exact .inr I
  ·rw[zf9 e,Int.zero_add,Int.zero_add];exact Bp h.2 j r
theorem lf.can {F:Int→Int}{ts:List Tm}(h:oT F ts)(hF:∀ r,(F r).natAbs≤1000000000)(hl:ts.length<1000000)(hf:te ts):lf ts :=
 ⟨fun j r=>by
  rcases Bp h.1 j r with e | e
  ·rw[e]; decide
  ·rw[e,h.2.2]; exact hF r,fun t ht=>by
  have h1:cf ts t.1=t.2:=by
   have h3:=h.1;clear h hF hl hf;induction ts with
   | nil=>cases ht
   | cons u us ih =>
    rw[zk4] at h3;rw[dQ]
    rcases zf1.1 ht with rfl | ht
    ·rw[zg1 rfl,mT fun v hv=>by have:=h3.1 v hv; omega,Int.add_zero]
    ·rw[zf9 (by have:=h3.1 t ht; omega),Int.zero_add];exact ih ht h3.2
  rw[← h1,h.2.2];exact hF _,hl,hf⟩
def tW (ts:List Tm):List Tm:=gW (ku [] ts)
theorem l6 (ts:List Tm):oT (cf ts) (tW ts):=by
 have h:=nj (zl:=ku [] ts) (i7 ts (by simp));exact⟨h.1,h.2.1,fun r=>(h.2.2 r).trans (fU ts r)⟩
theorem sZ (ts:List Tm):(tW ts).length≤ts.length:=zk8 (rC _) (by simpa using lL ts [])
theorem yU {ts:List Tm}{t:Tm}(h:t∈tW ts):(∃ u∈ts,u.1=t.1)∧t.2=cf ts t.1:=by
 obtain ⟨⟨p,hp,he⟩,h2⟩:=rB h;rw[fU] at h2
 rcases oe ts [] p hp with ⟨q,hq,_⟩ | ⟨u,hu,hu2⟩
 ·cases hq
 ·exact⟨⟨u,hu,hu2.trans he⟩,h2⟩
theorem CT {ts us:List Tm}(h:∀ r,cf ts r=cf us r):tW ts=tW us:=(l6 ts).uniq (l6 us) h
def xM (n:Int)(ts:List Tm):List Tm:=gW ((ku [] ts).map fun p=>(p.1,n * p.2))
theorem DC (n:Int)(ts:List Tm):oT (fun r=>n * cf ts r) (xM n ts):=by
 have hk:(((ku [] ts).map fun p=>(p.1,n * p.2)).map Prod.fst).Nodup:=by
  rw[zi5];exact i7 ts (by simp)
 have h:=nj hk;exact⟨h.1,h.2.1,fun r=>(h.2.2 r).trans ((nu n r _).trans (ze2 (n * ·) (fU ts r)))⟩
theorem x9 (n:Int)(ts:List Tm):(xM n ts).length≤ts.length:=zk8 (rC _) (by rw[ze6]; simpa using lL ts [])
theorem DB {n:Int}{ts:List Tm}{t:Tm}(h:t∈xM n ts):(∃ u∈ts,u.1=t.1)∧t.2=n * cf ts t.1:=by
 obtain ⟨⟨p,hp,he⟩,h2⟩:=rB h;rw[nu,fU] at h2;obtain ⟨q,hq,rfl⟩:=zf2.1 hp
 rcases oe ts [] q hq with ⟨q',hq',_⟩ | ⟨u,hu,hu2⟩
 ·cases hq'
 ·exact⟨⟨u,hu,hu2.trans he⟩,h2⟩
theorem sJ (E:World)(g:PH)(s:Own)(op p:Option Addr)(oc n c:Nat)(ts:List Tm)(ho:SlA dM g (.slice op 1 oc) [⟨p,n,c⟩])(ht:SlA a6 g (.slice p n c) ts)(hT:lf ts) :
  Ctr Tryz.prog E 122 #[.slice op 1 oc] g s (fun r g' s'=>∃ b,r = .map (some b)∧Le g g'∧s'=mp b (gx (ku [] ts))::s):=by
 obtain rfl:n=ts.length:=(SlA.cap ht).1;have hl:=hT.len;refine zb2 (args:=[.slice op 1 oc]) func122 I ntmps122 (bE I) ?_;refine rZ (aT I (rZ (lW (SO.mkMap) ?_)));rintro _ _ _ ⟨m,rfl,rfl,rfl⟩;refine aT I (sQ (sW I (lU (eN underlying216 I) (lM I (tZ (bK ?_))))));refine oP (ι:=Nat×PH×List (Int×Int)) (fun i=>[(3,.map (some m)),(9,.slice op 1 oc),(10,vi 1),(11,vi i.1)]) (fun i=>i.2.1) (fun i=>mp m (gx i.2.2)::s) (fun i=>i.1≤1∧Le g i.2.1∧(i.1=0→i.2.2=[])∧(i.1=1→i.2.2=ku [] ts)) (fun i=>1 - i.1) (0,g,[])
  sB rfl rfl ⟨zf6 _,zb9 _,fun _=>rfl,fun h=>absurd h (by simp)⟩ ?_
 rintro ⟨k,gk,zl0⟩ ⟨hk,hlek,h0,h1⟩;dsimp only at hk hlek h0 h1 ⊢;refine rZ (yL I (tZ (sQ ?_)));refine iP I (fun hlt=>?_) (fun hlt=>?_)
 ·obtain rfl:k=0:=oM;obtain rfl:=h0 rfl;have hob:=za6 ho (by simp);have hok:=za5 ho hlek;have htk:=za5 ht hlek;refine kP (tN (sQ (bK (rZ (lU (iA underlying216 sizeOf77 I I hob oM sL) (lK (eB (u:=.slice p ts.length c) isAgg77 I (za7 hok) (show ([⟨p,ts.length,c⟩]:List Sv)[((0:Nat):Int).toNat]?=some ⟨p,ts.length,c⟩ from I) I) (aT I (sW I (lU (eN tf I) (lM I (tZ (bK ?_))))))))))));refine oP (ι:=Nat×PH) (fun i=>[(3,.map (some m)),(9,.slice op 1 oc),(10,vi 1),(11,vi 0),(15,.slice p ts.length c),(16,vi ts.length),(17,vi i.1)]) (fun i=>i.2) (fun i=>mp m (gx (ku [] (ts.take i.1)))::s) (fun i=>i.1≤ts.length∧Le gk i.2) (fun i=>ts.length - i.1) (0,gk)
   sB rfl rfl ⟨zf6 _,zb9 _⟩ ?_
  rintro ⟨j,gj⟩ ⟨hj,hlej⟩;dsimp only at hj hlej ⊢;refine rZ (yL I (tZ (sQ ?_)));refine iP I (fun hlt2=>?_) (fun hlt2=>?_)
  ·have hjl:j<ts.length:=oM;have htj:=za5 htk hlej;have hb1:=za6 htj oM;have hgx:ts[((j:Nat):Int).toNat]?=some ts[j]:=gE hjl;have hsucc:=BK hjl [];have hx1:=hT.coef _ (gM hjl);have hbd:=hT.part j ts[j].1;rw[← fU] at hbd;generalize ts[j]=x at *;obtain ⟨x1,x2⟩:=x;dsimp only at hsucc hx1 hbd;refine kP (tN (sQ (bK (rZ (lU (iA tf qD I I hb1 oM sL) (lK (eA isAgg82 qD I (za7 htj) hgx) (bW (aL zeroValue82) fun b7=>?_)))))));refine oZ (sK 0 qD I I I I I sB) ?_;refine tZ (rG (lM I (lU (fA C8 I zT3 I) (lK (qL (v:=vi x1) iT3 I (cO 0 I I)) (lU (fA C8 I gP I) (lK (SQ.loadAggAt (vs:=[vb (mc x2),txt (eJ x2.natAbs)]) mi gP I I (EA 0 I)) (lW (cL call127 I (pZ E gj _ m 1 (ku [] (ts.take j)) x1 x2 I oM)) ?_)))))));rintro _ g1 _ ⟨hle1,rfl⟩;refine nL (bN (tN (rG (yD I (lM I (nL (dR (s':=mp m (gx (em (ku [] (ts.take j)) x1 x2))::s) (.cons _ (.refl _)) ?_)))))));rw[← hsucc];exact ST.again (j+1,g1) sB I I ⟨by dsimp only; omega,hlej.trans hle1⟩ (by dsimp only; omega)
  ·have hkk:ts.take j=ts:=tL oM;rw[hkk];refine xI (tX (tX (bX (bN (tN (rG (yD I (lM I (nL ?_)))))))));exact ST.again (1,gj,ku [] ts) sB I I ⟨by dsimp only; omega,hlek.trans hlej,(fun h=>absurd h (by simp)),fun _=>I⟩ (by dsimp only; omega)
 ·obtain rfl:k=1:=oM;obtain rfl:=h1 rfl;refine xI (tX (tX (bX (tN (sW I (aT I (rE ?_)))))));exact za8 (.inl I) results122 I ⟨m,I,hlek,I⟩
theorem EM (zl:List (Int×Int)):(gx zl).map Prod.fst=zl.map Prod.fst:=by
 unfold gx;rw[zi5];rfl
def C3 (zl:List (Int×Int))(K:List Int):List Tm:=(K.filter fun k=>decide (c8 zl k≠0)).map fun k=>(k,c8 zl k)
theorem BH (zl:List (Int×Int)){K:List Int}{k:Nat}(hk:k<K.length):C3 zl (K.take (k+1))=C3 zl (K.take k)++if c8 zl K[k]≠0 then [(K[k],c8 zl K[k])] else []:=by
 unfold C3;rw[tS hk,zh6,zg5];by_cases h:c8 zl K[k]=0 <;> simp[h]
theorem Dk (zl:List (Int×Int))(K:List Int):(C3 zl K).length≤K.length:=by
 unfold C3;rw[ze6];exact zc5 _ _
theorem ni (E:World)(hE:E.drawn=0)(g:PH)(s:Own)(b:Nat)(zl:List (Int×Int))(hm:Mp g b (gx zl))(hl:zl.length<1099511627776)(hw:∀ p∈zl,bw p.1)(hB:WBd 4294967295 zl) :
  Ctr Tryz.prog E 123 #[.map (some b)] g s (fun r g' s'=>s=s'∧Le g g'∧SlA a6 g' r (gW zl)):=by
 have hKl:(ei (zl.map Prod.fst)).length=zl.length:=by rw[ff,ze6]
 have hT:gW zl=C3 zl (ei (zl.map Prod.fst)):=rfl;rw[hT];refine zb2 (args:=[.map (some b)]) func123 I ntmps123 (bE I) ?_;refine rZ (aT I (rZ (aT I (sQ (sW I (lW (cL call180 I (zZ E g _ b)) ?_))))));rintro _ g1 _ ⟨rfl,hle1,bk,rfl,hbk⟩;refine lW (cL call146 I (vB E hE g1 _ bk b (gx zl) hbk (hm.mono hle1) (by unfold gx; rw[ze6]; exact hl) (fun p hp=>by unfold gx at hp; obtain ⟨q,hq,rfl⟩:=zf2.1 hp; exact hw q hq))) ?_;rintro v8 g2 _ ⟨rfl,hle2,hK⟩;rw[EM] at hK;obtain ⟨q,d,rfl⟩:=za4 hK;refine lU (eN aH I) (lM I (tZ (bK ?_)));generalize ei (zl.map Prod.fst)=K at *;refine zb6 82 3 ?_;refine oP (ι:=Nat×PH×Value) (fun i=>[(0,.map (some b)),(3,i.2.2),(8,.slice q K.length d),(9,vi K.length),(10,vi i.1)]) (fun i=>i.2.1) (fun i=>rowA a6 82 i.2.2 (C3 zl (K.take i.1))::s) (fun i=>i.1≤K.length∧Le g2 i.2.1) (fun i=>K.length - i.1) (0,g2,.slice none 0 0)
  sB rfl rfl ⟨zf6 _,zb9 _⟩ ?_
 rintro ⟨k,gk,w⟩ ⟨hk,hlek⟩;dsimp only at hk hlek ⊢;refine rZ (yL I (tZ (sQ ?_)));refine iP I (fun hlt=>?_) (fun hlt=>?_)
 ·have hkl:k<K.length:=oM;have hKk:=za5 hK hlek;have hb1:=za6 hKk oM;have hgk:K[((k:Nat):Int).toNat]?=some K[k]:=gE hkl;have hsucc:=BH zl hkl;have htl:=Dk zl (K.take k);rw[ze4] at htl;have hBk:=WBd.get hB K[k];have hmk:=hm.mono (hle1.trans (hle2.trans hlek));generalize K[k]=id0 at *;refine kP (tN (sQ (bK (rZ (lU (iA aH zT3 I I hb1 oM sL) (lK (eB (u:=vi id0) iT3 I (za7 hKk) hgk I) (aT I (sW I (lM I (lK (SQ.eq (v':=dK (c8 zl id0)) (SQ.lookup mty171 I I (bJ.known hmk)) (wn zl id0)) (lW (cL call181 I (tt E gk _ (c8 zl id0) oM)) ?_)))))))))));rintro _ g3 _ ⟨⟨sg,rfl,hsg⟩,rfl,hle3⟩;have hm3:=hmk.mono hle3;refine lU (SU.eq (v':=vb (decide (c8 zl id0≠0))) (nQ I I) (ze2 vb hsg)) (tZ ?_);refine iP I (fun hnz=>?_) (fun hnz=>?_)
  ·rw[zg1 hnz] at hsucc;refine rG (lM I (lM I (lM I (lM I (lK (SQ.eq (v':=dK (c8 zl id0)) (SQ.lookup mty171 I I (bJ.known hm3)) (wn zl id0)) (lU (za3 I (build82 _ _ _)) (lW (bS sty77 I I I (ae ⟨I,trivial⟩) dC) ?_)))))));rintro _ _ _ ⟨b25,rfl,rfl,rfl⟩;refine lW (aP (e:=a6) (l:=C3 zl (K.take k)) 0 (id0,c8 zl id0) sty77 I I I I I oM oM) ?_;rintro ov' _ _ ⟨rfl,rfl⟩;refine lA I (nL (bN (tN (rG (yD I (lM I (nL ?_)))))));rw[← hsucc];exact ST.again (k+1,g3,ov') sB I I ⟨by dsimp only; omega,hlek.trans hle3⟩ (by dsimp only; omega)
  ·rw[zf9 hnz,zc6] at hsucc;refine kP (bN (tN (rG (yD I (lM I (nL ?_))))));rw[← hsucc];exact ST.again (k+1,g3,w) sB I I ⟨by dsimp only; omega,hlek.trans hle3⟩ (by dsimp only; omega)
 ·have hkk:K.take k=K:=tL oM;rw[hkk];refine xI (tX (tX (bX (tN (sW I (aT I (rE (fT fun g3 hle3 hrow=>?_))))))));exact za8 (.inl I) results123 I ⟨I,hle1.trans (hle2.trans (hlek.trans hle3)),hrow⟩
theorem ie (E:World)(hE:E.drawn=0)(g:PH)(s:Own)(v:Value)(ts:List Tm)(ht:SlA a6 g v ts)(hT:lf ts) :
  Ctr Tryz.prog E 59 #[v] g s (fun r g' s'=>s=s'∧Le g g'∧SlA a6 g' r (tW ts)):=by
 obtain ⟨p,c,rfl⟩:=za4 ht;have hlen:=lL ts [];refine zb2 (args:=[.slice p ts.length c]) func59 I ntmps59 (bE I) ?_;refine rZ (aT I (sW I (lW (bS sty216 I I I (ae ⟨I,trivial⟩) dC) ?_)));rintro _ _ _ ⟨b4,rfl,rfl,rfl⟩;refine zb5 fun g1 hle1 hb4=>?_;have hs4:SlA dM g1 (.slice (some ⟨b4,0,none⟩) 1 1) [⟨p,ts.length,c⟩]:=SlA.lit hb4 rfl rfl;refine lW (cL call122 I (sJ E g1 _ _ p 1 ts.length c ts hs4 (za5 ht hle1) hT)) ?_;rintro _ g2 _ ⟨b5,rfl,hle2,rfl⟩;refine SL.freezeMap fun g3 hle3 hm3=>?_;refine lW (cL call123 I (ni E hE g3 _ b5 (ku [] ts) hm3 (by have:=hT.len; simp at hlen; omega) (ug hT.fit) hT.small)) ?_;rintro v6 g4 _ ⟨rfl,hle4,hs6⟩;refine aT I (rE ?_);exact za8 (.inl I) results59 I ⟨I,hle1.trans (hle2.trans (hle3.trans hle4)),hs6⟩
theorem xw (E:World)(hE:E.drawn=0)(g:PH)(s:Own)(v u:Value)(ts us:List Tm)(ht:SlA a6 g v ts)(hu:SlA a6 g u us)(hT:lf ts)(hU:lf us)(he:∀ r,cf ts r=cf us r) :
  Ctr Tryz.prog E 61 #[v,u] g s (fun r g' s'=>r=vb true∧s=s'∧Le g g'):=by
 obtain ⟨p,c,rfl⟩:=za4 ht;obtain ⟨q,d,rfl⟩:=za4 hu;have hln:=sZ ts;have hl:=hT.len;have hsm:=CT he;refine zb2 (args:=[.slice p ts.length c,.slice q us.length d]) func61 I ntmps61 (bE I) ?_;refine rZ (aT I (sW I (lW (cL call59 I (ie E hE g _ _ ts ht hT)) ?_)));rintro v6 g1 _ ⟨rfl,hle1,hs1⟩;refine lM I (lW (cL call59 I (ie E hE g1 _ _ us (za5 hu hle1) hU)) ?_);rintro v8 g2 _ ⟨rfl,hle2,hs2⟩;rw[← hsm] at hs2;refine lW (cL call58 I (yR E g2 _ _ _ (tW ts) (za5 hs1 hle2) hs2 oM)) ?_;rintro _ _ _ ⟨rfl,rfl,rfl⟩;refine aT I (rE ?_);exact za8 (.inl I) results61 I ⟨I,I,hle1.trans hle2⟩
def gG (n:Int)(ks:List Int)(zl:List (Int×Int)):List (Int×Int):=zl.map fun p=>if p.1∈ks then (p.1,n * p.2) else p
theorem zG (n:Int)(ks:List Int)(zl:List (Int×Int)):(gG n ks zl).map Prod.fst=zl.map Prod.fst:=by
 unfold gG;rw[zi5];refine zc8 fun p _=>?_;simp only[Function.comp];split <;> rfl
theorem BW (n:Int)(zl:List (Int×Int)):gG n [] zl=zl:=by simp[gG]
theorem BZ {n:Int}{ks:List Int}{zl:List (Int×Int)}(h:∀ p∈zl,p.1∈ks):gG n ks zl=zl.map fun p=>(p.1,n * p.2):=zc8 fun p hp=>zg1 (h p hp)
theorem BX {n k z:Int}{ks:List Int}{zl:List (Int×Int)}(h:(k,z)∈gG n ks zl)(hk:k ∉ ks):(k,z)∈zl:=by
 unfold gG at h;obtain ⟨p,hp,he⟩:=zf2.1 h;split at he
 ·rename_i h1;injection he with h2 h3
  rw[h2] at h1;exact absurd h1 hk
 ·rw[← he]; exact hp
theorem un {n k z:Int}{ks:List Int}:∀ {zl:List (Int×Int)},(zl.map Prod.fst).Nodup→(k,z)∈zl→dG (gx (gG n ks zl)) k (dK (n * z))=gx (gG n (ks++[k]) zl)
 | [],_,h=>by cases h
 | (a,y)::r,hn,h=>by
  rw[zg4,zk3] at hn;have hL:gx (gG n ks ((a,y)::r))=(a,dK (if a∈ks then n * y else y))::gx (gG n ks r):=by
   unfold gx gG;simp only[zg4];by_cases ha:a∈ks <;> simp[ha]
  have hR:gx (gG n (ks++[k]) ((a,y)::r))=(a,dK (if a∈ks++[k] then n * y else y))::gx (gG n (ks++[k]) r):=by
   unfold gx gG;simp only[zg4];by_cases ha:a∈ks++[k] <;> simp only[ha,if_true,if_false]
  rw[hL,hR];by_cases hak:k=a
  ·subst hak;have hy:y=z:=by
    rcases zf1.1 h with h1 | h1
    ·injection h1 with _ h2; exact h2.symm
    ·exact absurd (zf2.2 ⟨(k,z),h1,I⟩) hn.1
   subst hy;have ht:gG n (ks++[k]) r=gG n ks r:=zc8 fun p hp=>by
    have h1:p.1≠k:=fun e=>hn.1 (zf2.2 ⟨p,hp,e⟩);simp[h1]
   rw[dG,zg1 rfl,zg1 (by simp),ht]
  ·have h1:(k,z)∈r:=by
    rcases zf1.1 h with h1 | h1
    ·injection h1 with h2 _; exact absurd h2 hak
    ·exact h1
   have h2:(a∈ks++[k])=(a∈ks):=by simp; exact fun e=>absurd e.symm hak
   rw[dG,zf9 hak,un hn.2 h1];simp only[h2]
theorem bD (a:Int)(u:Value)(r:List (Int×Value))(k:Int):df ((a,u)::r) k=if k=a then some u else df r k:=by
 unfold df;rw[fnd];split
 ·rfl
 ·exact j3 k r 1
theorem ym {k:Int}:∀ {l:List (Int×Value)},(∃ p∈l,p.1=k)→∃ u,df l k=some u
 | [],h=>by obtain ⟨p,hp,_⟩:=h; cases hp
 | (a,u)::r,h=>by
  rw[bD];by_cases e:k=a
  ·exact⟨u,zg1 e⟩
  ·rw[zf9 e];obtain ⟨p,hp,he⟩:=h
   rcases zf1.1 hp with rfl | hp
   ·exact absurd he.symm e
   ·exact ym ⟨p,hp,he⟩
theorem zH (E:World)(hE:E.drawn=0)(g:PH)(s:Own)(n:Int)(v:Value)(ts:List Tm)(ht:SlA a6 g v ts)(hn:n.natAbs≤1)(hT:lf ts)(hcf:∀ r,(cf ts r).natAbs≤1) :
  Ctr Tryz.prog E 130 #[dK n,v] g s (fun r g' s'=>s=s'∧Le g g'∧SlA a6 g' r (xM n ts)):=by
 obtain ⟨p,c,rfl⟩:=za4 ht;have hlen:=lL ts [];have hnd:=i7 ts (zl:=[]) (by simp);have hgz:=fU ts;have hkeys:=ug hT.fit;have hl:=hT.len;have hres:xM n ts=gW ((ku [] ts).map fun p=>(p.1,n * p.2)):=rfl;rw[hres];refine zb2 (args:=[.agg #[vb (mc n),txt (eJ n.natAbs)],.slice p ts.length c]) func130 I ntmps130 (bE I) ?_;refine rZ (bW (bO I) fun b2=>?_);refine aT I (sW I (lW (bS sty216 I I I (ae ⟨I,trivial⟩) dC) ?_));rintro _ _ _ ⟨b9,rfl,rfl,rfl⟩;refine zb5 fun g1 hle1 hb9=>?_;have hs9:SlA dM g1 (.slice (some ⟨b9,0,none⟩) 1 1) [⟨p,ts.length,c⟩]:=SlA.lit hb9 rfl rfl;refine lW (cL call122 I (sJ E g1 _ _ p 1 ts.length c ts hs9 (za5 ht hle1) hT)) ?_;rintro _ g2 _ ⟨m,rfl,hle2,rfl⟩;generalize ku [] ts=zl at *;refine aT I (sQ (sQ (SC.openMap 0 I fun es clk hI=>?_)));refine SC.to (g':=g2) (s':=mx m es clk::pt b2 (.cells #[vb (mc n),txt (eJ n.natAbs)] 80 (0,0))::s) (fun w hw=>hw) ?_;refine rG (lM I (lW (SO.rangeG underlying171 I (vv 0 I)) ?_));rintro _ _ _ ⟨it,rfl,rfl,rfl⟩;refine tZ (bK ?_);rw[zc4,Nat.zero_add] at hlen;refine oP (ι:=List MapEntry×List (Int×Value)×PH×Array MapEntry) (fun _=>[(2,pp b2 0),(5,.map (some m)),(12,pp it 0)]) (fun i=>i.2.2.1)
  (fun i=>eW it m i.2.2.2 clk i.1::mx m i.2.2.2 clk::pt b2 (.cells #[vb (mc n),txt (eJ n.natAbs)] 80 (0,0))::s)
  (fun i=>jn (gx (gG n (i.2.1.map Prod.fst) zl)) i.2.2.2 clk∧kU (gx (gG n (i.2.1.map Prod.fst) zl)) i.2.2.2 i.1 i.2.1∧Le g2 i.2.2.1) (fun i=>zl.length - i.2.1.length)
  ([],[],g2,es) sB rfl rfl ⟨by dsimp only; rw[List.map_nil,BW]; exact hI,kU.nil _ _,zb9 _⟩ ?_
 rintro ⟨vis,vl,gk,es3⟩ ⟨hI3,hrv3,hlek⟩;dsimp only at hI3 hrv3 hlek ⊢;have hpl:(gx (gG n (vl.map Prod.fst) zl)).length=zl.length:=by unfold gx gG; rw[ze6,ze6]
 refine rZ (lW (SO.nextPG 0 I I (vv 1 I) hI3 hrv3) ?_);rintro _ _ _ ⟨rfl,hcase⟩
 rcases hcase with ⟨rfl,rfl,hperm⟩ | ⟨en,pr,hen,hpr,hk1,hv1,hrv4,rfl,rfl⟩
 ·have hall:∀ p∈zl,p.1∈vl.map Prod.fst:=fun p hp=>by
   rw[(hperm.map Prod.fst).mem_iff,EM,zG];exact zf2.2 ⟨p,hp,I⟩
  rw[BZ hall] at hI3;refine yX I (tZ (sQ (za1 I (xI (tX (tX (bX (tN (sQ (SC.drop (s':=mx m es3 clk::pt b2 (.cells #[vb (mc n),txt (eJ n.natAbs)] 80 (0,0))::s) (.cons _ (.refl _)) (SC.freeze fun g4 hle4 hb4=>?_)))))))))));have hm4:Mp g4 m (gx (zl.map fun p=>(p.1,n * p.2))):=⟨_,_,hb4,hI3⟩;refine rG (lM I (lW (cL call123 I (ni E hE g4 _ m _ hm4 (by rw[ze6]; omega) (fun p hp=>by obtain ⟨q,hq,rfl⟩:=zf2.1 hp; exact hkeys q hq) (fun p hp=>by obtain ⟨q,hq,rfl⟩:=zf2.1 hp; dsimp only; rw[Int.natAbs_mul,← lV hnd q hq,hgz]; have h5:=Nat.mul_le_mul hn (hcf q.1); omega))) ?_));rintro v24 g5 _ ⟨rfl,hle5,hs5⟩;refine aT I (rE (dR (s':=s) uR ?_));exact za8 (.inl I) results130 I ⟨I,hle1.trans (hle2.trans (hlek.trans (hle4.trans hle5))),hs5⟩
 ·obtain ⟨⟨k,z⟩,hz,rfl⟩:=zf2.1 hpr;have hnk:=mu hrv4 hI3;rw[zg5,List.nodup_append] at hnk;have hkn:k ∉ vl.map Prod.fst:=fun hm=>hnk.2.2 _ hm _ (by simp) rfl;have hzl:=BX hz hkn;have hz1:z.natAbs≤1:=by
   have h1:=lV hnd (k,z) hzl;dsimp only at h1;rw[← h1,hgz];exact hcf k
  have hnz:(n * z).natAbs≤1:=by
   rw[Int.natAbs_mul];have h5:=Nat.mul_le_mul hn hz1;omega
  have hu1:=ym (k:=k) ⟨_,hpr,rfl⟩;have hput:=un (n:=n) (ks:=vl.map Prod.fst) hnd hzl;have hvl:=hrv4.len hI3;rw[ze5,ze7,hpl] at hvl;refine yX I (tZ (sQ (za2 I (kP (tN (bK (rZ (lK (SQ.entryPG (p:=(k,.agg #[vb (mc z),txt (eJ z.natAbs)])) 0 I I (vv 1 I) hI3 hen hk1 hv1) (yX I (yX I (bW (aL zl8) fun b7=>?_)))))))))));refine lA I (oZ (sK 0 gP I I I I I sB) ?_);refine tZ ?_;refine SC.to (g':=gk) (s':=pt b7 (.cells #[vb (mc z),txt (eJ z.natAbs)] 80 (0,0))::eW it m es3 clk (vis++[en])::mx m es3 clk::pt b2 (.cells #[vb (mc n),txt (eJ n.natAbs)] 80 (0,0))::s) (fun w hw=>hw) ?_;refine rG (lM I (lM I (lK (qV 3 mi gP I I I) (lK (qV 0 mi gP I I I) (lW (cL call128 I (nP E gk _ n z oM oM oM)) ?_)))));rintro _ g6 _ ⟨rfl,rfl,hle6⟩;refine lO (SO.mapUpdateX 2 mty171 I I I I hI3 hu1) ?_;rintro _ _ _ ⟨rfl,es4,rfl,hI4,hrvu⟩;refine nL (bN ?_);have hrv5:=hrvu _ _ hrv4;have hks:((vl++[(k,dK z)]).map (AD k (dK (n * z)))).map Prod.fst=vl.map Prod.fst++[k]:=by rw[tY,zg5]; rfl
  rw[hput] at hI4 hrv5;refine dR (.cons _ (.refl _)) ?_;exact ST.again ((vis++[en]).map (oL k (dK (n * z))),(vl++[(k,dK z)]).map (AD k (dK (n * z))),g6,es4) sB I (by dsimp only; rw[yt _ _ _ es3]; rfl) ⟨by dsimp only; rw[hks]; exact hI4,by dsimp only; rw[hks]; exact hrv5,hlek.trans hle6⟩ (by dsimp only; rw[ze6,ze5,ze7]; omega)
def qM (l:List Cl)(d k:Int):Bool:=l.any fun c=>decide (c.id=k)&&decide (c.dim=d)
theorem Ad {l:List Cl}{i:Nat}(h:i<l.length)(d k:Int):qM (l.take (i+1)) d k=(qM (l.take i) d k||(decide (l[i].id=k)&&decide (l[i].dim=d))):=by
 unfold qM;rw[tS h,List.any_append];simp
theorem inP (E:World)(g:PH)(b m:Nat)(pm:List (Int×Value))(q:Int→Bool)(hb:g b=some (.cells #[.map (some m)] 143 (0,0)))(hm:Mp g m pm)(hq:∀ k,(df pm k).getD (vb false)=vb (q k)):AR E (.func (.func 125) #[] #[pp b 0]) (fun t=>!q t.1) g:=by
 intro g s a hle;refine c4.mk (cap:=[pp b 0]) call125 ?_;have hb':=hle _ _ hb;have hm':=hm.mono hle;refine zb2 (args:=[.agg (a6.enc a).toArray,pp b 0]) func125 I ntmps125 (bE I) ?_;refine rZ (bW (bO I) fun b2=>?_);refine aT I (rZ (lK (qL isAgg143 I (cK hb' I)) (lU (fA C8 I zT3 I) (lK (qL (v:=vi a.1) iT3 I (cO 0 I I)) (lK (SQ.eq (v':=vb (q a.1)) (SQ.lookup mty143 I I (bJ.known hm')) (hq a.1)) (lU (SU.not I) (aT I (rE (dR (s':=s) uR ?_)))))))));exact za8 (.inl I) results125 I ⟨I,I,I⟩
theorem FN (E:World)(hE:E.drawn=0)(g:PH)(s:Own)(v u:Value)(l:List Cl)(d:Int)(ts:List Tm)(hv:ar g v l)(hf:ci l)(ht:SlA a6 g u ts)(hT:lf ts)(hth:∀ t∈ts,qM l d t.1=true) :
  Ctr Tryz.prog E 60 #[.agg #[v],vi d,u] g s (fun r g' s'=>r=vb true∧s=s'∧Le g g'):=by
 obtain ⟨rs,hrs,hall⟩:=hv;have hlen:=hall.length;have hfl:=hf.1;obtain ⟨p,c,rfl⟩:=za4 hrs;obtain ⟨q,e,rfl⟩:=za4 ht;have hcl:=sZ ts;have hl:=hT.len;refine zb2 (args:=[.agg #[.slice p rs.length c],vi d,.slice q ts.length e]) func60 I ntmps60 (bE I) ?_;refine rZ (bW (bO I) fun b3=>?_);refine aT I (rZ (lW (SO.mkMap) ?_));rintro _ _ _ ⟨m,rfl,rfl,rfl⟩;refine bW (aL zeroValue143) fun b7=>?_;refine oZ (sK 0 sizeOf143 I I I I I sB) ?_;refine tZ (sQ (rZ (lU (fA eH I ee I) (lK (qL (v:=.slice p rs.length c) fX I (cO 2 I I)) (lU (eN aJ I) (lM I (tZ (bK ?_))))))));refine oP (ι:=Nat×List (Int×Value)) (fun i=>[(1,vi d),(2,.slice q ts.length e),(7,pp b7 0),(12,.slice p rs.length c),(13,vi rs.length),(14,vi i.1)]) (fun _=>g) (fun i=>pt b7 (.cells #[.map (some m)] 143 (0,0))::mp m i.2::pt b3 (.cells #[.slice p rs.length c] 29 (0,0))::s)
  (fun i=>i.1≤rs.length∧∀ k,(df i.2 k).getD (vb false)=vb (qM (l.take i.1) d k)) (fun i=>rs.length - i.1) (0,[]) sB rfl rfl ⟨zf6 _,fun _=>rfl⟩ ?_
 rintro ⟨k,pm⟩ ⟨hk,hq⟩;dsimp only at hk hq ⊢;refine rZ (yL I (tZ (sQ ?_)));refine iP I (fun hlt=>?_) (fun hlt=>?_)
 ·have hkr:k<rs.length:=oM;have hkl:k<l.length:=oM;have hb1:=za6 hrs oM;have hgk:rs[((k:Nat):Int).toNat]?=some rs[k]:=gE hkr;have hcr:=hall.get (gE hkl) (gE hkr);have hsucc:=Ad hkl d;generalize l[k]=x at *;generalize hrk:rs[k]=rk at *;obtain ⟨xi,xd,xp,xn,xc⟩:=rk;obtain ⟨e1,e2,hxs⟩:=hcr;dsimp only at e1 e2 hxs;subst e1 e2
  rcases Bool.eq_false_or_eq_true (qM (l.take k) d x.id) with hB | hB
  ·refine kP (tN (sQ (bK (rZ (lU (iA aJ aq I I hb1 oM sL) (lK (eA dL aq I (za7 hrs) hgk) (bW (aL zl4) fun b9=>?_)))))));refine oZ (sK 0 aq I I I I I sB) ?_;refine tZ (rG (lK (qL (v:=.map (some m)) isAgg143 I (cO 1 I I)) (lU (fA au I zT3 I) (lK (qL (v:=vi x.id) iT3 I (cO 0 I I)) (lK (qL (v:=.map (some m)) isAgg143 I (cO 1 I I)) (lU (fA au I zT3 I) (lK (qL (v:=vi x.id) iT3 I (cO 0 I I)) (lK (SQ.eq (v':=vb true) (SQ.lookup mty143 I I (bJ.own 2 I)) (by rw[hq,hB])) ?_))))))));refine lM I (yA I (yA I (yA I (yA I (yP I (lO (SO.mapUpdate 2 mty143 I I I I) ?_))))));rintro _ _ _ ⟨rfl,rfl⟩;refine nL (bN (tN (rG (yD I (lM I (nL (dR (s':=pt b7 (.cells #[.map (some m)] 143 (0,0))::mp m (dG pm x.id (vb true))::pt b3 (.cells #[.slice p rs.length c] 29 (0,0))::s) (.cons _ (.refl _)) ?_)))))));exact ST.again (k+1,dG pm x.id (vb true)) sB I I ⟨by dsimp only; omega,fun j=>by
    dsimp only;rw[mA,hsucc];by_cases hj:j=x.id
    ·subst hj; rw[zg1 rfl,hB]; rfl
    ·rw[zf9 hj,hq,zf7 (fun e=>hj e.symm),Bool.false_and,Bool.or_false]⟩ (by dsimp only; omega)
  ·refine kP (tN (sQ (bK (rZ (lU (iA aJ aq I I hb1 oM sL) (lK (eA dL aq I (za7 hrs) hgk) (bW (aL zl4) fun b9=>?_)))))));refine oZ (sK 0 aq I I I I I sB) ?_;refine tZ (rG (lK (qL (v:=.map (some m)) isAgg143 I (cO 1 I I)) (lU (fA au I zT3 I) (lK (qL (v:=vi x.id) iT3 I (cO 0 I I)) (lK (qL (v:=.map (some m)) isAgg143 I (cO 1 I I)) (lU (fA au I zT3 I) (lK (qL (v:=vi x.id) iT3 I (cO 0 I I)) (lK (SQ.eq (v':=vb false) (SQ.lookup mty143 I I (bJ.own 2 I)) (by rw[hq,hB])) ?_))))))));refine lM I (lY I I I (fA au I zT3 I) (SL.gq (gT I I I dC) (qL (v:=vi x.dim) iT3 I (cO 0 I I)) dC (yC I (lY I I I (eQ I I) (yF I (lO (SO.mapUpdate 2 mty143 I I I I) ?_))))));rintro _ _ _ ⟨rfl,rfl⟩;refine nL (bN (tN (rG (yD I (lM I (nL (dR (s':=pt b7 (.cells #[.map (some m)] 143 (0,0))::mp m (dG pm x.id (vb (decide (x.dim=d))))::pt b3 (.cells #[.slice p rs.length c] 29 (0,0))::s) (.cons _ (.refl _)) ?_)))))));exact ST.again (k+1,dG pm x.id (vb (decide (x.dim=d)))) sB I I ⟨by dsimp only; omega,fun j=>by
    dsimp only;rw[mA,hsucc];by_cases hj:j=x.id
    ·subst hj; rw[zg1 rfl,hB,zf8 rfl,Bool.false_or,Bool.true_and]; rfl
    ·rw[zf9 hj,hq,zf7 (fun e=>hj e.symm),Bool.false_and,Bool.or_false]⟩ (by dsimp only; omega)
 ·have hkk:l.take k=l:=tL oM;rw[hkk] at hq;have hany:(tW ts).any (fun t=>!qM l d t.1)=false:=by
   rw[zk6];intro t htc;obtain ⟨⟨u,hu,he⟩,_⟩:=yU htc;have h1:=hth u hu;rw[he] at h1;simp[h1]
  refine xI (tX (tX (bX (tN (sQ (SC.freeze fun g1 hle1 hb7=>?_))))));refine SC.freezeMap fun g2 hle2 hm2=>?_;refine rG (lM I (lW (cL call59 I (ie E hE g2 _ _ ts (za5 ht (hle1.trans hle2)) hT)) ?_));rintro v33 g3 _ ⟨rfl,hle3,hs3⟩;refine lU (SU.mkFunc I) (lW (cL call124 I (tH E g3 _ _ 125 #[pp b7 0] (tW ts) _ hs3 oM (inP E g3 b7 m pm (qM l d) ((hle2.trans hle3) _ _ hb7) (hm2.mono hle3) hq))) ?_);rintro _ _ _ ⟨rfl,rfl,rfl⟩;rw[hany];refine lU (SU.not I) (aT I (rE (dR (s':=s) uR ?_)));exact za8 (.inl I) results60 I ⟨I,I,hle1.trans (hle2.trans hle3)⟩
theorem XT.freezeMap {M:Md}{N:Nat}{E:World}{Q:Exit→Act→World→Prop}{f:Fr}{g:PH}{s:Own}{e:Exit}{b:Nat}{l:List (Int×Value)}(h:∀ g',Le g g'→Mp g' b l→XT M N E Q e f g' s):XT M N E Q e f g (mp b l::s):=fun a w ha hw=>by
 obtain ⟨g',h1,h2,h3⟩:=hw.freezeMap;exact h g' h1 h3 a w ha h2
def dE (l:List Cl):List (Int×Side):=l.flatMap fun c=>c.sides.map fun y=>(c.id,y)
theorem D6 {β:Type}{A:List Cl}{f:Cl→List β}{k j:Nat}(hk:k<A.length)(hj:j<(f A[k]).length):A.flatMap f=((A.take k).flatMap f++(f A[k]).take j)++(f A[k])[j]::((f A[k]).drop (j+1)++(A.drop (k+1)).flatMap f):=by
 have e1:A=A.take k++A[k]::A.drop (k+1):=by rw[List.getElem_cons_drop,zj2]
 have e2:f A[k]=(f A[k]).take j++(f A[k])[j]::(f A[k]).drop (j+1):=by rw[List.getElem_cons_drop,zj2]
 calc A.flatMap f=(A.take k++A[k]::A.drop (k+1)).flatMap f:=by rw[← e1]
  _=(A.take k).flatMap f++(f A[k]++(A.drop (k+1)).flatMap f):=by rw[List.flatMap_append,zh5]
  _=(A.take k).flatMap f++(((f A[k]).take j++(f A[k])[j]::(f A[k]).drop (j+1))++(A.drop (k+1)).flatMap f):=by rw[← e2]
  _=_:=by simp only[zg8,List.cons_append]
theorem wK (E:World)(g:PH)(s:Own)(p:Option Addr)(n c:Nat) :
  Ctr Tryz.prog E 126 #[.agg #[.slice p n c]] g s (fun r g' s'=>s=s'∧Le g g'∧∃ b,r = .func (.func 183) #[] #[pp b 0]∧g' b=some (.cells #[.slice p n c] 29 (0,0))):=by
 refine zb2 (args:=[.agg #[.slice p n c]]) func126 I ntmps126 (bE I) ?_;refine rZ (bW (bO I) fun b1=>?_);refine aT I (rZ (lU (SU.mkFunc I) (aT I (rE (ST.freeze fun g1 hle hb=>?_)))));exact za8 (.inl I) results126 I ⟨I,hle,_,I,hb⟩
theorem wJ (E:World)(g0:PH)(b:Nat)(l:List Cl)(rs:List Rc)(p:Option Addr)(c:Nat)(hb:g0 b=some (.cells #[.slice p rs.length c] 29 (0,0)))(hrs:SlA encCell g0 (.slice p rs.length c) rs)(hall:aF (aw g0) l rs)(hf:ci l) :
  C7 Tryz.prog E 183 [pp b 0] (fun p:Int×Side=>[vi p.1,.agg #[vi p.2.cell,vi p.2.sign]]) (dE l) g0:=by
 intro y ι G S J i0 h0 hmono hY sx;have hlen:=hall.length;have hfl:=hf.1;refine Ctr.ofX (args:=[.func (.yield y) #[] #[],pp b 0]) func183 I ntmps183 (bE I) ?_;refine XC.seq ?_;refine XC.region ?_;refine XL.u (fA eH I ee I) dC ?_;refine XL.q (qL (v:=.slice p rs.length c) fX I (cK (hmono _ _ h0 _ _ hb) I)) dC ?_;refine XL.u (eN aJ I) dC ?_;refine XL.u (mV I) dC ?_;refine XL.nil ?_;refine XT.thenN ?_;refine XC.block ?_;refine XC.loop (ι:=ι×Nat) (fun z=>[(0,.func (.yield y) #[] #[]),(1,pp b 0),(8,.slice p rs.length c),(9,vi rs.length),(10,vi z.2)]) (fun z=>G z.1) (fun z=>S z.1++sx) (fun z=>z.2≤l.length∧J (dE (l.take z.2)) z.1) (fun z=>l.length - z.2) (i0,0)
  sB rfl rfl ⟨zf6 _,h0⟩ ?_
 rintro ⟨i,k⟩ ⟨hk,hJ⟩;dsimp only at hk hJ ⊢;have hm:=hmono _ _ hJ;refine XC.seq ?_;refine XC.region ?_;refine XL.u (lS I I) dC ?_;refine XL.nil ?_;refine XT.thenN ?_;refine XC.seq ?_;refine XC.ifP I (fun hlt=>?_) (fun hlt=>?_)
 ·have hkr:k<rs.length:=oM;have hkl:k<l.length:=oM;have hb1:=za6 hrs oM;have hgk:rs[((k:Nat):Int).toNat]?=some rs[k]:=gE hkr;have hcr:=hall.get (gE hkl) (gE hkr);have hfs:=fun j hj=>D6 (f:=fun c:Cl=>c.sides.map fun y=>(c.id,y)) (j:=j) hkl hj;have htk:dE (l.take (k+1))=dE (l.take k)++l[k].sides.map fun y=>(l[k].id,y):=by unfold dE; rw[tS hkl,List.flatMap_append]; simp
  have hsl:=hf.2 _ (gM hkl);generalize l[k]=x at *;generalize hrk:rs[k]=rk at *;obtain ⟨xi,xd,xp,xn,xc⟩:=rk;obtain ⟨e1,e2,hxs⟩:=hcr;dsimp only at e1 e2 hxs;subst e1 e2;obtain rfl:xn=x.sides.length:=(SlA.cap hxs).1;refine XC.skip ?_;refine XT.thenN ?_;refine XC.seq ?_;refine XC.block ?_;refine XC.seq ?_;refine XC.region ?_;refine XL.u (iA aJ aq I I hb1 oM sL) dC ?_;refine XL.q (eA dL aq I (za7 (za5 hrs hm)) hgk) dC ?_;refine XL.o (aL zl4) dC ?_;rintro _ _ _ ⟨b4,rfl,rfl,rfl⟩;refine XL.on (sK 0 aq I I I I I sB) ?_;rintro _ _ _ ⟨rfl,rfl⟩;refine XL.nil ?_;refine XT.thenN ?_;refine XC.seq ?_;refine XC.region ?_;refine XL.u (fA au I bQ I) dC ?_;refine XL.q (qL (v:=.slice xp x.sides.length xc) cZ I (cO 0 I I)) dC ?_;refine XL.u (eN aY I) dC ?_;refine XL.u (mV I) dC ?_;refine XL.nil ?_;refine XT.thenN ?_;refine XC.block ?_;refine XC.to (g':=G i) (s':=S i++(pt b4 (.cells #[vi x.id,vi x.dim,.slice xp x.sides.length xc] 56 (0,0))::sx)) (fun w hw=>hw.perm List.perm_middle.symm) ?_;refine XC.loop (ι:=ι×Nat) (fun z=>[(0,.func (.yield y) #[] #[]),(1,pp b 0),(4,pp b4 0),(8,.slice p rs.length c),(9,vi rs.length),(10,vi k),(15,.slice xp x.sides.length xc),(16,vi x.sides.length),(17,vi z.2)]) (fun z=>G z.1) (fun z=>S z.1++(pt b4 (.cells #[vi x.id,vi x.dim,.slice xp x.sides.length xc] 56 (0,0))::sx)) (fun z=>z.2≤x.sides.length∧J (dE (l.take k)++(x.sides.map fun y=>(x.id,y)).take z.2) z.1) (fun z=>x.sides.length - z.2) (i,0)
   sB rfl rfl ⟨zf6 _,by simpa using hJ⟩ ?_
  rintro ⟨i3,j⟩ ⟨hj,hJ3⟩;dsimp only at hj hJ3 ⊢;have hm3:=hmono _ _ hJ3;refine XC.seq ?_;refine XC.region ?_;refine XL.u (lS I I) dC ?_;refine XL.nil ?_;refine XT.thenN ?_;refine XC.seq ?_;refine XC.ifP I (fun hjl=>?_) (fun hjl=>?_)
  ·have hjB:j<x.sides.length:=oM;have hjM:j<(x.sides.map fun y=>(x.id,y)).length:=by rw[ze6]; exact hjB
   have hb2:=za6 hxs oM;have hgj:x.sides[((j:Nat):Int).toNat]?=some x.sides[j]:=gE hjB;have hy:=fun sx'=>hY _ _ _ i3 sx' (hfs j hjM) hJ3;have htj:(x.sides.map fun y=>(x.id,y)).take (j+1)=(x.sides.map fun y=>(x.id,y)).take j++[(x.id,x.sides[j])]:=by rw[tS hjM,List.getElem_map]
   have hxe:(x.sides.map fun y=>(x.id,y))[j]=(x.id,x.sides[j]):=List.getElem_map ..;rw[hxe] at hy;dsimp only at hy;have hxs3:=za5 hxs hm3;generalize x.sides[j]=q at *;refine XC.skip ?_;refine XT.thenN ?_;refine XC.seq ?_;refine XC.block ?_;refine XC.seq ?_;refine XC.region ?_;refine XL.u (iA aY aI I I hb2 oM sL) dC ?_;refine XL.q (eA fh aI I (za7 hxs3) hgj) dC ?_;refine XL.o (aL zl3) dC ?_;rintro _ _ _ ⟨b6,rfl,rfl,rfl⟩;refine XL.on (sK 0 aI I I I I I sB) ?_;rintro _ _ _ ⟨rfl,rfl⟩;refine XL.nil ?_;refine XT.thenN ?_;refine XC.seq ?_;refine XC.to (g':=G i3) (s':=S i3++(pt b6 (.cells #[vi q.cell,vi q.sign] 75 (0,0))::pt b4 (.cells #[vi x.id,vi x.dim,.slice xp x.sides.length xc] 56 (0,0))::sx)) (fun w hw=>hw.perm List.perm_middle.symm) ?_;refine XC.region ?_;refine XL.u (mV I) dC ?_;refine XL.u (fA au I zT3 I) dC ?_;refine XL.q (qL (v:=vi x.id) iT3 I (cO (cs:=#[vi x.id,vi x.dim,.slice xp x.sides.length xc]) (T:=56) (fr:=(0,0)) ((S i3).length+1) (by simp) I)) dC ?_;refine XL.q (qV (cs:=#[vi q.cell,vi q.sign]) (U:=75) (fr:=(0,0)) (S i3).length fh aI I (by simp) I) dC ?_;refine XL.x (XO.yield I I (hy _)) dC ?_;rintro _ _ _ ⟨rfl,j',hJ',rfl,rfl⟩;refine XL.u (SU.not I) dC ?_;refine XL.nil ?_;refine XT.thenN ?_;refine XC.condF I ?_;refine XC.skip ?_;refine XT.blockN ?_;refine XT.thenN ?_;refine XC.region ?_;refine XL.u (aD I I oM) dC ?_;refine XL.u (mV I) dC ?_;refine XL.nil ?_;refine XT.drop ((zc3 _).append (zj1 _ _)) ?_;exact XT.again (j',j+1) sB I I ⟨by dsimp only; omega,by dsimp only; rw[htj,← zg8]; exact hJ'⟩ (by dsimp only; omega)
  ·have hjj:(x.sides.map fun y=>(x.id,y)).take j=x.sides.map fun y=>(x.id,y):=tL (by rw[ze6]; omega);rw[hjj,← htk] at hJ3;refine XC.exit ?_;refine XT.thenX ?_;refine XT.thenX ?_;refine XT.blockX ?_;refine XT.blockN ?_;refine XT.thenN ?_;refine XC.region ?_;refine XL.u (aD I I oM) dC ?_;refine XL.u (mV I) dC ?_;refine XL.nil ?_;refine XT.drop ((zc3 _).append (zj1 _ _)) ?_;exact XT.again (i3,k+1) sB I I ⟨by dsimp only; omega,hJ3⟩ (by dsimp only; omega)
 ·have hkk:l.take k=l:=tL oM;rw[hkk] at hJ;refine XC.exit ?_;refine XT.thenX ?_;refine XT.thenX ?_;refine XT.blockX ?_;exact XT.leave0 (.inr I) (ST.ret0 (.inr I) results183 ⟨i,hJ,I,I⟩)
def dS (ts:List Tm)(zl:List (Int×Int))(p:Int×Side):List (Int×Int):=if cf ts p.1≠0 then em zl p.2.cell (cf ts p.1 * p.2.sign) else zl
def C5 (ts:List Tm)(xs:List (Int×Side)):List (Int×Int):=xs.foldl (dS ts) []
theorem CU (ts:List Tm)(xs:List (Int×Side))(p:Int×Side):C5 ts (xs++[p])=dS ts (C5 ts xs) p:=by
 unfold C5;rw[zi9];rfl
theorem Bv (ts:List Tm)(r:Int):∀ (xs:List (Int×Side)) (zl:List (Int×Int)),c8 (xs.foldl (dS ts) zl) r=c8 zl r+(xs.map fun p=>if p.2.cell=r then cf ts p.1 * p.2.sign else 0).sum
 | [],_=>by simp
 | p::xs,zl=>by
  rw[zi8,Bv ts r xs,zg4,List.sum_cons];unfold dS;by_cases h:cf ts p.1=0
  ·rw[zf9 (by simpa using h),h,Int.zero_mul];split <;> omega
  ·rw[zg1 h,po];by_cases e:r=p.2.cell
   ·rw[zg1 e,zg1 e.symm]; omega
   ·rw[zf9 e,zf9 fun e2=>e e2.symm]; omega
theorem AO {ts:List Tm}(hcf:∀ r,(cf ts r).natAbs≤1):∀ (xs:List (Int×Side)) {B:Nat} {zl:List (Int×Int)},(∀ p∈xs,p.2.sign=1∨p.2.sign = -1)→WBd B zl→WBd (B+xs.length) (xs.foldl (dS ts) zl)
 | [],_,_,_,h=>h
 | p::xs,B,zl,hs,h=>by
  rw[zi8,ze8];have h1:WBd (B+1) (dS ts zl p):=by
   unfold dS;split
   ·refine WBd.add ?_ _ h;have:=hcf p.1;rw[Int.natAbs_mul]
    rcases hs p (by simp) with e | e <;> rw[e] <;> simpa using this
   ·exact h.mono oM
  exact (AO hcf xs (fun q hq=>hs q (List.mem_cons_of_mem _ hq)) h1).mono oM
theorem uV (ts:List Tm):∀ (xs:List (Int×Side)) {zl:List (Int×Int)},(zl.map Prod.fst).Nodup→((xs.foldl (dS ts) zl).map Prod.fst).Nodup
 | [],_,h=>h
 | p::xs,zl,h=>by
  refine uV ts xs (zl:=dS ts zl p) ?_;unfold dS;split
  ·exact nF h _ _
  ·exact h
theorem Bu (ts:List Tm):∀ (xs:List (Int×Side)) (zl:List (Int×Int)),(xs.foldl (dS ts) zl).length≤zl.length+xs.length
 | [],_=>lR _
 | p::xs,zl=>by
  have h1:=Bu ts xs (dS ts zl p);have h2:(dS ts zl p).length≤zl.length+1:=by
   unfold dS;split
   ·exact zk _ _ _
   ·omega
  rw[zi8,ze8];omega
theorem yZ (ts:List Tm):∀ (xs:List (Int×Side)) {zl:List (Int×Int)},(∀ p∈zl,bw p.1)→(∀ p∈xs,bw p.2.cell)→∀ p∈xs.foldl (dS ts) zl,bw p.1
 | [],_,h,_=>h
 | q::xs,zl,h,hx=>by
  refine yZ ts xs (zl:=dS ts zl q) (fun p hp=>?_) fun p hp=>hx p (List.mem_cons_of_mem _ hp);unfold dS at hp;split at hp
  ·have h1:p.1∈(em zl q.2.cell (cf ts q.1 * q.2.sign)).map Prod.fst:=zf2.2 ⟨p,hp,rfl⟩;rw[pL] at h1;split at h1
   ·obtain ⟨r,hr,he⟩:=zf2.1 h1;rw[← he]; exact h r hr
   ·rcases zf3.1 h1 with h1 | h1
    ·obtain ⟨r,hr,he⟩:=zf2.1 h1;rw[← he]; exact h r hr
    ·simp at h1;rw[h1]; exact hx q (by simp)
  ·exact h p hp
theorem uk (G:Int→Int)(r:Int):∀ l:List Cl,((dE l).map fun p=>if p.2.cell=r then G p.1 * p.2.sign else 0).sum=bdF l G r
 | []=>rfl
 | c::l=>by
  have h1:dE (c::l)=(c.sides.map fun y=>(c.id,y))++dE l:=rfl;have h2:bdF (c::l) G r=G c.id * fM c.sides r+bdF l G r:=by unfold bdF; rw[zg4,List.sum_cons]
  rw[h1,zg5,List.sum_append,uk G r l,h2,zi5];refine ze2 (· + _) ?_;unfold fM;rw[← oV];refine ze2 List.sum (zc8 fun y _=>?_);show (if y.cell=r then G c.id * y.sign else 0)=_;by_cases e:y.cell=r
  ·rw[zg1 e,zg1 e]
  ·rw[zf9 e,zf9 e,Int.mul_zero]
def xQ (l:List Cl)(ts:List Tm):List Tm:=gW (C5 ts (dE l))
theorem y5 (l:List Cl)(ts:List Tm):oT (bdF l (cf ts)) (xQ l ts):=by
 have h:=nj (zl:=C5 ts (dE l)) (uV ts _ (by simp));refine⟨h.1,h.2.1,fun r=>(h.2.2 r).trans ?_⟩;unfold C5;rw[Bv,uk];show 0+_=_;omega
theorem Cp {z:Int}(h:z.natAbs<4294967296):decide (eJ z.natAbs≠[])=decide (z≠0):=by
 have h1:beN (eJ z.natAbs)=z.natAbs:=jr oM;rw[decide_eq_decide];constructor
 ·intro h2 h3;subst h3;exact h2 I
 ·intro h2 h3;rw[h3] at h1;have h4:beN []=0:=rfl;omega
theorem mN (E:World)(hE:E.drawn=0)(g:PH)(s:Own)(v u:Value)(l:List Cl)(ts:List Tm)(hv:ar g v l)(hf:ci l)(ht:SlA a6 g u ts)(hT:lf ts)(hcf:∀ r,(cf ts r).natAbs≤1)(hs:∀ p∈dE l,(p.2.sign=1∨p.2.sign = -1)∧bw p.2.cell)(hn:(dE l).length<1000000) :
  Ctr Tryz.prog E 62 #[.agg #[v],u] g s (fun r g' s'=>s=s'∧Le g g'∧SlA a6 g' r (xQ l ts)):=by
 obtain ⟨rs,hrs,hall⟩:=hv;have hlen:=hall.length;obtain ⟨p,c,rfl⟩:=za4 hrs;obtain ⟨q,d,rfl⟩:=za4 ht;have hbl:=Bu ts (dE l) [];have hbd:=AO hcf (dE l) (fun p hp=>(hs p hp).1) WBd.nil;have hbk:=yZ ts (dE l) (zl:=[]) (by simp) fun p hp=>(hs p hp).2;have hgz:=fU ts;refine Ctr.ofX (args:=[.agg #[.slice p rs.length c],.slice q ts.length d]) func62 I ntmps62 (bE I) ?_;refine XC.seq ?_;refine XC.region ?_;refine XL.o (bO I) dC ?_;rintro _ _ _ ⟨b2,rfl,rfl,rfl⟩;refine XL.u (aS I) dC ?_;refine XL.nil ?_;refine XT.thenN ?_;refine XC.seq ?_;refine XC.region ?_;refine XL.u (mV I) dC ?_;refine XL.o (bS sty216 I I I (ae ⟨I,trivial⟩) dC) dC ?_;rintro _ _ _ ⟨b11,rfl,rfl,rfl⟩;refine XL.freeze fun g1 hle1 hb11=>?_;have hs11:SlA dM g1 (.slice (some ⟨b11,0,none⟩) 1 1) [⟨q,ts.length,d⟩]:=SlA.lit hb11 rfl rfl;refine XL.o (cL call122 I (sJ E g1 _ _ q 1 ts.length d ts hs11 (za5 ht hle1) hT)) dC ?_;rintro _ g2 _ ⟨m1,rfl,hle2,rfl⟩;refine XL.freezeMap fun g3 hle3 hm1=>?_;have h13:=hle1.trans (hle2.trans hle3);refine XL.o (SO.mkMap) dC ?_;rintro _ _ _ ⟨m2,rfl,rfl,rfl⟩;refine XL.o (aL zeroValue171) dC ?_;rintro _ _ _ ⟨b5,rfl,rfl,rfl⟩;refine XL.o (aL zeroValue171) dC ?_;rintro _ _ _ ⟨b6,rfl,rfl,rfl⟩;refine XL.on (sK 1 sizeOf171 I I I I I sB) ?_;rintro _ _ _ ⟨rfl,rfl⟩;refine XL.on (sK 0 sizeOf171 I I I I I sB) ?_;rintro _ _ _ ⟨rfl,rfl⟩;refine XL.nil ?_;refine XT.thenN ?_;refine XC.seq ?_;refine XC.seq ?_;refine XC.region ?_;refine XL.q (qV 3 ba aC I I I) dC ?_;refine XL.o (cL call126 I (wK E g3 _ p rs.length c)) dC ?_;rintro _ g4 _ ⟨rfl,hle4,bf,rfl,hbf⟩;refine XL.nil ?_;refine XT.thenN ?_;refine XC.block ?_;have h14:=h13.trans hle4;have hrs4:=za5 hrs h14;have hall4:=hall.mono fun _ _=>aw.mono h14;have hm4:=hm1.mono hle4;refine XC.to (g':=g4) (s':=mp m2 []::pt b6 (.cells #[.map (some m2)] 171 (0,0))::pt b5 (.cells #[.map (some m1)] 171 (0,0))::pt b2 (.cells #[.slice p rs.length c] 29 (0,0))::s) (fun w hw=>hw.perm (by exact (zk2 (l₁:=[pt b6 (.cells #[.map (some m2)] 171 (0,0)),pt b5 (.cells #[.map (some m1)] 171 (0,0))])))) ?_;refine XC.rangeFuncA (α:=Int×Side) (ι:=List (Int×Int)×PH) (κ:=Nat) (encs:=fun p=>[vi p.1,.agg #[vi p.2.cell,vi p.2.sign]]) (xs:=dE l) (g0:=g4) (fun j=>j.2) (fun j=>mp m2 (gx j.1)::pt b6 (.cells #[.map (some m2)] 171 (0,0))::pt b5 (.cells #[.map (some m1)] 171 (0,0))::pt b2 (.cells #[.slice p rs.length c] 29 (0,0))::[]) (fun pre j=>Le g4 j.2∧j.1=C5 ts pre) ([],g4) s
  (fun p=>[(17,.agg #[vi p.2.cell,vi p.2.sign]),(16,vi p.1),(5,pp b5 0),(6,pp b6 0)]) (fun _ p _ b8=>[(7,vi p.1),(8,pp b8 0),(5,pp b5 0),(6,pp b6 0)]) (fun p b8=>[pt b8 (.cells #[vi p.2.cell,vi p.2.sign] 75 (0,0))])
  rfl rfl call183 (fun _=>rfl) rfl rfl (wJ E g4 bf l rs p c hbf hrs4 hall4 hf) (fun _ _ h=>h.1) ⟨zb9 _,rfl⟩
  (fun x a h=>A6 (h.sub (g:=[(5,pp b5 0),(6,pp b6 0)]) sB) dC dC) ?_ ?_ ?_
 ·intro l0 pre i j sx hJ;refine XC.seq ?_;refine XC.region ?_;refine XL.u (aS I) dC ?_;refine XL.nil ?_;refine XT.thenN ?_;refine XC.region ?_;refine XL.o (aL zl3) dC ?_;rintro _ _ _ ⟨b8,rfl,rfl,rfl⟩;refine XL.on (sK 0 aI I I I I I sB) ?_;rintro _ _ _ ⟨rfl,rfl⟩;refine XL.nil ?_;exact XT.assignEndA b8 sB I
 ·rintro l0 pre ⟨id0,y⟩ suf ⟨zl,gk⟩ sx b8 hk hxs ⟨hlek,hzl⟩;dsimp only at hlek hzl ⊢;have hmem:(id0,y)∈dE l:=by rw[hxs]; simp
  obtain ⟨hsg,-⟩:=hs _ hmem;have hz1:=hcf id0;have hbp:=AO hcf pre (fun p hp=>(hs p (by rw[hxs]; simp[hp])).1) WBd.nil;have hpl:pre.length≤(dE l).length:=by rw[hxs]; simp
  have hzb:(c8 zl y.cell).natAbs≤pre.length:=by
   have h1:WBd (0+pre.length) zl:=by rw[hzl]; exact hbp
   have h2:=WBd.get h1 y.cell;omega
  have hsn:=CU ts pre (id0,y);have hlk:(df (gx (ku [] ts)) id0).getD (dK 0)=dK (cf ts id0):=by rw[wn,hgz]
  unfold dS at hsn;dsimp only at hsg hsn;rw[← hzl] at hsn;have hmk:=hm4.mono hlek;generalize cf ts id0=z at *;have hmg:=Cp (z:=z) oM;have hzs:(z * y.sign).natAbs≤1:=by
   rw[Int.natAbs_mul]
   rcases hsg with e | e <;> rw[e] <;> simpa using hz1
  refine XC.block ?_;refine XC.seq ?_;refine XC.region ?_;refine XL.q (qL (v:=.map (some m1)) isAgg171 I (cO 3 I I)) dC ?_;refine XL.u (mV I) dC ?_;refine XL.q (SQ.eq (v':=.agg #[vb (mc z),txt (eJ z.natAbs)]) (SQ.lookup mty171 I I (bJ.known hmk)) hlk) dC ?_;refine XL.o (aL zl8) dC ?_;rintro _ _ _ ⟨b9,rfl,rfl,rfl⟩;refine XL.on (sK 0 gP I I I I I sB) ?_;rintro _ _ _ ⟨rfl,rfl⟩;refine XL.nil ?_;refine XT.thenN ?_;refine XC.seq ?_;refine XC.region ?_;refine XL.u (fA tP I sizeOf9 I) dC ?_;refine XL.q (qL (v:=txt (eJ z.natAbs)) isAgg9 I (cO 0 I I)) dC ?_;refine XL.u (SU.eq (v':=vb (decide (z≠0))) (SU.neqT I I) (ze2 vb hmg)) dC ?_;refine XL.nil ?_;refine XT.thenN ?_;refine XC.ifP I (fun hz=>?_) (fun hz=>?_)
  ·rw[zg1 hz] at hsn;refine XC.draw [8] [(0,1),(1,2),(2,1),(3,1),(4,2),(5,1),(6,0),(7,0),(8,0)] ze3 kR kR ?_;refine pK I (qL (v:=.map (some m2)) isAgg171 I (cO 3 I I)) (pU I (fA dw I zT3 I) (pK I (qL (v:=vi y.cell) iT3 I (cO 1 I I)) (pK I (qV 0 mi gP I I I) (pU I (fA dw I zT3 I) (pK I (qL (v:=vi y.sign) iT3 I (cO 1 I I)) (SP.o I (cL call129 I (px E _ _ y.sign oM oM)) dC (.inr iR) ?_))))));rintro _ g5 _ ⟨rfl,rfl,hle5⟩;refine SP.o rfl (cL call128 rfl (nP E _ _ z y.sign oM oM oM)) dC (.inr (by rintro _ g6 _ ⟨rfl,rfl,hle6⟩; exact⟨by exact Le.trans (by assumption) (by assumption),(by exact .refl _)⟩)) ?_;rintro _ g6 _ ⟨rfl,rfl,hle6⟩;refine SP.o I (cL call127 I (pZ E _ _ m2 2 zl y.cell (z * y.sign) I oM)) dC (.inl dC) ?_;rintro _ g7 _ ⟨hle7,rfl⟩;have h57:=hle5.trans (hle6.trans hle7);refine pN (ST.ofXT ?_);refine XT.blockN ?_;refine XT.drop (.cons _ (.cons _ (.refl _))) ?_;exact XT.roundEnd (em zl y.cell (z * y.sign),g7) I I ⟨hlek.trans h57,hsn.symm⟩
  ·rw[zf9 hz] at hsn;refine XC.skip ?_;refine XT.blockN ?_;refine XT.drop (.cons _ (.cons _ (.refl _))) ?_;exact XT.roundEnd (zl,gk) I I ⟨hlek,hsn.symm⟩
 ·rintro D ⟨zl,gk⟩ ⟨hlek,hzl⟩;dsimp only at hlek hzl ⊢;refine XT.to (g':=gk) (s':=mp m2 (gx zl)::pt D (.deferred (some []))::pt b6 (.cells #[.map (some m2)] 171 (0,0))::pt b5 (.cells #[.map (some m1)] 171 (0,0))::pt b2 (.cells #[.slice p rs.length c] 29 (0,0))::s) (fun w hw=>hw.perm (zk1 _ _ _)) ?_;refine XT.freezeMap fun g9 hle9 hm9=>?_;refine XT.blockN ?_;refine XT.thenN ?_;refine XC.seq ?_;refine XC.region ?_;refine XL.q (qL (v:=.map (some m2)) isAgg171 I (cO 1 I I)) dC ?_;refine XL.o (cL call123 I (ni E hE g9 _ m2 zl hm9 (by rw[hzl]; unfold C5; rw[zc4] at hbl; omega) (by rw[hzl]; exact hbk) (by rw[hzl]; exact WBd.mono hbd oM))) dC ?_;rintro v34 gA _ ⟨rfl,hleA,hsA⟩;refine XL.u (aS I) dC ?_;refine XL.nil ?_;refine XT.thenN ?_;refine XC.ret ?_;refine XT.leave1 (.inl I) ?_;refine dR (s':=s) uR ?_;exact za8 (.inl I) results62 I ⟨I,h14.trans (hlek.trans (hle9.trans hleA)),by rw[hzl] at hsA; exact hsA⟩
theorem xq (E:World)(g:PH)(s:Own)(v:Value)(l:List Cl)(hv:ar g v l)(hf:ci l)(hasc:(aa l).Pairwise fun a b=>a.id<b.id) :
  Ctr Tryz.prog E 56 #[.agg #[v]] g s (fun r g' s'=>s=s'∧Le g g'∧eG g' r ((aa l).map Cl.id)):=by
 have hfc:=ct hf;obtain ⟨pv,cv,rfl⟩:=hv.form;refine zb2 (args:=[.agg #[.slice pv l.length cv]]) func56 I ntmps56 (bE I) ?_;refine rZ (bW (bO I) fun b1=>?_);refine aT I (rZ (aT I (sQ (rZ (lK (qV 0 ba aC I I I) (lW (cL call53 I (kT E g _ _ l hv hf)) ?_))))));rintro _ g1 _ ⟨rfl,hle1,u,rfl,hc⟩;obtain ⟨rs,hrs,hall⟩:=hc;obtain ⟨q,d,rfl⟩:=za4 hrs;refine lU (SU.field eH I fX I I) (lU (eN aJ I) (lM I (tZ (bK ?_))));generalize aa l=A at *;have hrl:=hall.length;have hAl:=hfc.1;refine zb6 3 1 ?_;refine oP (ι:=Nat×Value) (fun i=>[(3,i.2),(8,.slice q rs.length d),(9,vi rs.length),(10,vi i.1)]) (fun _=>g1)
  (fun i=>rowA encInt 3 i.2 ((A.map Cl.id).take i.1)::pt b1 (.cells #[.slice pv l.length cv] 29 (0,0))::s)
  (fun i=>i.1≤rs.length) (fun i=>rs.length - i.1) (0,.slice none 0 0) sB rfl rfl (zf6 _) ?_
 rintro ⟨k,ov⟩ hk;dsimp only at hk ⊢;refine SC.facts fun ⟨w0,hw0⟩=>?_;obtain ⟨p0,c0,rfl⟩:=ag (e:=encInt) (l:=(A.map Cl.id).take k) (i:=0) hw0 rfl;have hbs:=aW (e:=encInt) (l:=(A.map Cl.id).take k) (i:=0) hw0 rfl;clear hw0 w0;have hlk:((A.map Cl.id).take k).length=k:=by rw[ze4,ze6]; omega
 refine rZ (yL I (tZ (sQ ?_)));refine iP I (fun hlt=>?_) (fun hlt=>?_)
 ·have hkr:k<rs.length:=oM;have hkl:k<A.length:=oM;have hb1:=za6 hrs oM;have hgx:rs[((k:Nat):Int).toNat]?=some rs[k]:=gE hkr;have hcr:=hall.get (gE hkl) (gE hkr);have htk:(A.map Cl.id).take (k+1)=(A.map Cl.id).take k++[A[k].id]:=by rw[tS (by rw[ze6]; exact hkl),List.getElem_map]
  have hprev:∀ (h:0<k),((A.map Cl.id).take k)[((k:Int) - 1).toNat]?=some (A[k - 1]'oM).id∧(A[k - 1]'oM).id≠A[k].id:=fun h=>by
   have h1:=zc9.1 hasc (k - 1) k oM hkl oM;refine⟨?_,oM⟩;rw[show ((k:Int) - 1).toNat=k - 1 by omega,zi1,zg1 oM,zh9,gE oM];rfl
  generalize hxk:A[k]=x at *;generalize rs[k]=r at *;obtain ⟨xi,xd,xp,xn,xc⟩:=r;have hxi:xi=x.id:=hcr.1;subst hxi;refine kP (tN (sQ (bK (rZ (lU (iA aJ aq I I hb1 oM (show (k:Int)<((rs.length:Nat):Int) by omega)) ?_)))));refine lK (eA dL aq I (za7 hrs) hgx) (bW (aL zl4) fun b5=>?_);refine oZ (sK 0 aq I I I I I sB) ?_;refine tZ ?_;by_cases hk0:k=0
  ·refine sQ ?_;refine dW [] [(0,2),(1,2),(2,2),(3,2),(4,2),(5,2),(6,2),(7,2),(8,2),(9,1),(10,2),(11,1),(12,2),(13,2)] ze3 kR ?_;refine yM I (pU I (eN aH I) (pU I (SU.eq (v':=vb true) (eQ I I) (ze2 vb (zf8 oM))) (yM I (yG I (yG I (yG I (yG I (yG I (yI I (yG I (yI I (yG I (pU I (wT I I) (pN (tN (za2 I (rG (lM I (lU (fA au I zT3 I) (lK (qL (v:=vi x.id) iT3 I (cO 0 I I)) (lW (bS sty52 I I I (ae ⟨I,trivial⟩) dC) ?_)))))))))))))))))))));rintro _ _ _ ⟨b31,rfl,rfl,rfl⟩;refine lW (aP (e:=encInt) (l:=(A.map Cl.id).take k) 1 x.id sty52 I I I I I oM oM) ?_;rintro ov' _ _ ⟨rfl,rfl⟩;refine lA I (nL (bN (tN (rG (yD I (lM I (nL (dR (s':=rowA encInt 3 ov' ((A.map Cl.id).take k++[x.id])::pt b1 (.cells #[.slice pv l.length cv] 29 (0,0))::s) (.cons _ (.refl _)) ?_))))))));rw[← htk];exact ST.again (k+1,ov') sB I I (by dsimp only; omega) (by dsimp only; omega)
  ·obtain ⟨b0,cap0,hb0⟩:=hbs oM;obtain ⟨rfl,rfl⟩:p0=some ⟨b0,0,none⟩∧c0=cap0:=by injection hb0 with h1 _ h2; exact⟨h1,h2⟩
   obtain ⟨hp1,hp2⟩:=hprev oM;refine sQ ?_;refine dW [] [(0,2),(1,2),(2,2),(3,2),(4,2),(5,2),(6,2),(7,2),(8,2),(9,1),(10,2),(11,1),(12,2),(13,2)] ze3 kR ?_;refine yM I (pU I (eN aH I) (pU I (SU.eq (v':=vb false) (eQ I I) (ze2 vb (zf7 oM))) (yM I (yJ I (yJ I (zb3 I (gT I I I dC) (eN aH I) dC (zb3 I (gT I I I dC) (SU.eq (v':=vi ((k:Int) - 1)) (sU (m:=((((A.map Cl.id).take k).length:Nat):Int)) (n:=1) I I ⟨oM,oM⟩) (ze2 vi (by rw[hlk]))) dC ?_)))))));refine zb3 I (gT I I I dC) (iA (i:=(k:Int) - 1) aH zT3 I I I oM (show (k:Int) - 1<((((A.map Cl.id).take k).length:Nat):Int) by omega)) dC ?_;refine SP.gq I (gT I I I dC) (eB iT3 I (zb7 (l:=(A.map Cl.id).take k) 1 I) hp1 I) dC (zb3 I (gT I I I dC) (fA au I zT3 I) dC (SP.gq I (gT I I I dC) (qL (v:=vi x.id) iT3 I (cO 0 I I)) dC (zb3 I (gT I I I dC) (SU.eq (v':=vb true) (nQ I I) (ze2 vb (zf8 hp2))) dC (pU I (wF I I) (pN (tN (za2 I (rG (lM I (lU (fA au I zT3 I) (lK (qL (v:=vi x.id) iT3 I (cO 0 I I)) (lW (bS sty52 I I I (ae ⟨I,trivial⟩) dC) ?_))))))))))));rintro _ _ _ ⟨b31,rfl,rfl,rfl⟩;refine lW (aP (e:=encInt) (l:=(A.map Cl.id).take k) 1 x.id sty52 I I I I I oM oM) ?_;rintro ov' _ _ ⟨rfl,rfl⟩;refine lA I (nL (bN (tN (rG (yD I (lM I (nL (dR (s':=rowA encInt 3 ov' ((A.map Cl.id).take k++[x.id])::pt b1 (.cells #[.slice pv l.length cv] 29 (0,0))::s) (.cons _ (.refl _)) ?_))))))));rw[← htk];exact ST.again (k+1,ov') sB I I (by dsimp only; omega) (by dsimp only; omega)
 ·have hkk:(A.map Cl.id).take k=A.map Cl.id:=tL (by rw[ze6]; omega);rw[hkk];refine xI (tX (tX (bX (tN (sW I (aT I (rE (fT fun g2 hle2 hs2=>?_))))))));refine dR (s':=s) uR ?_;exact za8 (.inl I) results56 I ⟨I,hle1.trans hle2,hs2⟩
theorem vC (E:World)(g:PH)(s:Own)(k:Int) :
  Ctr Tryz.prog E 64 #[vi k] g s (fun r g' s'=>s=s'∧Le g g'∧SlA a6 g' r [(k,1)]):=by
 refine zb2 (args:=[vi k]) func64 I ntmps64 (bE I) ?_;refine rZ (aT I (sW I (lW (cL call129 I (px E g _ 1 dC dC)) ?_)));rintro _ g1 _ ⟨rfl,rfl,hle1⟩;refine lU (za3 I (build82 _ _ _)) (lW (bS sty77 I I I (ae ⟨I,trivial⟩) dC) ?_);rintro _ _ _ ⟨b6,rfl,rfl,rfl⟩;refine zb5 fun g2 hle2 hb6=>?_;have hs6:SlA a6 g2 (.slice (some ⟨b6,0,none⟩) 1 1) [(k,1)]:=SlA.lit hb6 rfl rfl;refine aT I (rE ?_);exact za8 (.inl I) results64 I ⟨I,hle1.trans hle2,hs6⟩
def gY (r:Im):Int×Value:=(r.cell,.slice r.sv.p r.sv.n r.sv.c)
theorem Bh {g:PH}:∀ {L:List (Int×List Tm)} {rs:List Im},aF (ImR g) L rs→(L.map Prod.fst).Nodup→∀ p∈L,∃ q c,df (rs.map gY) p.1=some (.slice q p.2.length c)∧SlA a6 g (.slice q p.2.length c) p.2
 | [],[],_,_,p,hp=>by cases hp
 | a::L,r::rs,h,hn,p,hp=>by
  obtain ⟨h1,h2⟩:=h;rw[zg4,zk3] at hn;have hc:(r::rs).map gY=(r.cell,.slice r.sv.p r.sv.n r.sv.c)::rs.map gY:=rfl;rw[hc,bD]
  rcases zf1.1 hp with rfl | hp
  ·have hl:r.sv.n=p.2.length:=(SlA.cap h1.2).1;rw[zg1 h1.1.symm,← hl];exact⟨_,_,I,h1.2⟩
  ·rw[zf9 (fun e=>hn.1 (zf2.2 ⟨p,hp,by rw[e,h1.1]⟩))];exact Bh h2 hn.2 p hp
 | [],_::_,h,_,_,_=>h.elim
 | _::_,[],h,_,_,_=>h.elim
theorem Bg:∀ {rs:List Im} {k:Int},(∀ r∈rs,r.cell≠k)→df (rs.map gY) k=none∧∀ u,dG (rs.map gY) k u=rs.map gY++[(k,u)]
 | [],_,_=>⟨rfl,fun _=>rfl⟩
 | r::rs,k,h=>by
  have h1:¬ k=r.cell:=fun e=>h r (by simp) e.symm;obtain ⟨h2,h3⟩:=Bg (rs:=rs) (k:=k) fun x hx=>h x (by simp[hx]);have hc:(r::rs).map gY=(r.cell,.slice r.sv.p r.sv.n r.sv.c)::rs.map gY:=rfl;refine⟨by rw[hc,bD,zf9 h1,h2],fun u=>?_⟩;rw[hc,dG,zf9 h1,h3];rfl
theorem yv {g:PH}:∀ {L:List (Int×List Tm)} {rs:List Im},aF (ImR g) L rs→rs.map Im.cell=L.map Prod.fst
 | [],[],_=>rfl
 | a::L,r::rs,h=>by rw[zg4,zg4,h.1.1,yv h.2]
 | [],_::_,h=>h.elim
 | _::_,[],h=>h.elim
theorem ww (E:World)(g:PH)(s:Own)(p:Option Addr)(n c:Nat)(rs:List Im)(L:List (Int×List Tm))(hrs:SlA s8 g (.slice p n c) rs)(hall:aF (ImR g) L rs)(hn:(L.map Prod.fst).Nodup)(hl:L.length<1000000) :
  Ctr Tryz.prog E 57 #[.agg #[.slice p n c]] g s (fun r g' s'=>s=s'∧Le g g'∧∃ m,r = .map (some m)∧Mp g' m (rs.map gY)):=by
 obtain rfl:n=rs.length:=(SlA.cap hrs).1;have hlen:=hall.length;have hcl:=yv hall;refine zb2 (args:=[.agg #[.slice p rs.length c]]) func57 I ntmps57 (bE I) ?_;refine rZ (bW (bO I) fun b1=>?_);refine aT I (rZ (lW (SO.mkMap) ?_));rintro _ _ _ ⟨m,rfl,rfl,rfl⟩;refine aT I (sQ (rZ (lU (fA AF I sizeOf31 I) (lK (qL (v:=.slice p rs.length c) isAgg31 I (cO 1 I I)) (lU (eN AG I) (lM I (tZ (bK ?_))))))));refine oP (ι:=Nat) (fun i=>[(3,.map (some m)),(10,.slice p rs.length c),(11,vi rs.length),(12,vi i)]) (fun _=>g)
  (fun i=>mp m ((rs.take i).map gY)::pt b1 (.cells #[.slice p rs.length c] 33 (0,0))::s)
  (fun i=>i≤rs.length) (fun i=>rs.length - i) 0 sB rfl rfl (zf6 _) ?_
 rintro k hk;refine rZ (yL I (tZ (sQ ?_)));refine iP I (fun hlt=>?_) (fun hlt=>?_)
 ·have hkr:k<rs.length:=oM;have hb1:=za6 hrs oM;have hgx:rs[((k:Nat):Int).toNat]?=some rs[k]:=gE hkr;have htk:rs.take (k+1)=rs.take k++[rs[k]]:=tS hkr;have hnew:∀ x∈rs.take k,x.cell≠rs[k].cell:=fun x hx=>by
   obtain ⟨i,hi,rfl⟩:=zc7 hx;have hi3:i<k:=by rw[ze4] at hi; omega
   rw[List.getElem_take];rw[← hcl] at hn;have h2:=zc9.1 (List.nodup_iff_pairwise_ne.1 hn) i k (by rw[ze6]; omega) (by rw[ze6]; omega) hi3;simpa only[List.getElem_map] using h2
  obtain ⟨hno,hput⟩:=Bg hnew;generalize rs[k]=x at *;obtain ⟨xi,xp,xn,xc⟩:=x;have hput:=hput (.slice xp xn xc);have hput:dG ((rs.take k).map gY) xi (.slice xp xn xc)=(rs.take (k+1)).map gY:=by rw[htk,zg5]; exact hput
  refine kP (tN (sQ (bK (rZ (lU (iA AG sizeOf113 I I hb1 oM (show (k:Int)<((rs.length:Nat):Int) by omega)) ?_)))));refine lK (eA isAgg113 sizeOf113 I (za7 hrs) hgx) (bW (aL zeroValue113) fun b5=>?_);refine oZ (sK 0 sizeOf113 I I I I I sB) ?_;refine tZ (sW I (lU (fA mP I zT3 I) (lK (qL (v:=vi xi) iT3 I (cO 0 I I)) (lK (SQ.eq (v':=.tuple #[.slice none 0 0,vb false]) (SQ.lookupOk mty110 I I (bJ.own 1 I)) (by rw[hno]; rfl)) ?_))));refine lM I (yX I (yX I (lA I (aT I (sW I (lU (SU.not I) (tZ (za2 I (rG (lM I (lU (fA mP I zT3 I) (lK (qL (v:=vi xi) iT3 I (cO 0 I I)) (lU (fA mP I sizeOf77 I) (lK (qL (v:=.slice xp xn xc) isAgg77 I (cO 0 I I)) (lO (SO.mapUpdate 1 mty110 I I I I) ?_)))))))))))))));rintro _ _ _ ⟨rfl,rfl⟩;rw[hput];refine nL (bN (tN (rG (yD I (lM I (nL (dR (s':=mp m ((rs.take (k+1)).map gY)::pt b1 (.cells #[.slice p rs.length c] 33 (0,0))::s) (.cons _ (.refl _)) ?_)))))));exact ST.again (k+1) sB I I oM oM
 ·have hkk:rs.take k=rs:=tL oM;rw[hkk];refine xI (tX (tX (bX (tN (sW I (aT I (rE (ST.freezeMap fun g2 hle2 hm2=>?_))))))));refine dR (s':=s) uR ?_;exact za8 (.inl I) results57 I ⟨I,hle2,m,I,hm2⟩
def onT (img:Int→List Tm)(us:List Tm):List Tm:=us.flatMap fun t=>xM t.2 (img t.1)
theorem GE (ts us:List Tm)(r:Int):cf (ts++us) r=cf ts r+cf us r:=by simp[cf]
theorem ED (img:Int→List Tm)(r:Int):∀ us:List Tm,cf (onT img us) r=onF img us r
 | []=>rfl
 | t::us=>by
  have h1:onT img (t::us)=xM t.2 (img t.1)++onT img us:=rfl;have h2:onF img (t::us) r=t.2 * cf (img t.1) r+onF img us r:=by unfold onF; rw[zg4,List.sum_cons]
  rw[h1,h2,GE,ED img r us,(DC _ _).2.2]
theorem sk {img:Int→List Tm}:∀ {us:List Tm},(∀ t∈us,(img t.1).length≤64)→(onT img us).length≤64 * us.length
 | [],_=>by simp[onT]
 | t::us,h=>by
  have h1:onT img (t::us)=xM t.2 (img t.1)++onT img us:=rfl;have h2:=sk (img:=img) (us:=us) fun u hu=>h u (List.mem_cons_of_mem _ hu);have h3:=x9 t.2 (img t.1);have h4:=h t (by simp);rw[h1,ze5,ze8];omega
theorem DJ (E:World)(hE:E.drawn=0)(g:PH)(s:Own)(m:Nat)(v:Value)(rs:List Im)(L:List (Int×List Tm))(img:Int→List Tm)(us:List Tm)(hm:Mp g m (rs.map gY))(hall:aF (ImR g) L rs)(hn:(L.map Prod.fst).Nodup)(hv:SlA a6 g v us)
  (hu:∀ t∈us,(t.2=1∨t.2 = -1)∧(t.1,img t.1)∈L) (hul:us.length≤64) (hi:∀ t∈us,(img t.1).length≤64∧(∀ q∈img t.1,q.2.natAbs≤1)∧(∀ r,(cf (img t.1) r).natAbs≤1)∧te (img t.1)) :
  Ctr Tryz.prog E 63 #[.map (some m),v] g s (fun r g' s'=>s=s'∧Le g g'∧SlA a6 g' r (tW (onT img us))∧(∀ t∈onT img us,t.2.natAbs≤1)∧te (onT img us)):=by
 obtain ⟨p,c,rfl⟩:=za4 hv;have hsm:∀ t∈onT img us,t.2.natAbs≤1∧bw t.1:=fun t ht=>by
  obtain ⟨u,hu1,ht2⟩:=List.mem_flatMap.1 ht;obtain ⟨⟨q,hq,he⟩,h2⟩:=DB ht2;obtain ⟨-,-,h3,h4⟩:=hi u hu1;refine⟨?_,by rw[← he]; exact h4 q hq⟩;rw[h2,Int.natAbs_mul];have:=h3 t.1
  rcases (hu u hu1).1 with e | e <;> rw[e] <;> simpa using this
 have hol:=sk (img:=img) (us:=us) fun t ht=>(hi t ht).1;have htame:lf (onT img us):=lf.ones (fun t ht=>(hsm t ht).1) oM fun t ht=>(hsm t ht).2;refine zb2 (args:=[.map (some m),.slice p us.length c]) func63 I ntmps63 (bE I) ?_;refine rZ (aT I (rZ (aT I (sQ (sW I (lU (eN tf I) (lM I (tZ (bK (zb6 82 3 ?_))))))))));refine oP (ι:=Nat×PH×Value) (fun i=>[(0,.map (some m)),(5,i.2.2),(8,.slice p us.length c),(9,vi us.length),(10,vi i.1)]) (fun i=>i.2.1) (fun i=>rowA a6 82 i.2.2 (onT img (us.take i.1))::s)
  (fun i=>i.1≤us.length∧Le g i.2.1) (fun i=>us.length - i.1) (0,g,.slice none 0 0) sB rfl rfl ⟨zf6 _,zb9 _⟩ ?_
 rintro ⟨k,gk,ov⟩ ⟨hk,hlek⟩;dsimp only at hk hlek ⊢;refine rZ (yL I (tZ (sQ ?_)));refine iP I (fun hlt=>?_) (fun hlt=>?_)
 ·have hkl:k<us.length:=oM;have hvk:=za5 hv hlek;have hb1:=za6 hvk oM;have hgx:us[((k:Nat):Int).toNat]?=some us[k]:=gE hkl;have hmk:us[k]∈us:=gM hkl;have htk:onT img (us.take (k+1))=onT img (us.take k)++xM us[k].2 (img us[k].1):=by unfold onT; rw[tS hkl,List.flatMap_append]; simp
  have hkl2:=sk (img:=img) (us:=us.take k) fun t ht=>(hi t (List.mem_of_mem_take ht)).1;rw[ze4] at hkl2;obtain ⟨hs1,hL1⟩:=hu _ hmk;obtain ⟨i1,i2,i3,i4⟩:=hi _ hmk;generalize us[k]=x at *;obtain ⟨x1,x2⟩:=x;dsimp only at htk hs1 hL1 i1 i2 i3 i4;obtain ⟨q1,d1,hg1,hS1⟩:=Bh (hall.mono fun _ _ h=>ImR.mono hlek h) hn _ hL1;dsimp only at hg1 hS1;have hsl:=x9 x2 (img x1);refine SC.facts fun ⟨w0,hw0⟩=>?_;obtain ⟨p0,c0,rfl⟩:=ag (e:=a6) (l:=onT img (us.take k)) (i:=0) hw0 rfl;clear hw0 w0;refine kP (tN (sQ (bK (rZ (lU (iA tf qD I I hb1 oM sL) (lK (eA isAgg82 qD I (za7 hvk) hgx) (bW (aL zeroValue82) fun b7=>?_)))))));refine oZ (sK 0 qD I I I I I sB) ?_;refine tZ (rG (lM I (lU (fA C8 I gP I) (lK (SQ.loadAggAt (vs:=[vb (mc x2),txt (eJ x2.natAbs)]) mi gP I I (EA 0 I)) (lM I (lU (fA C8 I zT3 I) (lK (qL (v:=vi x1) iT3 I (cO 0 I I)) (lK (SQ.eq (v':=.slice q1 (img x1).length d1) (SQ.lookup mty110 I I (bJ.known (hm.mono hlek))) (by rw[hg1]; rfl)) ?_))))))));refine lW (cL call130 rfl (zH E hE gk _ x2 _ (img x1) hS1 (by rcases hs1 with e | e <;> rw[e] <;> decide) (lf.ones i2 oM i4) i3)) ?_;rintro _ g2 _ ⟨rfl,hle2,hs2⟩;obtain ⟨q2,d2,rfl⟩:=za4 hs2;refine lW (aQ (e:=a6) (l:=onT img (us.take k)) (m:=xM x2 (img x1)) 1 sty77 I I I hs2 oM oM) ?_;rintro ov' _ _ ⟨rfl,rfl⟩;refine lA I (nL (bN (tN (rG (yD I (lM I (nL (dR (s':=rowA a6 82 ov' (onT img (us.take k)++xM x2 (img x1))::s) (.cons _ (.refl _)) ?_))))))));rw[← htk];exact ST.again (k+1,g2,ov') sB I I ⟨by dsimp only; omega,hlek.trans hle2⟩ (by dsimp only; omega)
 ·have hkk:us.take k=us:=tL oM;rw[hkk];refine xI (tX (tX (bX (tN (sQ (fS fun g2 hle2 hs2=>?_))))));obtain ⟨q2,d2,rfl⟩:=Sl.form hs2;have hs2:SlA a6 g2 _ (onT img us):=hs2;refine rG (lM I (lW (cL call59 I (ie E hE g2 _ _ (onT img us) hs2 htame)) ?_));rintro _ g3 _ ⟨rfl,hle3,hs3⟩;obtain ⟨q3,d3,rfl⟩:=za4 hs3;refine aT I (rE ?_);exact za8 (.inl I) results63 I ⟨I,hlek.trans (hle2.trans hle3),hs3,fun t ht=>(hsm t ht).1,fun t ht=>(hsm t ht).2⟩
set_option maxHeartbeats 8000000
theorem Br {r:Int}:∀ {ts:List Tm},(ts.Pairwise fun a b=>a.1<b.1)→(∀ t∈ts,t.2.natAbs≤1)→(cf ts r).natAbs≤1
 | [],_,_=>zf6 _
 | t::ts,h,h2=>by
  rw[zk4] at h;rw[dQ];by_cases e:t.1=r
  ·have h1:cf ts r=0:=mT fun u hu=>by have:=h.1 u hu; omega
   rw[zg1 e,h1,Int.add_zero];exact h2 t (by simp)
  ·rw[zf9 e,Int.zero_add];exact Br h.2 fun u hu=>h2 u (List.mem_cons_of_mem _ hu)
theorem oG {l:List Cl}{x:Cl}(hx:x∈aa l):∃ y∈l,bP y=x:=by
 unfold aa at hx;obtain ⟨y,hy,rfl⟩:=zf2.1 hx;exact⟨y,(dj (key:=Cl.id) l).mem_iff.1 hy,I⟩
theorem rI {l:List Cl}(h:(aG l).2=0)(hi:∀ x∈l,bw x.id):(∀ p∈dE l,(p.2.sign=1∨p.2.sign = -1)∧bw p.2.cell)∧(dE l).length≤64 * l.length:=by
 have hR:=iL h;have key:∀ c∈l,bP c∈aa l:=fun c hc=>pC hc;have hp:∀ c:Cl,(bP c).sides.Perm c.sides:=fun c=>dj (key:=Side.cell) c.sides;constructor
 ·rintro ⟨k,y⟩ hk;obtain ⟨c,hc,he⟩:=List.mem_flatMap.1 hk;obtain ⟨z,hz,e⟩:=zf2.1 he;injection e with _ e
  subst e;have hz2:z∈(bP c).sides:=(hp c).mem_iff.2 hz;refine⟨hR.signs (key c hc) z hz2,?_⟩;obtain ⟨d,h1,_⟩:=(hR.form _ (key c hc)).found z hz2;obtain ⟨h2,h3⟩:=cw h1;obtain ⟨w,h4,h5⟩:=oG h2;dsimp only;rw[← h3,← h5];exact hi w h4
 ·have hlen:∀ A:List Cl,(∀ c∈A,c.sides.length≤64)→(dE A).length≤64 * A.length:=by
   intro A;induction A with
   | nil=>intro _; simp[dE]
   | cons c A ih =>
    intro h;have h1:dE (c::A)=(c.sides.map fun y=>(c.id,y))++dE A:=rfl;have h2:=ih fun d hd=>h d (List.mem_cons_of_mem _ hd);have h3:=h c (by simp);rw[h1,ze5,ze6,ze8];omega
  exact hlen l fun c hc=>by rw[← (hp c).length_eq]; exact hR.few64 (key c hc)
theorem jP.asc1 {l m:List Cl}{img:Int→List Tm}(h:jP l m img){x:Cl}(hx:x∈aa l)(r:Int):(cf (img x.id) r).natAbs≤1:=Br (h.fit x hx).1 (h.small hx)
theorem jP.fit64 {l m:List Cl}{img:Int→List Tm}(h:jP l m img)(hi:∀ x∈m,bw x.id){x:Cl}(hx:x∈aa l):te (img x.id):=fun t ht=>by
 obtain ⟨c,h1,h2,_⟩:=h.there hx t ht;rw[← h2];exact hi c h1
theorem jP.tame {l m:List Cl}{img:Int→List Tm}(h:jP l m img)(hi:∀ x∈m,bw x.id){x:Cl}(hx:x∈aa l):lf (img x.id) :=
 lf.ones (h.small hx) (by have:=(h.fit x hx).2.2.2; omega) (h.fit64 hi hx)
theorem rh (E:World)(hE:E.drawn=0)(g:PH)(s:Own)(v u mv:Value)(l m:List Cl)(img:Int→List Tm)(h:jP l m img)(hv:ar g v l)(hu:ar g u m)(fl:ci l)(fm:ci m)(hI:Ims g mv ((aa l).map fun c=>(c.id,img c.id)))(hil:∀ x∈l,bw x.id)(him:∀ x∈m,bw x.id) :
  Ctr Tryz.prog E 15 #[.agg #[v],.agg #[u],.agg #[mv]] g s (fun r g' s'=>r=vi 0∧s=s'∧Le g g'):=by
 obtain ⟨pl,cl,rfl⟩:=hv.form;obtain ⟨pm,cm,rfl⟩:=hu.form;obtain ⟨rs,hrs,hall⟩:=hI;obtain ⟨pI,cI,rfl⟩:=za4 hrs;have hlen:=hall.length;rw[ze6] at hlen;have hR:=iL h.cl;have hM:=iL h.cm;have hAl:=hR.few;have hnd:(((aa l).map fun c=>(c.id,img c.id)).map Prod.fst).Nodup:=by
  rw[zi5];exact hR.ids
 obtain ⟨hsl,hsn⟩:=rI h.cl hil;obtain ⟨hsm,hsmn⟩:=rI h.cm him;have hll:l.length≤4000:=by rw[← aB]; exact hR.few
 have hml:m.length≤4000:=by rw[← aB]; exact hM.few
 refine zb2 (args:=[.agg #[.slice pl l.length cl],.agg #[.slice pm m.length cm],.agg #[.slice pI rs.length cI]]) func15 I ntmps15 (bE I) ?_;refine rZ (bW (bO I) fun b3=>?_);refine bW (bO I) fun b4=>?_;refine bW (bO I) fun b5=>?_;refine aT I (sQ (rZ (lK (qV 2 ba aC I I I) (lK (qV 1 ba aC I I I) (lW (bS sty109 I I I (ae sB) dC) ?_)))));rintro _ _ _ ⟨b19,rfl,rfl,rfl⟩;refine zb5 fun g1 hle1 hb19=>?_;have hs19:SlA dM g1 (.slice (some ⟨b19,0,none⟩) 2 2) [⟨pl,l.length,cl⟩,⟨pm,m.length,cm⟩]:=SlA.lit hb19 rfl rfl;refine lU (eN underlying109 I) (lM I (tZ (bK ?_)));have hv1:=hv.mono hle1;have hu1:=hu.mono hle1;have hLs:aF (fun (A:List Cl) (sv:Sv)=>ar g1 (.slice sv.p sv.n sv.c) A) [l,m] [⟨pl,l.length,cl⟩,⟨pm,m.length,cm⟩]:=⟨hv1,hu1,trivial⟩;refine oP (ι:=Nat) (fun k=>[(3,pp b3 0),(4,pp b4 0),(5,pp b5 0),(19,.slice (some ⟨b19,0,none⟩) 2 2),(20,vi 2),(21,vi k)]) (fun _=>g1) (fun _=>pt b5 (.cells #[.slice pI rs.length cI] 33 (0,0))::pt b4 (.cells #[.slice pm m.length cm] 29 (0,0))::pt b3 (.cells #[.slice pl l.length cl] 29 (0,0))::s) (fun k=>k≤2) (fun k=>2 - k) 0
  sB rfl rfl (zf6 _) ?_
 rintro k hk;refine rZ (yL I (tZ (sQ ?_)));refine iP I (fun hlt=>?_) (fun hlt=>?_)
 ·have hk2:k<2:=oM;obtain ⟨A,sv,hgk,hcA,hcf,hfA⟩:∃ (A:List Cl) (sv:Sv),([⟨pl,l.length,cl⟩,⟨pm,m.length,cm⟩]:List Sv)[((k:Nat):Int).toNat]?=some sv∧ar g1 (.slice sv.p sv.n sv.c) A∧(aG A).2=0∧ci A:=by
   rcases (by omega:k=0∨k=1) with rfl | rfl
   ·exact⟨l,_,I,hv1,h.cl,fl⟩
   ·exact⟨m,_,I,hu1,h.cm,fm⟩
  obtain ⟨q,n,d⟩:=sv;dsimp only at hcA;refine kP (tN (sQ (bK (rZ (lU (iA underlying109 aC I I I oM (show (k:Int)<((2:Nat):Int) by omega)) ?_)))));refine lK (eA ba aC I (za7 hs19) hgk) (bW (aL zl5) fun b8=>?_);refine oZ (sK 0 aC I I I I I sB) ?_;refine tZ (rZ (lK (qV 0 ba aC I I I) (lW (cL call14 I (kS E g1 _ _ A hcA hfA)) ?_)));rintro _ _ _ ⟨rfl,rfl,rfl⟩;rw[hcf];refine lM I (yX I (yX I (lA I (aT I (sW I (lU (SU.eq (v':=vb false) (nQ I I) (ze2 vb (zf7 (by simp)))) ?_))))));refine tZ (za1 I (kP (bN (tN (rG (yD I (lM I (nL (dR (.cons _ (.refl _)) ?_)))))))));exact ST.again (k+1) sB I I oM oM
 ·clear hlt hs19 hb19 hLs;have hidl:((aa l).map Cl.id).length=rs.length:=by rw[ze6]; exact hlen
  refine xI (tX (tX (bX (tN (rZ (lK (qV 2 ba aC I I I) (lW (cL call56 I (xq E g1 _ _ l hv1 fl hR.asc)) ?_)))))));rintro _ g2 _ ⟨rfl,hle2,hids⟩;obtain ⟨pD,cD,rfl⟩:=za4 hids;have hle12:=hle1.trans hle2;refine aT I (sQ (sW I (lU (eN aH I) (lU (fA AF I sizeOf31 I) (lK (qL (v:=.slice pI rs.length cI) isAgg31 I (cO 0 I I)) (lU (eN AG I) (lU (SU.eq (v':=vb false) (nQ I I) (ze2 vb (zf7 oM))) (tZ (za1 I (kP (tN (rZ (lK (qV 0 isAgg33 sizeOf33 I I I) (lW (cL call57 I (ww E g2 _ pI rs.length cI rs _ (za5 hrs hle12) (hall.mono fun _ _ h=>ImR.mono hle12 h) hnd (by rw[ze6]; omega))) ?_))))))))))))));rintro _ g3 _ ⟨rfl,hle3,mt,rfl,hmt⟩;refine aT I (sQ (rZ (lU (fA AF I sizeOf31 I) (lK (qL (v:=.slice pI rs.length cI) isAgg31 I (cO 0 I I)) (lU (eN AG I) (lM I (tZ (bK ?_))))))));have hle13:=hle12.trans hle3;have hids3:=za5 hids hle3;have hrs3:=za5 hrs hle13;have hall3:=hall.mono fun _ _ h=>ImR.mono hle13 h;have hv3:=hv.mono hle13;have hu3:=hu.mono hle13;clear hids hrs hall hle12 hle2 hle1 hv1 hu1 hle3 hv hu;refine oP (ι:=Nat×PH) (fun i=>[(3,pp b3 0),(4,pp b4 0),(5,pp b5 0),(11,.slice pD ((aa l).map Cl.id).length cD),(12,.map (some mt)),(45,.slice pI rs.length cI),(46,vi rs.length),(47,vi i.1)]) (fun i=>i.2) (fun _=>pt b5 (.cells #[.slice pI rs.length cI] 33 (0,0))::pt b4 (.cells #[.slice pm m.length cm] 29 (0,0))::pt b3 (.cells #[.slice pl l.length cl] 29 (0,0))::s) (fun i=>i.1≤rs.length∧Le g3 i.2) (fun i=>rs.length - i.1) (0,g3)
   sB rfl rfl ⟨zf6 _,zb9 _⟩ ?_
  rintro ⟨k,gk⟩ ⟨hk,hlek⟩;dsimp only at hk hlek ⊢;refine rZ (yL I (tZ (sQ ?_)));refine iP I (fun hlt=>?_) (fun hlt=>?_)
  ·have hkr:k<rs.length:=oM;have hkl:k<(aa l).length:=oM;have hrsk:=za5 hrs3 hlek;have hallk:=hall3.mono fun _ _ h=>ImR.mono hlek h;have hidk:=za5 hids3 hlek;have hb1:=za6 hrsk oM;have hb2:=za6 hidk oM;have hgx:rs[((k:Nat):Int).toNat]?=some rs[k]:=gE hkr;have hgi:((aa l).map Cl.id)[((k:Nat):Int).toNat]?=some (aa l)[k].id:=by
    show ((aa l).map Cl.id)[k]?=_;rw[zh9,gE hkl];rfl
   have hcr:=hallk.get (i:=k) (a:=((aa l)[k].id,img (aa l)[k].id)) (by rw[zh9,gE hkl]; rfl) (gE hkr);have hx:(aa l)[k]∈aa l:=gM hkl;generalize (aa l)[k]=x at *;generalize rs[k]=r at *;obtain ⟨xi,xp,xn,xc⟩:=r;obtain ⟨e1,hxs⟩:=hcr;dsimp only at e1 hxs;subst e1;obtain rfl:xn=(img x.id).length:=(SlA.cap hxs).1;have hcan:tW (img x.id)=img x.id:=h.canonic hx (l6 _);have htm:=h.tame him hx;have ha1:=h.asc1 hx;have hf64:=(h.fit x hx).2.2.2;have hfind:=h.dimOf hx;have hvk:=hv3.mono hlek;have huk:=hu3.mono hlek;have hin:∀ t∈img x.id,qM m x.dim t.1=true:=fun t ht=>by
    obtain ⟨c,h1,h2,h3⟩:=h.there hx t ht;exact zj8.2 ⟨c,h1,by rw[zf8 h2,zf8 h3]; rfl⟩
   have hcu:=y5 l [(x.id,1)];obtain ⟨hul,huf⟩:=h.found hx hcu;have h11:lf [(x.id,1)]:=lf.ones (by simp) (by simp) (by
    intro t ht;simp at ht;subst ht;obtain ⟨y,hy,e⟩:=oG hx;rw[← e];exact hil y hy)
   have hc11:∀ r,(cf [(x.id,(1:Int))] r).natAbs≤1:=fun r=>by rw[wo]; split <;> decide
   have hus:∀ t∈xQ l [(x.id,1)],(t.2=1∨t.2 = -1)∧(t.1,img t.1)∈(aa l).map fun c=>(c.id,img c.id):=fun t ht=>by
    obtain ⟨h1,y,hy,h2⟩:=huf t ht;exact⟨h1,zf2.2 ⟨y,hy,by rw[h2]⟩⟩
   have hui:∀ t∈xQ l [(x.id,1)],(img t.1).length≤64∧(∀ q∈img t.1,q.2.natAbs≤1)∧(∀ r,(cf (img t.1) r).natAbs≤1)∧te (img t.1):=fun t ht=>by
    obtain ⟨h1,y,hy,h2⟩:=huf t ht;rw[← h2];exact⟨(h.fit y hy).2.2.2,h.small hy,h.asc1 hy,h.fit64 him hy⟩
   have hcm:=y5 m (img x.id);have hon:oT (onF img (xQ l [(x.id,1)])) (tW (onT img (xQ l [(x.id,1)]))):=by
    have h1:=l6 (onT img (xQ l [(x.id,1)]));exact⟨h1.1,h1.2.1,fun r=>(h1.2.2 r).trans (ED img r _)⟩
   have heq:=h.equal hx hcu hcm hon;have hol:=sk (img:=img) (us:=xQ l [(x.id,1)]) fun t ht=>(hui t ht).1;have hcl:=sZ (onT img (xQ l [(x.id,1)]));refine kP (tN (sQ (bK (sW I (lU (iA AG sizeOf113 I I hb1 oM (show (k:Int)<((rs.length:Nat):Int) by omega)) ?_)))));refine lK (eA isAgg113 sizeOf113 I (za7 hrsk) hgx) (bW (aL zeroValue113) fun b14=>?_);refine lA I (oZ (sK 0 sizeOf113 I I I I I sB) ?_);refine tZ (sQ (sQ ?_));refine dW [] [(0,2),(1,1),(2,2),(3,2),(4,2),(5,1),(6,2),(7,2),(8,2),(9,1),(10,2),(11,1),(12,0),(13,0),(14,2),(15,2)] ze3 kR ?_;refine pU I (fA mP I zT3 I) (pK I (qL (v:=vi x.id) iT3 I (cO 0 I I)) (yM I (yM I (pU I (iA aH zT3 I I hb2 oM (show (k:Int)<((((aa l).map Cl.id).length:Nat):Int) by omega)) ?_))));refine pK I (eB iT3 I (za7 hidk) hgi I) (pU I (SU.eq (v':=vb false) (nQ I I) (ze2 vb (zf7 (by simp)))) ?_);refine yM I (zb3 I (gT I I I dC) (fA mP I sizeOf77 I) dC (SP.gq I (gT I I I dC) (qL (v:=.slice xp (img x.id).length xc) isAgg77 I (cO 0 I I)) dC (zb3 I (gT I I I dC) (fA mP I sizeOf77 I) dC (SP.gq I (gT I I I dC) (qL (v:=.slice xp (img x.id).length xc) isAgg77 I (cO 0 I I)) dC (SP.go I (gT I I I dC) (cL call59 I (ie E hE gk _ _ (img x.id) hxs htm)) dC (.inr iR) ?_)))));rintro _ g4 _ ⟨rfl,hle4,hs4⟩;rw[hcan] at hs4;obtain ⟨q4,d4,rfl⟩:=za4 hs4;refine SP.go I (gT I I I dC) (cL call58 I (yR E g4 _ _ _ (img x.id) (za5 hxs hle4) hs4 oM)) dC (.inr iR) ?_;rintro _ _ _ ⟨rfl,rfl,rfl⟩;refine zb3 I (gT I I I dC) (SU.not I) dC (pU I (wF I I) (pN (tN (za1 I (kP (tN (rZ (lK (qV 3 ba aC I I I) (lU (fA mP I zT3 I) (lK (qL (v:=vi x.id) iT3 I (cO 0 I I)) (lW (cL call19 I (uH E g4 _ _ l x.id (hvk.mono hle4) fl)) ?_)))))))))));rintro _ g5 _ ⟨rfl,hle5,⟨ri,rd,rp,rn,rc⟩,rfl,hr5⟩;rw[hfind] at hr5;obtain ⟨-,hrd,-⟩:=hr5;have hrd:rd=x.dim:=hrd;subst hrd;have hle45:=hle4.trans hle5;have hx5:=za5 hxs hle45;have hu5:=huk.mono hle45;have hv5:=hvk.mono hle45;refine lM I (yX I (yX I (bW (aL zl4) fun b15=>?_)));refine oZ (sK 0 aq I I I I I sB) (aT I (sQ ?_));refine dW [] [(0,1),(1,2),(2,1),(3,2),(4,1),(5,0),(6,2),(7,2),(8,1),(9,2),(10,1),(12,2),(13,1),(14,2),(15,1),(11,0),(16,0),(17,0),(18,0),(19,0),(20,2),(21,2)] ze3 kR ?_;refine pK I (qV 3 ba aC I I I) (pU I (fA au I zT3 I) (pK I (qL (v:=vi x.dim) iT3 I (cO 0 I I)) (pU I (fA mP I sizeOf77 I) (pK I (qL (v:=.slice xp (img x.id).length xc) isAgg77 I (cO 1 I I)) (SP.o I (cL call60 I (FN E hE g5 _ _ _ m x.dim (img x.id) hu5 fm hx5 htm hin)) dC (.inr iR) ?_)))));rintro _ g6 _ ⟨rfl,rfl,hle6⟩;have hu6:=hu5.mono hle6;have hx6:=za5 hx5 hle6;have hv6:=hv5.mono hle6;refine pU rfl (SU.not rfl) (yM rfl (SP.gq rfl (gT rfl rfl rfl dC) (qV 3 ba aC rfl rfl rfl) dC (zb3 rfl (gT rfl rfl rfl dC) (fA mP rfl sizeOf77 rfl) dC (SP.gq rfl (gT rfl rfl rfl dC) (qL (v:=.slice xp (img x.id).length xc) isAgg77 rfl (cO 1 rfl rfl)) dC (yJ rfl (SP.gq rfl (gT rfl rfl rfl dC) (qV 4 ba aC rfl rfl rfl) dC (zb3 rfl (gT rfl rfl rfl dC) (fA mP rfl zT3 rfl) dC (SP.gq rfl (gT rfl rfl rfl dC) (qL (v:=vi x.id) iT3 rfl (cO 1 rfl rfl)) dC (SP.go rfl (gT rfl rfl rfl dC) (cL call62 rfl (mN E hE g6 _ _ _ m (img x.id) hu6 fm hx6 htm ha1 hsm oM)) dC (.inr (by rintro _ g7 _ ⟨rfl,hle7,hs7⟩; exact⟨by exact Le.trans (by assumption) (by assumption),(by exact .refl _)⟩)) ?_)))))))));rintro _ g7 _ ⟨rfl,hle7,hs7⟩;have hle57:=hle6.trans hle7;have hv7:=hv6.mono hle7;obtain ⟨q7,d7,rfl⟩:=za4 hs7;refine SP.go rfl (gT rfl rfl rfl dC) (cL call64 rfl (vC E g7 _ x.id)) dC (.inr (by rintro _ g8 _ ⟨rfl,hle8,hs8⟩; exact⟨by exact Le.trans (by assumption) (by assumption),(by exact .refl _)⟩)) ?_;rintro _ g8 _ ⟨rfl,hle8,hs8⟩;have hle58:=hle57.trans hle8;have hv8:=hv7.mono hle8;obtain ⟨q8,d8,rfl⟩:=za4 hs8;refine SP.go rfl (gT rfl rfl rfl dC) (cL call62 rfl (mN E hE g8 _ _ _ l [(x.id,1)] hv8 fl hs8 h11 hc11 hsl oM)) dC (.inr (by rintro _ g9 _ ⟨rfl,hle9,hs9⟩; exact⟨by exact Le.trans (by assumption) (by assumption),(by exact .refl _)⟩)) ?_;rintro _ g9 _ ⟨rfl,hle9,hs9⟩;have hle59:=hle58.trans hle9;obtain ⟨q9,d9,rfl⟩:=za4 hs9;have hle49:=(hlek.trans hle45).trans hle59;refine SP.go rfl (gT rfl rfl rfl dC) (cL call63 rfl (DJ E hE g9 _ mt _ rs _ img (xQ l [(x.id,1)]) (hmt.mono hle49) (hall3.mono fun _ _ h=>ImR.mono hle49 h) hnd hs9 hus hul hui)) dC (.inr (by rintro _ gA _ ⟨rfl,hleA,hsA,hA1,hA2⟩; exact⟨by exact Le.trans (by assumption) (by assumption),(by exact .refl _)⟩)) ?_;rintro _ gA _ ⟨rfl,hleA,hsA,hA1,hA2⟩;have hle5A:=hle59.trans hleA;have hs7A:=za5 hs7 (hle8.trans (hle9.trans hleA));have hAt:lf (tW (onT img (xQ l [(x.id,1)]))):=lf.can (l6 _) (fun r=>by have:=wh (r:=r) hA1 ; omega) oM (fun t ht=>by obtain ⟨⟨w,hw,e⟩,_⟩:=yU ht ; rw[← e] ; exact hA2 w hw);refine SP.go I (gT I I I dC) (cL call61 I (xw E hE gA _ _ _ _ _ hs7A hsA (by rw[heq]; exact hAt) hAt (fun r=>by rw[heq]))) dC (.inr (by rintro _ gB _ ⟨rfl,rfl,hleB⟩; exact⟨by exact Le.trans (by assumption) (by assumption),(by exact .refl _)⟩)) ?_;rintro _ gB _ ⟨rfl,rfl,hleB⟩;have hle5B:=hle5A.trans hleB;refine zb3 I (gT I I I dC) (SU.not I) dC (pU I (wF I I) (pN (tN (za1 I (kP (bN (tN (rG (yD I (lM I (nL (dR (.cons _ (.cons _ (.refl _))) ?_))))))))))));exact ST.again (k+1,gB) sB I I ⟨by dsimp only; omega,hlek.trans (hle45.trans hle5B)⟩ (by dsimp only; omega)
  ·refine xI (tX (tX (bX (tN (rZ (aT I (rE (dR (s':=s) uR ?_))))))));exact za8 (.inl I) results15 I ⟨I,I,hle13.trans hlek⟩
open Go.ChangeShapes Go.WideShapes Go.ChangeAt Go.RowKit
set_option maxRecDepth 100000
abbrev Ac:=Int×Int×Int×Int
def qN:Enc Ac 4:=⟨fun a=>[vi a.1,vi a.2.1,vi a.2.2.1,vi a.2.2.2],fun _=>rfl,fun _ u hu=>by simp at hu; rcases hu with rfl | rfl | rfl | rfl <;> rfl,by decide⟩
def A64 (a:Ac):Prop:=bw a.1∧bw a.2.1∧bw a.2.2.1∧bw a.2.2.2
theorem wm {n:Int}(h:(Lit.int .i64 n).wf=true):bw n:=by
 have h2:IntKind.i64.min≤n∧n≤IntKind.i64.max:=by simpa [Lit.wf] using h
 unfold bw;simp[IntKind.min,IntKind.max,IntKind.bits,IntKind.signed] at h2;omega
theorem Fu {W:World}{k:Nat}{a:Addr}{len cap:Nat}{xs:List Value}(hl:len≤cap)(hx:xs.length=len * k)(hc:∀ i x,xs[i]?=some x→W.cell? (a.add i)=some x):Sl (tj W) k (.slice (some a) len cap) len xs:=by
 refine⟨some a,cap,I,⟨hx,hl⟩,fun hne=>?_⟩;obtain ⟨b,o,sp⟩:=a;have h0:0<xs.length:=List.length_pos_iff.2 hne;have hc0:=hc 0 xs[0] (gE h0);have hsp:sp=none:=by simpa [Addr.add] using World.cell?_spot hc0
 subst hsp;have hadd:∀ i,(⟨b,o,none⟩:Addr).add i=⟨b,o+i,none⟩:=fun i=>by unfold Addr.add; split <;> simp_all
 simp only[hadd] at hc;have hcell:∀ i x,xs[i]?=some x→∃ cs T fr,W.heap[b]?=some (.cells cs T fr)∧cs[o+i]?=some x:=fun i x hi=>by
  have h1:=hc i x hi;unfold World.cell? at h1;split at h1
  ·rename_i cs T fr hh;exact⟨cs,T,fr,hh,by simpa using h1⟩
  ·cases h1
 obtain ⟨cs,T,fr,hb,_⟩:=hcell 0 xs[0] (gE h0);refine⟨b,o,cs,T,fr,I,hb,fun j x hj=>?_⟩;obtain ⟨cs',T',fr',hb',h2⟩:=hcell j x hj;rw[hb] at hb';cases hb';exact h2
theorem CL {α:Type}{k:Nat}(e:Enc α k){l:List α}{j:Nat}{x:Value}(h:(l.flatMap e.enc)[j]?=some x):∃ i a,l[i]?=some a∧j=i * k+j % k∧j % k<k∧(e.enc a)[j % k]?=some x:=by
 have hj:=(zf5.1 h).1;rw[e.length] at hj;have hk:=e.pos;have h1:j / k<l.length:=by rw[Nat.div_lt_iff_lt_mul hk]; exact hj
 have h2:j % k<k:=Nat.mod_lt _ hk;have h3:j=j / k * k+j % k:=by rw[Nat.mul_comm]; exact (Nat.div_add_mod j k).symm
 refine⟨j / k,l[j / k],gE h1,h3,h2,?_⟩;have h4:(e.enc l[j / k])[j % k]?=some ((e.enc l[j / k])[j % k]'(by rw[e.len]; exact h2)):=gE _;have h5:=e.get (gE h1) h4;rw[← h3,h] at h5;rw[h4,← h5]
section
variable {H:Type}{enc:TypeId×Value→H}{W:World}{base:Nat}{spare:Nat→Bool}{hd:Bool}
theorem Tryz.cells44:Tryz.prog.cellsOf 44=4:=by kernel_rfl
theorem GJ {fuel:Nat}{cs:List Value}{x:DataW H×List MemPlace}(h:DataW.trod enc Tryz.prog W base spare hd fuel 44 cs=some x):∃ a:Ac,cs=qN.enc a∧A64 a:=by
 obtain ⟨y0,y1,y2,y3,n,_,hl,h0,h1,h2,h3⟩:=Go.Joins.trod_struct4 ir h;rw[cells44] at hl
 match cs,hl with
 | [c0,c1,c2,c3],_ =>
  rw[cells3] at h0 h1 h2 h3;obtain ⟨a,e0,_,wa⟩:=DataW.trod_int uT3 h0;obtain ⟨b,e1,_,wb⟩:=DataW.trod_int uT3 h1;obtain ⟨c,e2,_,wc⟩:=DataW.trod_int uT3 h2;obtain ⟨d,e3,_,wd⟩:=DataW.trod_int uT3 h3;simp at e0 e1 e2 e3;subst e0 e1 e2 e3;exact⟨(a,b,c,d),I,wm wa,wm wb,wm wc,wm wd⟩
theorem C2 {fuel:Nat}{v:Value}{x:DataW H×List MemPlace}(h:DataW.trod enc Tryz.prog W base spare hd fuel 25 [v]=some x):∃ l:List Ac,SlA qN (tj W) v l∧∀ a∈l,A64 a:=by
 rcases Go.Deep.open_slice underlying25 h with ⟨hcs,_⟩ | ⟨a,len,cap,m,n,D,Pl,hcs,_,hl,_,hmm,_,hx⟩
 ·simp at hcs;subst hcs;exact⟨[],zc1 _ _,by simp⟩
 ·simp at hcs;subst hcs;have hlm:len≤m:=by rw[hmm]; split <;> omega
  obtain ⟨f,hf⟩:=Go.Deep.choose_lt (α:=Ac) (n:=len) (p:=fun i y=>A64 y∧∀ j x,(qN.enc y)[j]?=some x→W.cell? (a.add (i * 4+j))=some x) fun i hi=>by
   obtain ⟨cs',h1,h2⟩:=hx i oM;rw[cells44] at h1;obtain ⟨y,rfl,hy64⟩:=GJ h2;obtain ⟨_,_,h3⟩:=World.cells?_some h1;refine⟨y,hy64,fun j x hj=>?_⟩;have hj4:j<4:=by have:=(zf5.1 hj).1; rwa [qN.len] at this
   rw[← Go.Deep.add_add,h3 j hj4,hj]
  refine⟨(List.range len).map f,?_,fun z hz=>by
   obtain ⟨i,hi,rfl⟩:=zf2.1 hz;exact (hf i (List.mem_range.1 hi)).1⟩
  show Sl (tj W) 4 _ ((List.range len).map f).length (((List.range len).map f).flatMap qN.enc);rw[ze6,zi4];refine Fu hl (by rw[qN.length,ze6,zi4]) fun j y hj=>?_;obtain ⟨i,b,hi,h1,h2,h3⟩:=CL qN hj;rw[zh9] at hi;cases hc:(List.range len)[i]? with
  | none=>rw[hc] at hi; cases hi
  | some z =>
   rw[hc] at hi;cases hi;obtain ⟨h4,h5⟩:=zf5.1 hc;simp at h4 h5;subst h5;rw[h1];exact (hf i h4).2 _ _ h3
theorem AB {v:Value}{d:DataW H}{p:List MemPlace}(h:DataW.Trod enc Tryz.prog W base spare hd 25 v d p)(hv:v.cells = #[v]):∃ l:List Ac,SlA qN (tj W) v l∧∀ a∈l,A64 a:=by
 obtain ⟨f,hf⟩:=h;rw[hv] at hf;exact C2 hf
end
end Go.Proofs.YtbbppeihhkhkcaaGreatDoor
